/- Texts for the statements of chapter 8: what all of them need, part 9. It holds of every program, tape and world that the statements name, as each theorem says. -/
import Derived.Test.YtamcohjpanjdiaaGreatDoorV7
section
set_option linter.all false
set_option maxRecDepth 20000
set_option maxHeartbeats 60000000
namespace Go.Vel
open Go Go.Conc Go.Proofs
theorem uA:Tryz.prog.underlying 129=some (.array 5 3):=by kernel_rfl
theorem u3:Tryz.prog.underlying 3=some (.int .i64):=by kernel_rfl
theorem i3:Tryz.prog.info? 3=some Tryz.t3:=by kernel_rfl
theorem i3s:Tryz.t3.size=1:=by kernel_rfl
theorem pureS_info {P:Program} {t:TypeId} {i:TypeInfo} (h:P.info? t=some i):pureS P (sizeOf t)=some i.size:=by
 unfold sizeOf typeInfo
 show pureS P ((match P.info? t with | some i=>pure i | none=>stuck "no such type") >>= fun i=>pure i.size)=_
 rw [h]; rfl
theorem eq_int {d:Nat} {a b:Int}:pureS Tryz.prog (Op.equalIn (d+1) 3 (.int .i64 a) (.int .i64 b))=some (a==b):=by
 unfold Op.equalIn
 exact pureS_bind (pureS_underlying u3) rfl
theorem part_int {cs:Array Value} {off:Nat} {v:Value} (h:cs[off]? =some v):pureS Tryz.prog (part 3 cs off)=some v:=by
 unfold part isAgg
 refine pureS_bind (a:=false) ?_ ?_
 ·exact pureS_bind (pureS_underlying u3) rfl
 ·simp [h]; rfl
theorem pureS_bind_eq {α β:Type} {P:Program} (s:Sem α) (f:α->Sem β):pureS P (s >>= f)=(pureS P s).bind fun a=>pureS P (f a):=by
 show pureS P (s.bind f)=_
 induction s with
 | pure a=>rfl
 | program k ih=>exact ih P
 | _=>rfl
theorem pureS_pure {α:Type} {P:Program} (a:α):pureS P (pure a)=some a:=rfl
def stV (s:List Int):Value:=.agg #[.int .i64 (s.getD 0 0),.int .i64 (s.getD 1 0),.int .i64 (s.getD 2 0),.int .i64 (s.getD 3 0),.int .i64 (s.getD 4 0)]
def eqSt (s t:List Int):Bool:=(s.getD 0 0==t.getD 0 0)&&((s.getD 1 0==t.getD 1 0)&&((s.getD 2 0==t.getD 2 0)&&((s.getD 3 0==t.getD 3 0)&&(s.getD 4 0==t.getD 4 0))))
theorem eq_arr {d:Nat} {a0 a1 a2 a3 a4 b0 b1 b2 b3 b4:Int}:pureS Tryz.prog (Op.equalIn (d+2) 129 (.agg #[.int .i64 a0,.int .i64 a1,.int .i64 a2,.int .i64 a3,.int .i64 a4]) (.agg #[.int .i64 b0,.int .i64 b1,.int .i64 b2,.int .i64 b3,.int .i64 b4]))=some (a0==b0&&(a1==b1&&(a2==b2&&(a3==b3&&a4==b4)))):=by
 unfold Op.equalIn
 refine pureS_bind (pureS_underlying uA) ?_
 dsimp only
 refine pureS_bind (pureS_info i3) ?_
 rw [i3s]
 simp only [Std.Legacy.Range.forIn_eq_forIn_range',Std.Legacy.Range.size,Nat.sub_zero,Nat.add_sub_cancel,Nat.div_one]
 simp [List.range']
 have p0:=fun a b c d e:Value=>part_int (cs:=#[a,b,c,d,e]) (off:=0) rfl
 have p1:=fun a b c d e:Value=>part_int (cs:=#[a,b,c,d,e]) (off:=1) rfl
 have p2:=fun a b c d e:Value=>part_int (cs:=#[a,b,c,d,e]) (off:=2) rfl
 have p3:=fun a b c d e:Value=>part_int (cs:=#[a,b,c,d,e]) (off:=3) rfl
 have p4:=fun a b c d e:Value=>part_int (cs:=#[a,b,c,d,e]) (off:=4) rfl
 have e:=fun a b:Int=>eq_int (d:=d) (a:=a) (b:=b)
 rcases h1:(a0==b0) <;> rcases h2:(a1==b1) <;> rcases h3:(a2==b2) <;> rcases h4:(a3==b3) <;> rcases h5:(a4==b4) <;> simp [pureS_bind_eq,pureS_pure,p0,p1,p2,p3,p4,e,h1,h2,h3,h4,h5]
theorem eq_st (s t:List Int):pureS Tryz.prog (Op.equal 129 (stV s) (stV t))=some (eqSt s t):=eq_arr (d:=9998)
theorem check_int {d:Nat} {e:Bool} {a:Int}:pureS Tryz.prog (Instr.checkKey e (d+1) 3 (.int .i64 a))=some ():=by
 unfold Instr.checkKey
 exact pureS_bind (pureS_underlying u3) rfl
theorem check_st {e:Bool} (s:List Int):pureS Tryz.prog (Instr.checkKey e 10000 129 (stV s))=some ():=by
 show pureS Tryz.prog (Instr.checkKey e (9998+2) 129 (stV s))=some ()
 unfold Instr.checkKey
 refine pureS_bind (pureS_underlying uA) ?_
 unfold stV
 dsimp only
 simp only [Std.Legacy.Range.forIn_eq_forIn_range',Std.Legacy.Range.size,Nat.sub_zero,Nat.add_sub_cancel,Nat.div_one]
 simp [List.range']
 have p0:=fun a b c d e:Value=>part_int (cs:=#[a,b,c,d,e]) (off:=0) rfl
 have p1:=fun a b c d e:Value=>part_int (cs:=#[a,b,c,d,e]) (off:=1) rfl
 have p2:=fun a b c d e:Value=>part_int (cs:=#[a,b,c,d,e]) (off:=2) rfl
 have p3:=fun a b c d e:Value=>part_int (cs:=#[a,b,c,d,e]) (off:=3) rfl
 have p4:=fun a b c d e:Value=>part_int (cs:=#[a,b,c,d,e]) (off:=4) rfl
 have hs:pureS Tryz.prog (sizeOf 3)=some 1:=by rw [pureS_info i3,i3s]
 have ck:=fun (e:Bool) (a:Int)=>check_int (d:=9998) (e:=e) (a:=a)
 simp [pureS_bind_eq,pureS_pure,p0,p1,p2,p3,p4,hs,ck]
theorem ask_none {s:List Int}:∀ (es:List MapEntry) (ks:List (List Int)) (i:Nat),es.map (·.key)=ks.map stV->(∀ t∈ks,eqSt s t=false)->pureS Tryz.prog (Instr.findAsking 129 (stV s) es i)=some none
 | [],_,_,_,_=>rfl
 | en::es,[],_,h,_=>by simp at h
 | en::es,t::ks,i,h,hk=>by
  simp only [List.map_cons,List.cons.injEq] at h
  unfold Instr.findAsking
  refine pureS_bind (a:=false) ?_ ?_
  ·rw [h.1,eq_st,hk t sQ]
  ·simp only [Bool.false_eq_true,if_false]
   exact ask_none es ks (i+1) h.2 fun t ht=>hk t (by simp [ht])
def MapS (ob:Obj) (ks:List (List Int)):Prop:=∃ es clock,ob=.map es clock/\es.toList.map (·.key)=ks.map stV
def upS (ob:Obj) (s:List Int):Obj:=match ob with
 | .map es clock=>.map (es.push { key:=stV s,val:=.bool true,born:=clock }) (clock+1)
 | ob=>ob
theorem mapS_nil:MapS (.map #[] 0) []:=⟨#[],0,rfl,rfl⟩
theorem mapS_up {ob:Obj} {ks:List (List Int)} {s:List Int} (h:MapS ob ks):MapS (upS ob s) (ks++[s]):=by
 obtain ⟨es,c,rfl,h⟩:=h
 exact ⟨_,_,rfl,by rw [Array.toList_push,List.map_append,List.map_append,h]; rfl⟩
section
variable {P:Program} {gm:Nat->Option Nat} {V:KV} {env:List AV} {o:Oper}
structure KeyOk (P:Program):Prop where
 u:P.underlying 129=some (.array 5 3)
 ck:∀ s,pureS P (Instr.checkKey false 10000 129 (stV s))=some ()
 fa:∀ (s:List Int) (es:List MapEntry) (ks:List (List Int)) (i:Nat),es.map (·.key)=ks.map stV->(∀ t∈ks,eqSt s t=false)->pureS P (Instr.findAsking 129 (stV s) es i)=some none
theorem keyOk:KeyOk Tryz.prog:=⟨uA,check_st,fun s es ks i=>ask_none es ks i⟩
theorem inv_st {φ:Nat->Loc3} {n:Nat} {s:List Int} {y:Value} (h:RelV φ n (.agg (stC s)) y):y=stV s:=by
 obtain ⟨ys,rfl,h1,h2⟩:=inv_agg h
 have hsz:ys.size=5:=h1.symm
 have g:∀ i:Nat,i<5->ys[i]? =some (.int .i64 (s.getD i 0)):=fun i hi=>by
  have hy:ys[i]? =some ys[i]:=Array.getElem?_eq_getElem oQ
  have hs:(stC s)[i]? =some (slotR s i):=by
   have:i=0\/i=1\/i=2\/i=3\/i=4:=by omega
   rcases this with rfl | rfl | rfl | rfl | rfl <;> rfl
  have:=inv_v (h2 i _ _ hs hy)
  rw [hy,this]
 unfold stV
 congr 1
 refine Array.ext (by simpa using hsz) fun i hi1 hi2=>?_
 have h5:i<5:=by omega
 have hh:=g i h5
 rw [Array.getElem?_eq_getElem hi1] at hh
 rw [Option.some.inj hh]
 have:i=0\/i=1\/i=2\/i=3\/i=4:=by omega
 rcases this with rfl | rfl | rfl | rfl | rfl <;> rfl
theorem s_mapUpdateP (hP:KeyOk P) {t et:TypeId} {x y:Operand} {j:Nat} {ob:Obj} {s:List Int} {ks:List (List Int)} (ho:o.op=.mapUpdate t x y (.const (.bool true))) (hx:opndO gm env x=some (.map j)) (hy:opndO gm env y=some (.agg (stC s))) (ht:P.underlying t=some (.map 129 et)) (hm:(j,.raw ob)∈V) (hf:MapS ob ks) (hn:∀ k∈ks,eqSt s k=false) :
  ∀ A,View V A->OpOk P gm env A o .any (A.set j (.raw (upS ob s))):=fun A hA φ F H a hg hH hE=>by
 unfold execOp; rw [ho]
 refine wpS_u ?_
 have h1:=opnd_rel hg hE x
 rw [opndO_eq hx] at h1
 obtain ⟨hj,e1⟩:=inv_map h1
 have h2:=opnd_rel hg hE y
 rw [opndO_eq hy] at h2
 rw [e1,inv_st h2]
 obtain ⟨es,c,rfl,hk⟩:=hf
 have hb:H (φ j).blk=some (true,.map es c):=hH.obj j _ (hA.get hm)
 have hend:OpPost φ A F .any (A.set j (.raw (upS (.map es c) s))) .skip (H.put (φ j).blk (true,upS (.map es c) s)) :=
  ⟨undef,φ,.inr ⟨rfl,rfl⟩,Agr.refl _ _,by simp,hH.set (hA.get hm) rfl trivial (Hp.put_same _ _ _),.any _⟩
 unfold Instr.mapUpdate
 refine wpS_bind_eq _ _ _ (wpS_underlying ht ?_)
 dsimp only
 refine wpS_bind_eq _ _ _ ?_
 refine ⟨true,_,hb,rfl,rfl,?_⟩
 refine wpS_bind_eq _ _ _ (pureS_wpS _ (hP.ck s) ?_)
 refine wpS_bind_eq _ _ _ ?_
 unfold Instr.findKey
 refine wpS_bind_eq _ _ _ (wpS_underlying hP.u ?_)
 have key:∀ (Q:Option (Nat×Value)->Hp->Prop),Q none H->wpS P (match Instr.findNow (.array 5 3) (stV s) es.toList 0 with | some r=>pure r | none=>Instr.findAsking 129 (stV s) es.toList) H Q:=fun Q hq=>by
  cases hes:es.toList with
  | nil=>exact hq
  | cons en r =>
   have:Instr.findNow (.array 5 3) (stV s) (en::r) 0=none:=rfl
   rw [this]
   exact pureS_wpS _ (hP.fa s _ ks 0 (by rw [<- hes]; exact hk) hn) hq
 refine key _ ?_
 refine ⟨_,hb,rfl,rfl,?_⟩
 exact hend
theorem q_lenMapP {t kt et:TypeId} {x:Operand} {j:Nat} {ob:Obj} {ks:List (List Int)} (ho:o.op=.call { callee:=.builtin .len,args:=#[x],argTypes:=#[t] }) (hx:opndO gm env x=some (.map j)) (ht:P.underlying t=some (.map kt et)) (hm:(j,.raw ob)∈V) (hf:MapS ob ks) :
  Qk P gm env V o (.v (.int .i64 ks.length)):=fun A hA φ F H a hg hH hE=>by
 rw [execOp_builtin ho]
 have h1:=opnd_rel hg hE x
 rw [opndO_eq hx] at h1
 obtain ⟨hj,e1⟩:=inv_map h1
 obtain ⟨es,c,rfl,hk⟩:=hf
 have hb:H (φ j).blk=some (true,.map es c):=hH.obj j _ (hA.get hm)
 simp only [builtin,List.map_toArray,List.map_cons,List.map_nil,e1]
 refine wpS_v ?_
 show wpS _ (underlying t >>= _) H _
 refine wpS_bind_eq _ _ _ (wpS_underlying ht ?_)
 refine wpS_bind_eq _ _ _ ?_
 refine ⟨true,_,hb,rfl,rfl,?_⟩
 have hl:es.size=ks.length:=by have:=congrArg List.length hk; simpa using this
 show OpPost _ _ _ _ _ (.value (goInt es.size)) H
 rw [hl]
 exact OpPost.quiet hH (.v _)
end
end Go.Vel
namespace Go.Vel
open Go Go.Conc
section
variable {P:Program} {gm:Nat->Option Nat} {env:List AV} {A A':List AObj} {o:Oper} {V:KV}
theorem ok_clear {d:Operand} {t e:TypeId} {ti:TypeInfo} {z:Value} {i off m:Nat} (ho:o.op=.call { callee:=.builtin .clear,args:=#[d],argTypes:=#[t] }) (ht:P.underlying t=some (.slice e)) (hi:P.info? e=some ti) (hz:ti.zero=some z) (hzc:z.cells=#[.int .i64 0]) (hd:opnd gm env d=.sl i off m) (hm:0<m) (hs:storeA A i off (List.replicate m (.v (.int .i64 0)))=some A') :
  OpOk P gm env A o (.tup []) A':=fun φ F H a hg hH hE=>by
 rw [execOp_builtin ho]
 have hd':=opnd_rel hg hE d
 rw [hd] at hd'
 obtain ⟨hil,cap,b,hlc,hb,ed⟩:=inv_sl hd'
 simp only [builtin,List.map_toArray,List.map_cons,List.map_nil]
 refine wpS_v ?_
 rw [ed,hb hm]
 obtain ⟨m',rfl⟩:∃ m',m=m'+1:=⟨m - 1,by omega⟩
 unfold Builtin.clear_
 dsimp only
 show wpS P (underlying t >>= _) H _
 refine wpS_bind_eq _ _ _ (wpS_underlying ht ?_)
 refine wpS_bind_eq _ _ _ (wpS_zeroValue hi hz ?_)
 have hzz:(Builtin.zeroCells z.cells (m'+1)).toList=(Array.replicate (m'+1) (Value.int .i64 0)).toList:=by
  rw [hzc]
  unfold Builtin.zeroCells
  apply List.ext_getElem
  ·simp
  ·intro i h1 h2
   simp [Nat.mod_one]
 rw [hzz]
 refine wpS_bind_eq _ _ _ (wpS_store hH hs (ys:=Array.replicate (m'+1) (Value.int .i64 0)) ?_ fun H' hH' hlen=>?_)
 ·have:=relL_vs φ A.length (Array.replicate (m'+1) (Value.int .i64 0))
  simpa using this
 ·exact ⟨_,φ,.inl rfl,Agr.refl _ _,by omega,hH',.tup rfl fun j a y ha=>by simp at ha⟩
theorem q_clear {d:Operand} {t e:TypeId} {i off m:Nat} {ob ob':AObj} (ho:o.op=.call { callee:=.builtin .clear,args:=#[d],argTypes:=#[t] }) (ha:apOf P t=some (e,1,8)) (hz:tyZero P e=some [.int .i64 0]) (hd:opndO gm env d=some (.sl i off m)) (hm:0<m) (hi:(i,ob)∈V) (hs:putO ob off (List.replicate m (.v (.int .i64 0)))=some ob') :
  ∀ A,View V A->OpOk P gm env A o (.tup []) (A.set i ob'):=fun A hA=>by
 unfold apOf at ha
 split at ha
 ·rename_i e' h1
  split at ha
  ·rename_i ti h2
   split at ha
   ·rename_i z h3
    split at ha
    ·rename_i h4
     simp only [Option.some.injEq,Prod.mk.injEq] at ha
     obtain ⟨rfl,h5,h6⟩:=ha
     obtain ⟨i',z',g1,g2,g3⟩:=tyZero_spec hz
     rw [h2] at g1
     cases g1
     rw [h3] at g2
     cases g2
     exact ok_clear ho h1 h2 h3 (by rw [<- Array.toList_inj,g3]) (opndO_eq hd) hm (storeA_of (hA.get hi) hs)
    ·cases ha
   ·cases ha
  ·cases ha
 ·cases ha
end
theorem put_row {xs:List Int} {k:Nat} {n v:Int} {e:TypeId} {s:Nat} (h:k<xs.length) (hn:n=(k:Int)):putO (.row (xs.map intA) e s) (n.toNat*1) [intA v]=some (.row ((xs.set k v).map intA) e s):=by
 subst hn
 unfold putO
 dsimp only
 rw [if_pos ⟨by simp; omega,by simp,rfl⟩,setL_one _ _ _ (by simp; omega),List.map_set]
 simp
theorem setL_rep (c:AV):∀ (m:Nat) (l:List AV) (k:Nat),k+m=l.length->setL l k (List.replicate m c)=l.take k++List.replicate m c
 | 0,l,k,h=>by simp [setL,List.take_of_length_le (by omega:l.length<=k)]
 | m+1,l,k,h=>by
  rw [List.replicate_succ]
  show setL (l.set k c) (k+1) (List.replicate m c)=_
  rw [setL_rep c m (l.set k c) (k+1) (by rw [List.length_set]; omega),List.take_add_one,List.getElem?_set_self oQ,List.take_set_of_le (Nat.le_refl _)]
  simp
theorem put_zero {xs:List Int} {k m:Nat} {e:TypeId} {s:Nat} (h:k+m=xs.length) (hm:0<m):putO (.row (xs.map intA) e s) k (List.replicate m (.v (.int .i64 0)))=some (.row ((xs.take k++List.replicate m 0).map intA) e s):=by
 unfold putO
 dsimp only
 rw [if_pos ⟨by simp; omega,by simpa using hm,by simp [oneA,oneCell]⟩,setL_rep _ _ _ _ (by simpa using h),List.map_append,List.map_take,List.map_replicate]
def compN (xs:List Int):Nat->List Int
 | 0=>[]
 | 1=>xs.take 1
 | p+2=>compN xs (p+1)++(if cutN xs p=cutN xs (p+1) then [] else [cutN xs (p+1)])
def compM (xs:List Int):List Int:=compN xs xs.length
theorem compN_len (xs:List Int):∀ p,p<=xs.length->(compN xs p).length<=p
 | 0,_=>by simp [compN]
 | 1,_=>by simp [compN]; omega
 | p+2,h=>by
  have:=compN_len xs (p+1) oQ
  unfold compN
  rw [List.length_append]
  split <;> simp <;> omega
theorem compN_eq {xs:List Int} {p:Nat} (h:cutN xs p=cutN xs (p+1)):compN xs (p+2)=compN xs (p+1):=by
 conv=>lhs; unfold compN
 rw [if_pos h,List.append_nil]
theorem compN_ne {xs:List Int} {p:Nat} (h:cutN xs p≠cutN xs (p+1)):compN xs (p+2)=compN xs (p+1)++[cutN xs (p+1)]:=by
 conv=>lhs; unfold compN
 rw [if_neg h]
theorem state_eq {s t:List Int} (h:s.length=t.length) (h5:s.length<=5) (he:eqSt s t=true):s=t:=by
 simp only [eqSt,Bool.and_eq_true,beq_iff_eq] at he
 obtain ⟨e0,e1,e2,e3,e4⟩:=he
 refine List.ext_getElem h fun i h1 h2=>?_
 have g:∀ (l:List Int) (h:i<l.length),l.getD i 0=l[i]:=fun l h=>by rw [List.getD_eq_getElem?_getD,List.getElem?_eq_getElem h]; rfl
 have:i=0\/i=1\/i=2\/i=3\/i=4:=by omega
 rw [<- g s h1,<- g t h2]
 rcases this with rfl | rfl | rfl | rfl | rfl <;> assumption
theorem from_pre {b:RBk}:∀ (r:List RBand) (p s:List Int),s∈fromM b p r->s.take p.length=p/\s.length=p.length+r.length
 | [],p,s,h=>by
  unfold fromM at h
  split at h
  ·rw [List.mem_singleton.1 h]; simp
  ·cases h
 | x::r,p,s,h=>by
  unfold fromM at h
  obtain ⟨n,hn,hs⟩:=List.mem_flatMap.1 h
  obtain ⟨h1,h2⟩:=from_pre r (p++[n]) s hs
  rw [List.length_append,List.length_singleton] at h1 h2
  refine ⟨?_,by rw [h2,List.length_cons]; omega⟩
  have:=congrArg (List.take p.length) h1
  rw [List.take_take,List.take_append_of_le_length (Nat.le_refl _),List.take_length,Nat.min_eq_left oQ] at this
  exact this
theorem numsF_nodup:∀ (k:Nat) (n:Int),(numsF n k).Nodup
 | 0,_=>.nil
 | k+1,n=>by
  unfold numsF
  refine List.nodup_cons.2 ⟨fun h=>?_,numsF_nodup k _⟩
  rw [numsF_mem] at h
  omega
theorem from_nodup {b:RBk}:∀ (r:List RBand) (p:List Int),(fromM b p r).Nodup
 | [],p=>by unfold fromM; split <;> simp
 | x::r,p=>by
  unfold fromM
  show List.Pairwise (· ≠ ·) _
  rw [List.pairwise_flatMap]
  refine ⟨fun n _=>from_nodup r _,?_⟩
  have:=numsF_nodup (x.high+1 - x.low).toNat x.low
  unfold numsM
  refine List.Pairwise.imp (fun {a c} hne s hs1 s2 hs2 he=>?_) this
  subst he
  have e1:=(from_pre r _ s hs1).1
  have e2:=(from_pre r _ s hs2).1
  rw [List.length_append,List.length_singleton] at e1 e2
  have:=e1.symm.trans e2
  simp at this
  exact hne this
theorem states_nodup (b:RBk):(statesM b).Nodup:=from_nodup _ _
theorem new_state {b:RBk} (hb:ROk b) {pre:List (List Int)} {S:List Int} (h:pre++[S] <+: statesM b):∀ k∈pre,eqSt S k=false:=fun k hk=>by
 have hnd:(pre++[S]).Nodup:=(states_nodup b).sublist h.sublist
 have hS:S∈statesM b:=h.subset sQ
 have hk2:k∈statesM b:=h.subset (by simp [hk])
 have l1:=(states_mem hb hS).1.len
 have l2:=(states_mem hb hk2).1.len
 cases he:eqSt S k with
 | false=>rfl
 | true =>
  have:=state_eq oQ (by have:=hb.sms.len; omega) he
  subst this
  rw [List.nodup_append] at hnd
  exact absurd rfl (hnd.2.2 S hk S sQ)
end Go.Vel
namespace Go.Vel
open Go Go.Conc Go.Proofs
def cntM (all:List (List Int)) (n:Nat) (v:Int):Nat:=(all.filter fun s=>decide (cutN s n=v)).length
def mostL (all:List (List Int)) (n:Nat):Nat->Int
 | 0=>0
 | k+1=>max (mostL all n k) (cntM (all.take (k+1)) n (cutN (all.getD k []) n))
def askL (b:RBk) (all:List (List Int)):Nat->Int×Int
 | 0=>(-1,all.length)
 | n+1=>if mostL all n all.length<(askL b all n).2 then (n,mostL all n all.length) else askL b all n
def askM (b:RBk) (all:List (List Int)):Int×Int:=askL b all b.seams.length
theorem cnt_snoc {all:List (List Int)} {k:Nat} {st:List Int} (h:all[k]? =some st) (n:Nat) (v:Int):((cntM (all.take (k+1)) n v:Nat):Int)=if v=cutN st n then ((cntM (all.take k) n (cutN st n):Nat):Int)+1 else ((cntM (all.take k) n v:Nat):Int):=by
 unfold cntM
 rw [take_snoc h,List.filter_append,List.length_append]
 by_cases e:v=cutN st n
 ·subst e
  rw [if_pos rfl]; simp
 ·rw [if_neg e]
  have:¬ cutN st n=v:=fun h=>e h.symm
  simp [this]
theorem cnt_le (all:List (List Int)) (n:Nat) (v:Int):cntM all n v<=all.length:=List.length_filter_le _ _
theorem mapOk_congr {ob:Obj} {f g:Int->Int} (h:MapOk ob f) (e:∀ n,f n=g n):MapOk ob g:=by
 have:f=g:=funext e
 rwa [this] at h
theorem most_at {all:List (List Int)} {n k:Nat} {st:List Int} (h:all[k]? =some st):mostL all n (k+1)=max (mostL all n k) (cntM (all.take (k+1)) n (cutN st n)):=by
 have:all.getD k []=st:=by rw [List.getD_eq_getElem?_getD,h]; rfl
 conv=>lhs; unfold mostL
 rw [this]
instance:InfO Tryz.prog 3 Tryz.t3:=⟨by kernel_rfl⟩
instance:TySz Tryz.prog 168 false 1:=⟨by kernel_rfl⟩
instance:TyZA Tryz.prog 168 [.v (.map none)]:=⟨by kernel_rfl⟩
instance:Und Tryz.prog 160 (.map 3 3):=⟨by kernel_rfl⟩
instance:Und Tryz.prog 168 (.map 129 4):=⟨by kernel_rfl⟩
theorem statesApi_ok {main:Bool} {T:Goroutine->Hp->Prop} (hT:Shut Tryz.prog main T)  {b:RBk} {s h e:Nat} (hl:b.seams.length<=100) (hm:b.measures.length<=100) :
  CallK Tryz.prog T gmR 51 [.agg (rollC b s h e)] [(0,checksG),(s,seamO b),(h,shrO b),(e,measO b)] (fun r K'=>r=.tup [intA (if checkM b=0 then (statesM b).length else 0),intA (checkM b)]/\K'=[(0,checksG),(s,seamO b),(h,shrO b),(e,measO b)]):=by
 refine callK_in3 24 hT Tryz.func51 fun Y hro hret=>?_
 refine au [4,5,21] ?_
 intro jb hjb
 refine au [2,2,3,4,5,8] ?_
 refine TK.cl rfl rfl rfl rfl (opened0_ok hT (Kx:=[]) hl hm) ?_
 rintro r1 K2 h3
 rcases h3 with ⟨⟨hbar,rfl⟩ | ⟨hbar,rfl⟩,rfl⟩
 ·refine au [1,10,10,22] ?_
  intro j4 hj4
  refine au [17,2,3,4,4,5,1,6,3,20] ?_
  refine ⟨fun hc0=>?_,fun hc0=>?_⟩
  ·exact absurd hc0 sQ
  have hbb:=check_ok0 hbar
  refine au [12,4,5] ?_
  refine TK.newM rfl rfl rfl (n_makeMap rfl) (fun _=>putS rfl (by simp only [List.set]; rfl)) fun jm hjm=>?_
  refine au [22] ?_
  intro j6 hj6
  refine au [17,3,4,4,5,8,32,3,13] ?_
  refine TK.kp [(j6,_),(jm,_),(j4,_),(jb,_),(0,_),(s,_),(h,_),(e,_)] ?_
  refine TK.rangeStates hT hbb (s:=s) (h:=h) (e:=e) (J:=fun pre K1=>∃ ob,MapS ob pre/\K1=[(j6,.cells [.map jm] 168 true),(jm,.raw ob),(j4,.cells (rollC b s h e) 113 true),(jb,.cells (rollC b s h e) 26 true),(0,checksG)]) (D:=fun _ _=>False) rfl hro rfl (by repeat (first | exact Split.none _ | exact Split.all _ | (apply Split.rem; repeat (first | exact Rem.head | apply Rem.tail)) | apply Split.right)) ⟨_,mapS_nil,rfl⟩ (fun Y' l lo lb pre S K1 hbegin hfin hout hpre hJ=>?_) (fun d K2 hJ=>?_) (fun d c K2 hD=>?_)
  ·obtain ⟨ob,hob,rfl⟩:=hJ
   have hnew:=new_state hbb hpre
   refine au [5,22] ?_
   intro j7 hj7
   refine au [17,3] ?_
   refine hbegin _ _ _ _ _ uQ ?_
   refine au [13,5,9,8] ?_
   refine TK.st rfl rfl rfl (s_mapUpdateP keyOk rfl rfl rfl Und.h mQ hob hnew) uQ (putN rfl) ?_
   refine au [3,14] ?_
   exact hfin _ _ [(j6,_),(jm,_),(j4,_),(jb,_),(0,_)] _ (by repeat (first | exact Split.none _ | exact Split.all _ | (apply Split.rem; repeat (first | exact Rem.head | apply Rem.tail)) | apply Split.right)) ⟨_,mapS_up hob,rfl⟩
  ·obtain ⟨ob,hob,rfl⟩:=hJ
   simp only [List.cons_append,List.nil_append]
   refine au [14,4,5,9] ?_
   refine TK.a rfl (q_lenMapP rfl rfl Und.h mQ hob) ?_
   refine au [2,2,3] ?_
   refine TK.leave (.ret _) fun A hA=>hret _ _ _ _ ([(0,_),(s,_),(h,_),(e,_)]) ([(0,_),(s,_),(h,_),(e,_)]) _ _ _ (.inr rfl) (by repeat (first | exact Split.none _ | exact Split.all _ | (apply Split.rem; repeat (first | exact Rem.head | apply Rem.tail)) | apply Split.right)) sQ sQ (by repeat (first | exact Split.none _ | exact Split.all _ | (apply Split.rem; repeat (first | exact Rem.head | apply Rem.tail)) | apply Split.right)) (res_many (.cons (rk_tmp rfl) (.cons (rk_tmp rfl) ResKs.nil)) rfl) ?_ A hA
   exact ⟨by rw [hbar,if_pos rfl],rfl⟩
  ·exact hD.elim
 ·refine au [1,10,10,22] ?_
  intro j4 hj4
  refine au [17,2,3,4,4,5,1,6,3,20] ?_
  refine ⟨fun hc0=>?_,fun hc0=>?_⟩
  ·
   refine au [4,5,1,2,2,3] ?_
   refine TK.leave (.ret _) fun A hA=>hret _ _ _ _ ([(0,_),(s,_),(h,_),(e,_)]) ([(0,_),(s,_),(h,_),(e,_)]) _ _ _ (.inr rfl) (by repeat (first | exact Split.none _ | exact Split.all _ | (apply Split.rem; repeat (first | exact Rem.head | apply Rem.tail)) | apply Split.right)) sQ sQ (by repeat (first | exact Split.none _ | exact Split.all _ | (apply Split.rem; repeat (first | exact Rem.head | apply Rem.tail)) | apply Split.right)) (res_many (.cons (rk_tmp rfl) (.cons (rk_tmp rfl) ResKs.nil)) rfl) ?_ A hA
   exact ⟨by rw [if_neg hbar],rfl⟩
  exact absurd hbar (by simpa using hc0)
theorem ask_ok {main:Bool} {T:Goroutine->Hp->Prop} (hT:Shut Tryz.prog main T)  {b:RBk} {s h e:Nat} (hl:b.seams.length<=100) (hm:b.measures.length<=100) :
  CallK Tryz.prog T gmR 40 [.agg (rollC b s h e)] [(0,checksG),(s,seamO b),(h,shrO b),(e,measO b)] (fun r K'=>(checkM b≠0/\r=.tup [intA 0,intA 0,intA (checkM b)]/\K'=[(0,checksG),(s,seamO b),(h,shrO b),(e,measO b)])\/(checkM b=0/\statesM b=[]/\r=.tup [intA 0,intA 0,intA 9]/\K'=[(0,checksG),(s,seamO b),(h,shrO b),(e,measO b)])\/(checkM b=0/\statesM b≠[]/\r=.tup [intA (askM b (statesM b)).1,intA (askM b (statesM b)).2,intA 0]/\K'=[(0,checksG),(s,seamO b),(h,shrO b),(e,measO b)])):=by
 refine callK_in 58 hT Tryz.func40 fun Y hret=>?_
 refine au [4,5,21] ?_
 intro jb hjb
 refine au [2,2,2,3,4,5,8] ?_
 refine TK.cl rfl rfl rfl rfl (known0_ok hT (Kx:=[]) hl hm) ?_
 rintro r1 K2 h3
 rcases h3 with ⟨hbar,rfl,rfl⟩ | ⟨hbar,hnil,rfl,rfl⟩ | ⟨hbar,hne,a,rfl,rfl⟩
 ·refine au [1,10,10,22] ?_
  intro j5 hj5
  refine au [17,2,3,4,4,5,1,6,3,20] ?_
  refine ⟨fun hc0=>?_,fun hc0=>?_⟩
  ·
   refine au [4,5,1,2,2,2,3] ?_
   refine TK.rt hret [(0,_),(s,_),(h,_),(e,_)] ?_
   exact .inl ⟨hbar,rfl,rfl⟩
  exact absurd hbar (by simpa using hc0)
 ·refine au [1,10,10,22] ?_
  intro j5 hj5
  refine au [17,2,3,4,4,5,1,6,3,20] ?_
  refine ⟨fun hc0=>?_,fun hc0=>?_⟩
  ·
   refine au [4,5,1,2,2,2,3] ?_
   refine TK.rt hret [(0,_),(s,_),(h,_),(e,_)] ?_
   exact .inr (.inl ⟨hbar,hnil,rfl,rfl⟩)
  exact absurd hc0 dQ
 ·refine au [1,10,10,22] ?_
  intro j5 hj5
  refine au [17,2,3,4,4,5,1,6,3,20] ?_
  refine ⟨fun hc0=>?_,fun hc0=>?_⟩
  ·exact absurd hc0 sQ
  have hbb:=check_ok0 hbar
  have hlen:=states_len hbb
  have hpos:0<(statesM b).length:=List.length_pos_iff.2 hne
  have hall:okAll b (statesM b):=fun st hst=>(states_mem hbb hst).1
  have hs5:=hbb.sms.len
  refine au [12,4] ?_
  refine TK.draw [0,1,2,3,4] [0,1,2,3,4] (by kernel_rfl) (by kernel_rfl) ?_
  refine TD.z [5] rfl (q_fieldAddr rfl rfl FldOf.h dQ) ?_
  refine TD.y [19] rfl (hq:=q_load1 rfl rfl TySz.h (List.Mem.head _) rfl) (h:=?_)
  refine TD.z [20] rfl (q_len rfl rfl rfl Und.h) ?_
  refine TD.as (pend':=[⟨2,[20],[]⟩,⟨1,[19],[(_,_)]⟩,⟨0,[5],[]⟩]) [] rfl rfl (q_assign rfl rfl) ?_
  refine TD.as (pend':=[]) [21] rfl rfl (q_assign rfl rfl) ?_
  refine TD.fin ?_
  refine au [4,4,5,7,9,28,1,3,13] ?_
  refine TK.maskL [1,2,3,4,5,23,24,25] ?_
  refine TK.kp [(a,_),(0,_),(s,_),(h,_),(e,_),(j5,_),(jb,_)] ?_
  refine TK.loopN (fun n env K=>∃ (i:Nat),n=b.seams.length - i/\i<=b.seams.length/\env=[.any,.ptr jb 0,intA (askL b (statesM b) i).1,intA (askL b (statesM b) i).2,intA 0,.ptr j5 0,.any,.any,.any,.any,.any,.any,.any,.any,.any,.any,.any,.any,.any,.any,.any,.any,.any,.sl s 0 b.seams.length,intA b.seams.length,intA i,.any,.any,.any,.any,.any,.any,.any,.any,.any,.any,.any,.any,.any,.any,.any,.any,.any,.any,.any,.any,.any,.any,.any,.any,.any,.any,.any,.any,.any,.any,.any,.any]/\K=[(a,allO (statesM b)),(0,checksG),(s,seamO b),(h,shrO b),(e,measO b),(j5,.cells (knownC b s h e a (statesM b).length) 139 true),(jb,.cells (rollC b s h e) 26 true)]) b.seams.length ⟨0,rfl,Nat.zero_le _,rfl,rfl⟩ fun n env K hI hnext=>?_
  obtain ⟨i,rfl,hi,rfl,rfl⟩:=hI
  refine au [4,5,6,3,4,20] ?_
  refine ⟨fun hc1=>?_,fun hc1=>?_⟩
  ·have hil:i<b.seams.length:=by simp at hc1; omega
   refine au [12,4,13,4,5,1,2,3,4,5] ?_
   refine TK.newM rfl rfl rfl (n_makeMap rfl) (fun _=>putS rfl (by simp only [List.set]; rfl)) fun jm hjm=>?_
   refine au [2,3,4,5,2,3,4,4,5,7,9,28,1,3,13] ?_
   refine TK.maskL [1,2,3,4,5,6,7,8,23,24,25,30,31,32] ?_
   refine TK.loopN (fun n env K=>∃ (q:Nat) (om:Obj),n=(statesM b).length - q/\q<=(statesM b).length/\MapOk om (fun v=>(cntM ((statesM b).take q) i v:Int))/\env=[.any,.ptr jb 0,intA (askL b (statesM b) i).1,intA (askL b (statesM b) i).2,intA 0,.ptr j5 0,intA i,.map jm,intA (mostL (statesM b) i q),.any,.any,.any,.any,.any,.any,.any,.any,.any,.any,.any,.any,.any,.any,.sl s 0 b.seams.length,intA b.seams.length,intA i,.any,.any,.any,.any,.sl a 0 (statesM b).length,intA (statesM b).length,intA q,.any,.any,.any,.any,.any,.any,.any,.any,.any,.any,.any,.any,.any,.any,.any,.any,.any,.any,.any,.any,.any,.any,.any,.any,.any]/\K=[(jm,.raw om),(a,allO (statesM b)),(0,checksG),(s,seamO b),(h,shrO b),(e,measO b),(j5,.cells (knownC b s h e a (statesM b).length) 139 true),(jb,.cells (rollC b s h e) 26 true)]) (statesM b).length ⟨0,_,rfl,Nat.zero_le _,mapOk_congr mapOk_nil (fun v=>rfl),rfl,rfl⟩ fun n env K hI hnext1=>?_
   obtain ⟨q,om,rfl,hq,hom,rfl,rfl⟩:=hI
   refine au [4,5,6,3,4,20] ?_
   refine ⟨fun hc2=>?_,fun hc2=>?_⟩
   ·have hql:q<(statesM b).length:=by simp at hc2; omega
    obtain ⟨st,hst⟩:∃ st,(statesM b)[q]? =some st:=⟨_,List.getElem?_eq_getElem hql⟩
    have hcl:cntM ((statesM b).take q) i (cutN st i)<=243:=by have:=cnt_le ((statesM b).take q) i (cutN st i); rw [List.length_take] at this; omega
    have hom2:MapOk (upM om (cutN st i) ((cntM ((statesM b).take q) i (cutN st i):Int)+1)) (fun v=>(cntM ((statesM b).take (q+1)) i v:Int)):=mapOk_congr (upM_ok hom) (fun v=>(cnt_snoc hst i v).symm)
    refine au [12,4,13,4,5,36] ?_
    refine TK.a rfl (q_load rfl rfl TySz.h mQ (all_at (i:=q) hst rfl)) ?_
    refine au [22] ?_
    intro j10 hj10
    refine au [17,3,4,5,1,1] ?_
    refine TK.a rfl (q_indexArr rfl rfl rfl ArEl.h oQ oQ) ?_
    refine TK.a rfl (q_load1 rfl rfl TySz.h mQ (st_at (i:=i) oQ rfl)) ?_
    refine TK.a rfl (q_lookup rfl rfl rfl Und.h Und.h InfO.h rfl mQ hom) ?_
    refine TK.a rfl (q_add rfl rfl rfl (by show -9223372036854775808<=((cntM ((statesM b).take q) i (cutN st i):Nat):Int)+1/\((cntM ((statesM b).take q) i (cutN st i):Nat):Int)+1<9223372036854775808; omega)) ?_
    refine TK.st rfl rfl rfl (s_mapUpdate rfl rfl rfl rfl Und.h Und.h mQ hom) uQ (putN rfl) ?_
    refine au [3,5,1,1,1] ?_
    refine TK.a rfl (q_indexArr rfl rfl rfl ArEl.h oQ oQ) ?_
    refine TK.a rfl (q_load1 rfl rfl TySz.h mQ (st_at (i:=i) oQ rfl)) ?_
    refine TK.a rfl (q_lookup rfl rfl rfl Und.h Und.h InfO.h rfl mQ hom2) ?_
    refine TK.a rfl (q_maxI rfl rfl rfl) ?_
    refine au [2,3,14,5,23,1,3] ?_
    refine TK.maskL [1,2,3,4,5,6,7,8,23,24,25,30,31,32] ?_
    refine TK.kp [(jm,_),(a,_),(0,_),(s,_),(h,_),(e,_),(j5,_),(jb,_)] ?_
    exact hnext1 _ _ _ oQ ⟨q+1,_,rfl,by omega,hom2,by rw [most_at hst]; rfl,rfl⟩
   obtain rfl:q=(statesM b).length:=by simp at hc2; omega
   refine au [16,4,5,1,1,6,3,20] ?_
   refine ⟨fun hc3=>?_,fun hc3=>?_⟩
   ·refine au [5,1,1,2,2,3,14,5,23,1,3] ?_
    refine TK.maskL [1,2,3,4,5,23,24,25] ?_
    refine TK.kp [(a,_),(0,_),(s,_),(h,_),(e,_),(j5,_),(jb,_)] ?_
    exact hnext _ _ _ oQ ⟨i+1,rfl,by omega,by rw [show askL b (statesM b) (i+1)=(((i:Nat):Int),mostL (statesM b) i (statesM b).length) from if_pos (of_decide_eq_true hc3)]; rfl,rfl⟩
   refine au [12,14,5,23,1,3] ?_
   refine TK.maskL [1,2,3,4,5,23,24,25] ?_
   refine TK.kp [(a,_),(0,_),(s,_),(h,_),(e,_),(j5,_),(jb,_)] ?_
   exact hnext _ _ _ oQ ⟨i+1,rfl,by omega,by rw [show askL b (statesM b) (i+1)=askL b (statesM b) i from if_neg (of_decide_eq_false hc3)]; rfl,rfl⟩
  obtain rfl:i=b.seams.length:=by simp at hc1; omega
  refine au [16,4,5,1,1,2,2,2,3] ?_
  refine TK.rt hret [(0,_),(s,_),(h,_),(e,_)] ?_
  exact .inr (.inr ⟨hbar,hne,rfl,rfl⟩)
theorem less_ok {main:Bool} {T:Goroutine->Hp->Prop} (hT:Shut Tryz.prog main T) {gm:Nat->Option Nat} {x y:Int} :
  CallK Tryz.prog T gm 194 [intA x,intA y] [] (fun r K'=>r=boolA (decide (x<y))/\K'=[]):=by
 refine callK_in 17 hT Tryz.func194 fun Y hret=>?_
 refine au [4,5,2,3,4,5,1] ?_
 refine TK.cl rfl rfl rfl rfl (isNaN_ok hT) ?_
 rintro r1 K2 ⟨rfl,rfl⟩
 refine au [1] ?_
 refine TK.sp 7 (fun g1_3=>?_) (fun g1_3=>?_)
 ·cases g1_3
 refine au [11,11,11,25,1,1,1,6,25,2,3] ?_
 refine TK.rta hret ?_
 exact ⟨rfl,rfl⟩
section
variable {P:Program} {gm:Nat->Option Nat} {T:Goroutine->Hp->Prop} {Y:KX P gm T} {ds:List Nat} {k:List Item} {env env':List AV} {K:KV}
theorem TK.asSl (d:Nat) {j n:Nat} {l:List AV} {e:TypeId} {s:Nat} (hd:env[d]? =some (.row j n)) (hm:(j,.row l e s)∈K) (h:TK Y ds k (env.set d (.sl j 0 n)) K):TK Y ds k env K:=fun A hA φ H ts h1 h2 h3 h4 h5 h6=>by
 have hj:=hA.view.get hm
 have hb:(φ j).base=0:=(h5.obj j _ hj).2.1
 have hr:∀ y,RelV φ A.length (.row j n) y->RelV φ A.length (.sl j 0 n) y:=fun y hy=>by
  have:=unrow_rel (j:=j) hb hy
  simpa [unrow] using this
 exact h _ hA φ H ts h1 h2 h3 h4 h5 (by simpa using h6.set' hd hr)
end
theorem put_row0 {xs:List Int} {k:Nat} {n v:Int} {e:TypeId} {s:Nat} (h:k<xs.length) (hn:n=(k:Int)):putO (.row (xs.map intA) e s) (0+n.toNat*1) [intA v]=some (.row ((xs.set k v).map intA) e s):=by
 rw [Nat.zero_add]
 exact put_row h hn
def ltI (x y:Int):Bool:=decide (x<y)
theorem comp_lead {xs:List Int}:∀ p,p<=xs.length->(compN xs p).length=p->compN xs p=xs.take p
 | 0,_,_=>by simp [compN]
 | 1,_,_=>by simp [compN]
 | p+2,h,hl=>by
  have h1:=compN_len xs (p+1) oQ
  by_cases e:cutN xs p=cutN xs (p+1)
  ·rw [compN_eq e] at hl; omega
  ·rw [compN_ne e] at hl ⊢
   rw [List.length_append,List.length_singleton] at hl
   rw [comp_lead (p+1) oQ oQ]
   exact (take_snoc (cut_get oQ)).symm
theorem comp_drop {xs:List Int} {w i:Nat} {C:List Int} (hC:C.length=w) (h:w<=i) (hi:i<xs.length):(C++xs.drop w)[i]? =some (cutN xs i):=by
 rw [List.getElem?_append_right oQ,List.getElem?_drop,hC,show w+(i - w)=i by omega]
 exact cut_get hi
theorem comp_set {xs C:List Int} {w:Nat} {v:Int} (hC:C.length=w) (h:w<xs.length):(C++xs.drop w).set w v=(C++[v])++xs.drop (w+1):=by
 rw [List.set_append_right _ _ oQ,hC,Nat.sub_self,drop_cons (cut_get h),List.set_cons_zero,List.append_assoc]
 rfl
theorem put_zeroC {xs C:List Int} {k m off:Nat} {e:TypeId} {s:Nat} (hC:C.length=k) (ho:off=k) (h:k+m=(C++xs.drop k).length) (hm:0<m):putO (.row ((C++xs.drop k).map intA) e s) off (List.replicate m (.v (.int .i64 0)))=some (.row ((C++List.replicate m 0).map intA) e s):=by
 subst ho
 rw [put_zero h hm,List.take_left' hC]
instance:Cal Tryz.prog 160:=⟨by kernel_rfl⟩
instance:Cal Tryz.prog 188:=⟨by kernel_rfl⟩
instance:Cal Tryz.prog 194:=⟨by kernel_rfl⟩
theorem insOrd_ok {main:Bool} {T:Goroutine->Hp->Prop} (hT:Shut Tryz.prog main T) {gm:Nat->Option Nat} {j n:Nat} {xs:List Int} (hn:xs.length=n) (h12:1<=n/\n<=12) :
  CallK Tryz.prog T gm 188 [.row j n,intA 0,intA n] [(j,.row (xs.map intA) 3 1)] (fun r K'=>K'=[(j,.row ((sortR ltI xs).map intA) 3 1)]):=by
 refine callK_in 49 hT Tryz.func188 fun Y hret=>?_
 refine au [] ?_
 refine TK.asSl 0 rfl (List.Mem.head _) ?_
 refine au [4,5,1,23,2,3,13] ?_
 refine TK.maskL [0,1,2,6] ?_
 refine TK.loopN (fun n1 env K=>∃ (i:Nat),n1=n - i/\1<=i/\i<=n/\env=[.sl j 0 n,intA 0,intA n,.any,.any,.any,intA i,.any,.any,.any,.any,.any,.any,.any,.any,.any,.any,.any,.any,.any,.any,.any,.any,.any,.any,.any,.any,.any,.any,.any,.any,.any,.any,.any,.any,.any,.any,.any,.any,.any,.any,.any,.any,.any,.any,.any,.any,.any,.any]/\K=[(j,.row ((sortN ltI xs i++xs.drop i).map intA) 3 1)]) (n - 1) ⟨1,rfl,Nat.le_refl _,h12.1,rfl,by rw [sort_one oQ]⟩ fun n1 env K hI hnext=>?_
 obtain ⟨i,rfl,hi1,hi,rfl,rfl⟩:=hI
 refine au [4,4,5,1,1,6,3,20] ?_
 refine ⟨fun hc0=>?_,fun hc0=>?_⟩
 ·have hil:i<n:=by simp at hc0; omega
  obtain ⟨x,hx⟩:∃ x,xs[i]? =some x:=⟨_,List.getElem?_eq_getElem oQ⟩
  have hSl:=sortN_len (lt:=ltI) xs i oQ
  have hTl:(xs.drop (i+1)).length=n - (i+1):=by simp; omega
  refine au [12,4,13,4,5,1,2,3,13] ?_
  refine TK.maskL [0,1,2,6,7] ?_
  refine TK.loopN (fun n1 env K=>∃ (p:Nat),n1=p/\p<=i/\insJ ltI x (sortN ltI xs i) p=insJ ltI x (sortN ltI xs i) (sortN ltI xs i).length/\env=[.sl j 0 n,intA 0,intA n,.any,.any,.any,intA i,intA p,.any,.any,.any,.any,.any,.any,.any,.any,.any,.any,.any,.any,.any,.any,.any,.any,.any,.any,.any,.any,.any,.any,.any,.any,.any,.any,.any,.any,.any,.any,.any,.any,.any,.any,.any,.any,.any,.any,.any,.any,.any]/\K=[(j,.row ((dataM (sortN ltI xs i) (xs.drop (i+1)) x p).map intA) 3 1)]) i ⟨i,rfl,Nat.le_refl _,by rw [hSl],rfl,by have:=data_top (sortN ltI xs i) (xs.drop (i+1)) x; rw [hSl] at this; rw [this,<- drop_cons hx]⟩ fun n1 env K hI hnext1=>?_
  obtain ⟨p,hnp,hp,hins,rfl,rfl⟩:=hI
  subst n1
  have hdl:=data_len (S:=sortN ltI xs i) (T:=xs.drop (i+1)) (x:=x) (j:=p)
  refine au [4,4] ?_
  refine TK.draw [0,1,2,3,4,5,6,7,8,9,10,11,12,13,14] [0,1,2,3,4,5,6,7,8,9,10,11,12,13,14] (by kernel_rfl) (by kernel_rfl) ?_
  refine TD.z [7] rfl (q_move rfl rfl) ?_
  refine TD.z [1] rfl (q_move rfl rfl) ?_
  refine TD.z [16,17] rfl (q_cmp rfl rfl rfl rfl) ?_
  refine TD.z [18] rfl (q_move rfl rfl) ?_
  refine TD.sp 19 (fun g4_4=>?_) (fun g4_4=>?_)
  ·have hp0:0<p:=by simp at g4_4; omega
   obtain ⟨q,rfl⟩:∃ q,p=q+1:=⟨p - 1,by omega⟩
   obtain ⟨y,hy⟩:∃ y,(sortN ltI xs i)[q]? =some y:=⟨_,List.getElem?_eq_getElem oQ⟩
   refine TD.z [0,19] rfl (q_move rfl rfl) ?_
   refine TD.z [7,19] rfl (q_move rfl rfl) ?_
   refine TD.z [19,20,21] rfl (q_indexSl rfl rfl rfl SlEl.h oQ oQ) ?_
   refine TD.y [19,22] rfl (hq:=q_load1 rfl rfl TySz.h (List.Mem.head _) (rows_off (i:=q+1) (data_at oQ) oQ)) (h:=?_)
   refine TD.z [0,19] rfl (q_move rfl rfl) ?_
   refine TD.z [7,19] rfl (q_move rfl rfl) ?_
   refine TD.z [19,25] rfl (q_sub rfl rfl rfl oQ) ?_
   refine TD.z [19,24,26] rfl (q_indexSl rfl rfl rfl SlEl.h oQ oQ) ?_
   refine TD.y [19,27] rfl (hq:=q_load1 rfl rfl TySz.h (List.Mem.head _) (rows_off (i:=q) ((data_prev oQ).trans hy) oQ)) (h:=?_)
   refine TD.cl (pend':=[⟨11,[19,24,26],[]⟩,⟨10,[19,25],[]⟩,⟨9,[7,19],[]⟩,⟨8,[0,19],[]⟩,⟨6,[19,20,21],[]⟩,⟨5,[7,19],[]⟩,⟨4,[0,19],[]⟩,⟨2,[16,17],[]⟩,⟨1,[1],[]⟩,⟨0,[7],[]⟩]) [19,23,28] rfl rfl rfl rfl rfl (less_ok hT) (fun r1 K2 h3=>⟨?_,?_⟩)
   ·rcases h3 with ⟨rfl,rfl⟩
    all_goals simp
   obtain ⟨rfl,rfl⟩:=h3
   try simp only [List.cons_append,List.nil_append]
   refine TD.norm (by simp only [List.set]; rfl) ?_
   refine TD.z [19,29] rfl (q_pickT rfl rfl rfl) ?_
   refine TD.fin ?_
   refine au [20] ?_
   refine ⟨fun hc1=>?_,fun hc1=>?_⟩
   ·have hsw:=data_swap (T:=xs.drop (i+1)) (x:=x) hy
    refine au [12,4,13] ?_
    refine TK.draw [0,1,2,3,4,5,6,7,8,9,10,11,12,13,14,15,16,17] [0,1,5,6,7,8,9,10,11,12,13,14,15,2,3,4,16,17] (by kernel_rfl) (by kernel_rfl) ?_
    refine TD.z [0] rfl (q_move rfl rfl) ?_
    refine TD.z [7] rfl (q_move rfl rfl) ?_
    refine TD.z [0] rfl (q_move rfl rfl) ?_
    refine TD.z [7] rfl (q_move rfl rfl) ?_
    refine TD.z [36] rfl (q_sub rfl rfl rfl oQ) ?_
    refine TD.z [0] rfl (q_move rfl rfl) ?_
    refine TD.z [7] rfl (q_move rfl rfl) ?_
    refine TD.z [39] rfl (q_sub rfl rfl rfl oQ) ?_
    refine TD.z [38,40] rfl (q_indexSl rfl rfl rfl SlEl.h oQ oQ) ?_
    refine TD.y [41] rfl (hq:=q_load1 rfl rfl TySz.h (List.Mem.head _) (rows_off (i:=q) ((data_prev oQ).trans hy) oQ)) (h:=?_)
    refine TD.z [0] rfl (q_move rfl rfl) ?_
    refine TD.z [7] rfl (q_move rfl rfl) ?_
    refine TD.z [43,44] rfl (q_indexSl rfl rfl rfl SlEl.h oQ oQ) ?_
    refine TD.y [45] rfl (hq:=q_load1 rfl rfl TySz.h (List.Mem.head _) (rows_off (i:=q+1) (data_at oQ) oQ)) (h:=?_)
    refine TD.z [33,34] rfl (q_indexSl rfl rfl rfl SlEl.h oQ oQ) ?_
    refine TD.s (pend':=[⟨12,[43,44],[]⟩,⟨11,[7],[]⟩,⟨10,[0],[]⟩,⟨4,[36],[]⟩,⟨3,[7],[]⟩,⟨2,[0],[]⟩]) [42,47] rfl rfl (q_store rfl rfl TySz.h rfl rfl mQ (put_row0 (k:=q+1) oQ rfl)) ?_
    refine TD.z [35,37] rfl (q_indexSl rfl rfl rfl SlEl.h oQ oQ) ?_
    refine TD.s (pend':=[]) [46,48] rfl rfl (q_store rfl rfl TySz.h rfl rfl mQ (put_row0 (k:=q) (by rw [List.length_set]; omega) oQ)) ?_
    refine TD.fin ?_
    refine au [14,5,1,24,2,3] ?_
    refine TK.maskL [0,1,2,6,7] ?_
    refine TK.kp [(j,_)] ?_
    exact hnext1 _ _ _ oQ ⟨q,rfl,by omega,by rw [<- hins,insJ_go hy hc1],by rw [show ((q+1:Nat):Int) - 1=(q:Int) by omega]; rfl,by rw [hsw]⟩
   have hstop:=insJ_stop (lt:=ltI) (x:=x) (S:=sortN ltI xs i) (T:=xs.drop (i+1)) (j:=q+1) oQ (fun i1 y1 h1 h2=>by obtain rfl:q=i1:=oQ; rw [hy] at h2; cases h2; exact hc1)
   rw [hins] at hstop
   refine au [16,14,5,1,23,2,3] ?_
   refine TK.maskL [0,1,2,6] ?_
   refine TK.kp [(j,_)] ?_
   exact hnext _ _ _ oQ ⟨i+1,rfl,by omega,by omega,rfl,by rw [sortN_succ hx,<- hstop]⟩
  obtain rfl:p=0:=by simp at g4_4; omega
  have hstop:=insJ_stop (lt:=ltI) (x:=x) (S:=sortN ltI xs i) (T:=xs.drop (i+1)) (j:=0) (Nat.zero_le _) (fun i y h=>by omega)
  rw [hins] at hstop
  refine TD.u [0,19] rfl ?_
  refine TD.u [7,19] rfl ?_
  refine TD.u [19,20,21] rfl ?_
  refine TD.u [19,22] rfl ?_
  refine TD.u [0,19] rfl ?_
  refine TD.u [7,19] rfl ?_
  refine TD.u [19,25] rfl ?_
  refine TD.u [19,24,26] rfl ?_
  refine TD.u [19,27] rfl ?_
  refine TD.u [19,23,28] rfl ?_
  refine TD.z [19,29] rfl (q_pickF rfl rfl rfl) ?_
  refine TD.fin ?_
  refine au [19,16,14,5,1,23,2,3] ?_
  refine TK.maskL [0,1,2,6] ?_
  refine TK.kp [(j,_)] ?_
  exact hnext _ _ _ oQ ⟨i+1,rfl,by omega,by omega,rfl,by rw [sortN_succ hx,<- hstop]⟩
 obtain rfl:i=n:=by simp at hc0; omega
 have hfin:[(j,AObj.row ((sortN ltI xs i++xs.drop i).map intA) 3 1)]=[(j,.row ((sortN ltI xs xs.length).map intA) 3 1)]:=by rw [hn,List.drop_eq_nil_of_le oQ,List.append_nil]
 refine au [16] ?_
 refine TK.rt0 hret [(j,_)] ?_
 rw [show sortR ltI xs=sortN ltI xs xs.length from rfl]
 exact hfin
theorem pdqOrd_ok {main:Bool} {T:Goroutine->Hp->Prop} (hT:Shut Tryz.prog main T) {gm:Nat->Option Nat} {lim:Int} {j n:Nat} {xs:List Int} (hn:xs.length=n) (h12:1<=n/\n<=12) :
  CallK Tryz.prog T gm 160 [.row j n,intA 0,intA n,intA lim] [(j,.row (xs.map intA) 3 1)] (fun r K'=>K'=[(j,.row ((sortR ltI xs).map intA) 3 1)]):=by
 refine callK_in 134 hT Tryz.func160 fun Y hret=>?_
 refine au [4,5,2,3,4,5,2,3,13] ?_
 refine TK.loop ?_
 refine au [13,4,5,1,1,24,2,3,4,4,5,1,6,3,20] ?_
 refine ⟨fun hc0=>?_,fun hc0=>?_⟩
 ·refine au [4,5,1,1,1] ?_
  refine TK.cl rfl rfl rfl rfl (insOrd_ok hT hn h12) ?_
  rintro r1 K2 rfl
  refine au [3] ?_
  refine TK.rt hret [(j,_)] ?_
  exact rfl
 simp at hc0; omega
theorem sort_ok {main:Bool} {T:Goroutine->Hp->Prop} (hT:Shut Tryz.prog main T) {gm:Nat->Option Nat} {j n:Nat} {xs:List Int} (hn:xs.length=n) (h12:1<=n/\n<=12) :
  CallK Tryz.prog T gm 131 [.row j n] [(j,.row (xs.map intA) 3 1)] (fun r K'=>K'=[(j,.row ((sortR ltI xs).map intA) 3 1)]):=by
 refine callK_in 11 hT Tryz.func131 fun Y hret=>?_
 refine au [4,5,1,28,2,3,5,1,1,1] ?_
 refine TK.a rfl (q_convInt rfl rfl Und.h Und.h (wrap_u64n (n:=n) oQ)) ?_
 refine TK.cl rfl rfl rfl rfl (bitsLen_ok hT (n:=n) oQ) ?_ (hs:=(.none _))
 rintro r1 K2 ⟨m,rfl,rfl⟩
 refine au [] ?_
 refine TK.cl rfl rfl rfl rfl (pdqOrd_ok hT hn h12) ?_
 rintro r4 K5 rfl
 refine au [3] ?_
 refine TK.rt0 hret [(j,_)] ?_
 exact rfl
end Go.Vel
namespace Go.Vel
open Go Go.Conc
section
variable {P:Program} {gm:Nat->Option Nat} {T:Goroutine->Hp->Prop} {Y:KX P gm T} {ds:List Nat} {k:List Item} {env env':List AV} {K K' K1:KV} {ops:Array Oper} {i:Nat} {rest:List Nat} {o:Oper} {envf:Nat->List AV}
theorem Upd.same' {K K':KV} {i j:Nat} {o o':AObj} (h:Upd K i o j o' K'):i=j->o'=o->K'=K:=by
 induction h with
 | head=>intro hj e; rw [e,hj]
 | tail _ ih=>intro hj e; rw [ih hj e]
theorem Upd.same {K K':KV} {i:Nat} {o o':AObj} (h:Upd K i o i o' K') (e:o'=o):K'=K:=h.same' rfl e
theorem TK.appG {s x:Operand} {t e:TypeId} {size bytes j n m:Nat} {lo ln:List AV} {u:AV} {K'':Nat->KV} (ho:ops[i]? =some o) (hw:wantA ops env o=some true) (hop:o.op=.call { callee:=.builtin .append,args:=#[s,x],argTypes:=#[t,t] }) (ht:apOf P t=some (e,size,bytes)) (hs:opndO gm env s=some (.row j n)) (hm:(j,.row lo e size)∈K) (hlo:lo.length=n*size) (hx:opndO gm env x=some u) (hl:lenA u=some m) (hsrc:0<m->srcO K size u m ln) (hln:m=0->ln=[])
  (hone:ln.all oneA=true) (hmax:n+m<=maxLen) (hbytes:(n+m)*bytes<=140737488355328) (hu:∀ j',Upd K j (.row lo e size) j' (.row (lo++ln) e size) (K'' j')) (he:∀ j',putA env o.dst (.row j' (n+m))=envf j') (h:∀ j',TK Y ds (.inRegion ops rest::k) (envf j') (K'' j')):TK Y ds (.inRegion ops (i::rest)::k) env K:=by
 rcases Nat.eq_zero_or_pos m with e0 | hpos
 ·subst e0
  have hk:K'' j=K:=(hu j).same (by rw [hln rfl,List.append_nil])
  have ht':=ht
  unfold apOf at ht'
  split at ht'
  ·rename_i e' h1
   split at ht'
   ·rename_i ti h2
    refine TK.q (r:=.row j n) ho (by rw [hop]; rfl) hw (q_app0 hop h1 h2 hs hx hl) (he j) ?_
    rw [<- hk]; exact h j
   ·cases ht'
  ·cases ht'
 ·exact TK.appR ho (by rw [hop]; rfl) hw (a_app hop ht hs hm hlo hx (hsrc hpos) hpos hone hmax hbytes) hu he h
theorem TK.normK (he:K=K') (h:TK Y ds k env K'):TK Y ds k env K:=he ▸ h
end
theorem take_full {l:List AV} {e:TypeId} {rw':Bool} {n size:Nat} (hl:l.length=n*size) (h:0<n*size):takeO (.cells l e rw') 0 (n*size)=some l:=by
 simp only [takeO,AObj.look,Nat.zero_add,List.drop_zero]
 rw [if_pos ⟨h,by omega⟩,<- hl,List.take_length]
theorem flat_all {α:Type} (f:α->List AV) (h:∀ x,(f x).all oneA=true) (xs:List α):(xs.flatMap f).all oneA=true:=by
 induction xs with
 | nil=>rfl
 | cons x xs ih=>rw [List.flatMap_cons,List.all_append,h,ih]; rfl
end Go.Vel
namespace Go.Vel
open Go Go.Conc Go.Proofs
def AgrR (b:RBk) (K:KV) (r:AV) (K':KV):Prop:=(checkM b≠0/\r=.tup [.agg z7R,intA (checkM b)]/\K'=K)\/(checkM b=0/\statesM b=[]/\r=.tup [.agg z7R,intA 9]/\K'=K)\/(checkM b=0/\statesM b≠[]/\∃ s h e,r=.tup [.agg (rollC b s h e),intA 0]/\K'=(s,seamO b)::(h,shrO b)::(e,measO b)::K)
def measuredB (b:RBk) (m:RMeas):RBk:={ b with measures:=b.measures++[m] }
def driedB (b:RBk) (i:Nat) (x:RBand):RBk:={ b with shrinks:=b.shrinks.set i x }
theorem put_band {xs:List RBand} {i:Nat} {n:Int} {x:RBand} {e:TypeId} (h:i<xs.length) (hn:n=(i:Int)):putO (.row (xs.flatMap bandC) e 2) (n.toNat*2) (bandC x)=some (.row ((xs.set i x).flatMap bandC) e 2):=by
 subst hn
 unfold putO
 dsimp only
 have hl:=flat_len bandC 2 (fun _=>rfl) xs
 rw [if_pos ⟨by rw [hl]; simp [bandC]; omega,by simp [bandC],rfl⟩]
 have key:∀ (xs:List RBand) (i:Nat),i<xs.length->setL (xs.flatMap bandC) (i*2) (bandC x)=(xs.set i x).flatMap bandC:=by
  intro xs
  induction xs with
  | nil=>intro i hi; simp at hi
  | cons y r ih =>
   intro i hi
   cases i with
   | zero=>rfl
   | succ i =>
    have:=ih i (by simpa using hi)
    rw [show (i+1)*2=i*2+2 by omega,List.set_cons_succ,List.flatMap_cons,List.flatMap_cons,<- this]
    rfl
 rw [Int.toNat_natCast,key xs i h]
instance:ApOf Tryz.prog 22 94 5 40:=⟨by kernel_rfl⟩
instance:ApOf Tryz.prog 23 51 2 16:=⟨by kernel_rfl⟩
instance:ApOf Tryz.prog 24 49 3 24:=⟨by kernel_rfl⟩
instance:BlOf Tryz.prog 26 [(0,1),(1,1),(2,1),(3,1),(4,1),(5,1),(6,1)]:=⟨by kernel_rfl⟩
instance:Cal Tryz.prog 120:=⟨by kernel_rfl⟩
instance:Cal Tryz.prog 121:=⟨by kernel_rfl⟩
instance:Cal Tryz.prog 125:=⟨by kernel_rfl⟩
instance:Cal Tryz.prog 129:=⟨by kernel_rfl⟩
instance:Cal Tryz.prog 157:=⟨by kernel_rfl⟩
instance:TyZ Tryz.prog 26 [.int .i64 0,.int .i64 0,.int .i64 0,.int .i64 0,.slice none 0 0,.slice none 0 0,.slice none 0 0]:=⟨by kernel_rfl⟩
instance:TyZ Tryz.prog 49 [.int .i64 0,.int .i64 0,.int .i64 0]:=⟨by kernel_rfl⟩
instance:TyZ Tryz.prog 94 [.int .i64 0,.int .i64 0,.int .i64 0,.int .i64 0,.bool false]:=⟨by kernel_rfl⟩
instance:TyZA Tryz.prog 26 [.v (.int .i64 0),.v (.int .i64 0),.v (.int .i64 0),.v (.int .i64 0),.v (.slice none 0 0),.v (.slice none 0 0),.v (.slice none 0 0)]:=⟨by kernel_rfl⟩
theorem cloneSm_ok {main:Bool} {T:Goroutine->Hp->Prop} (hT:Shut Tryz.prog main T) {gm:Nat->Option Nat} {j n:Nat} {l:List AV} {et:TypeId} {rw':Bool} (hl:l.length=n*5) (hone:l.all oneA=true) (hn:n<=100000) :
  CallK Tryz.prog T gm 157 [.sl j 0 n] [(j,.cells l et rw')] (fun r K'=>∃ j2,r=.row j2 n/\K'=[(j,.cells l et rw'),(j2,.row l 94 5)]):=by
 refine callK_in 8 hT Tryz.func157 fun Y hret=>?_
 refine au [4,5,2,3,4,4,5,1] ?_
 refine TK.nilT rfl rfl rfl rfl Und.h fun tz hz=>?_
 refine au [3,20] ?_
 refine ⟨fun hc0=>?_,fun hc0=>?_⟩
 ·refine au [4,5,2] ?_
  refine TK.virt 2 94 5 rfl fun j0 hj0=>?_
  refine au [3] ?_
  refine TK.rt hret [(j,_),(j0,_)] ?_
  obtain rfl:=hz hc0
  obtain rfl:=List.eq_nil_of_length_eq_zero (by simpa using hl)
  exact ⟨_,rfl,rfl⟩
 refine au [12,4,5] ?_
 refine TK.newR rfl rfl rfl (n_buildSlice (l:=[]) rfl SlEl.h TyZ.h dQ dQ rfl) (fun _=>putS rfl (by simp only [List.set]; rfl)) fun j1 hj1=>?_
 refine au [1] ?_
 refine TK.appG (envf:=fun _=>[_,_,_,_,_,_,_,_]) (ln:=l) rfl rfl rfl ApOf.h rfl mQ rfl rfl rfl (fun hp=>src_sl mQ oQ (take_full hl oQ)) (fun h=>by subst h; exact List.eq_nil_of_length_eq_zero (by simpa using hl)) hone (by unfold maxLen; omega) oQ (fun _=>uQ) (fun _=>rfl) fun j2=>?_
 simp only [List.nil_append,Nat.zero_add]
 refine au [2,3] ?_
 refine TK.rt hret [(j,_),(j2,_)] ?_
 exact ⟨_,rfl,rfl⟩
theorem cloneBd_ok {main:Bool} {T:Goroutine->Hp->Prop} (hT:Shut Tryz.prog main T) {gm:Nat->Option Nat} {j n:Nat} {l:List AV} {et:TypeId} {rw':Bool} (hl:l.length=n*2) (hone:l.all oneA=true) (hn:n<=100000) :
  CallK Tryz.prog T gm 125 [.sl j 0 n] [(j,.cells l et rw')] (fun r K'=>∃ j2,r=.row j2 n/\K'=[(j,.cells l et rw'),(j2,.row l 51 2)]):=by
 refine callK_in 8 hT Tryz.func125 fun Y hret=>?_
 refine au [4,5,2,3,4,4,5,1] ?_
 refine TK.nilT rfl rfl rfl rfl Und.h fun tz hz=>?_
 refine au [3,20] ?_
 refine ⟨fun hc0=>?_,fun hc0=>?_⟩
 ·refine au [4,5,2] ?_
  refine TK.virt 2 51 2 rfl fun j0 hj0=>?_
  refine au [3] ?_
  refine TK.rt hret [(j,_),(j0,_)] ?_
  obtain rfl:=hz hc0
  obtain rfl:=List.eq_nil_of_length_eq_zero (by simpa using hl)
  exact ⟨_,rfl,rfl⟩
 refine au [12,4,5] ?_
 refine TK.newR rfl rfl rfl (n_buildSlice (l:=[]) rfl SlEl.h TyZ.h dQ dQ rfl) (fun _=>putS rfl (by simp only [List.set]; rfl)) fun j1 hj1=>?_
 refine au [1] ?_
 refine TK.appG (envf:=fun _=>[_,_,_,_,_,_,_,_]) (ln:=l) rfl rfl rfl ApOf.h rfl mQ rfl rfl rfl (fun hp=>src_sl mQ oQ (take_full hl oQ)) (fun h=>by subst h; exact List.eq_nil_of_length_eq_zero (by simpa using hl)) hone (by unfold maxLen; omega) oQ (fun _=>uQ) (fun _=>rfl) fun j2=>?_
 simp only [List.nil_append,Nat.zero_add]
 refine au [2,3] ?_
 refine TK.rt hret [(j,_),(j2,_)] ?_
 exact ⟨_,rfl,rfl⟩
theorem cloneMe_ok {main:Bool} {T:Goroutine->Hp->Prop} (hT:Shut Tryz.prog main T) {gm:Nat->Option Nat} {j n:Nat} {l:List AV} {et:TypeId} {rw':Bool} (hl:l.length=n*3) (hone:l.all oneA=true) (hn:n<=100000) :
  CallK Tryz.prog T gm 120 [.sl j 0 n] [(j,.cells l et rw')] (fun r K'=>∃ j2,r=.row j2 n/\K'=[(j,.cells l et rw'),(j2,.row l 49 3)]):=by
 refine callK_in 8 hT Tryz.func120 fun Y hret=>?_
 refine au [4,5,2,3,4,4,5,1] ?_
 refine TK.nilT rfl rfl rfl rfl Und.h fun tz hz=>?_
 refine au [3,20] ?_
 refine ⟨fun hc0=>?_,fun hc0=>?_⟩
 ·refine au [4,5,2] ?_
  refine TK.virt 2 49 3 rfl fun j0 hj0=>?_
  refine au [3] ?_
  refine TK.rt hret [(j,_),(j0,_)] ?_
  obtain rfl:=hz hc0
  obtain rfl:=List.eq_nil_of_length_eq_zero (by simpa using hl)
  exact ⟨_,rfl,rfl⟩
 refine au [12,4,5] ?_
 refine TK.newR rfl rfl rfl (n_buildSlice (l:=[]) rfl SlEl.h TyZ.h dQ dQ rfl) (fun _=>putS rfl (by simp only [List.set]; rfl)) fun j1 hj1=>?_
 refine au [1] ?_
 refine TK.appG (envf:=fun _=>[_,_,_,_,_,_,_,_]) (ln:=l) rfl rfl rfl ApOf.h rfl mQ rfl rfl rfl (fun hp=>src_sl mQ oQ (take_full hl oQ)) (fun h=>by subst h; exact List.eq_nil_of_length_eq_zero (by simpa using hl)) hone (by unfold maxLen; omega) oQ (fun _=>uQ) (fun _=>rfl) fun j2=>?_
 simp only [List.nil_append,Nat.zero_add]
 refine au [2,3] ?_
 refine TK.rt hret [(j,_),(j2,_)] ?_
 exact ⟨_,rfl,rfl⟩
theorem copied_ok {main:Bool} {T:Goroutine->Hp->Prop} (hT:Shut Tryz.prog main T) {gm:Nat->Option Nat} {b:RBk} {s h e:Nat} (hb:ROk b) :
  CallK Tryz.prog T gm 129 [.agg (rollC b s h e)] [(s,seamO b),(h,shrO b),(e,measO b)] (fun r K'=>∃ s2 h2 e2,r=.agg (rollC b s2 h2 e2)/\K'=[(s2,seamO b),(h2,shrO b),(e2,measO b),(s,seamO b),(h,shrO b),(e,measO b)]):=by
 refine callK_in 16 hT Tryz.func129 fun Y hret=>?_
 refine au [] ?_
 have hs5:=hb.sms.len
 have hsl:=hb.cls.len
 have hml:=hb.mes.len
 refine au [4,5,21] ?_
 intro jb hjb
 refine au [22] ?_
 intro jr hjr
 refine au [3,4] ?_
 refine TK.draw [0,1,3,4,6,7,2,9,5,8,10,11,12,13,14] [0,1,2,3,4,5,6,7,8,9,10,11,12,13,14] (by kernel_rfl) (by kernel_rfl) ?_
 refine TD.z [1] rfl (q_fieldAddr rfl rfl FldOf.h dQ) ?_
 refine TD.y [3] rfl (hq:=q_load1 rfl rfl TySz.h (List.Mem.head _) rfl) (h:=?_)
 refine TD.z [1] rfl (q_fieldAddr rfl rfl FldOf.h dQ) ?_
 refine TD.y [6] rfl (hq:=q_load1 rfl rfl TySz.h (List.Mem.head _) rfl) (h:=?_)
 refine TD.z [1] rfl (q_fieldAddr rfl rfl FldOf.h dQ) ?_
 refine TD.y [9] rfl (hq:=q_load1 rfl rfl TySz.h (List.Mem.head _) rfl) (h:=?_)
 refine TD.cl (pend':=[⟨7,[9],[(_,_)]⟩,⟨6,[1],[]⟩,⟨4,[6],[(_,_)]⟩,⟨3,[1],[]⟩,⟨0,[1],[]⟩]) [4] rfl rfl rfl rfl rfl (cloneSm_ok hT (flat_len seamC 5 (fun _=>rfl) b.seams) (flat_all seamC (fun _=>rfl) _) oQ) (fun r1 K2 h3=>⟨?_,?_⟩)
 ·rcases h3 with ⟨s2,rfl,rfl⟩
  all_goals simp
 obtain ⟨s2,rfl,rfl⟩:=h3
 try simp only [List.cons_append,List.nil_append]
 refine TD.norm (by simp only [List.set]; rfl) ?_
 refine TD.z [1] rfl (q_fieldAddr rfl rfl FldOf.h dQ) ?_
 refine TD.cl (pend':=[⟨9,[1],[]⟩,⟨7,[9],[(_,_)]⟩,⟨6,[1],[]⟩,⟨3,[1],[]⟩,⟨0,[1],[]⟩]) [7] rfl rfl rfl rfl rfl (cloneBd_ok hT (flat_len bandC 2 (fun _=>rfl) b.shrinks) (flat_all bandC (fun _=>rfl) _) oQ) (fun r4 K5 h6=>⟨?_,?_⟩)
 ·rcases h6 with ⟨h2,rfl,rfl⟩
  all_goals simp
 obtain ⟨h2,rfl,rfl⟩:=h6
 try simp only [List.cons_append,List.nil_append]
 refine TD.norm (by simp only [List.set]; rfl) ?_
 refine TD.cl (pend':=[⟨9,[1],[]⟩,⟨6,[1],[]⟩,⟨3,[1],[]⟩,⟨0,[1],[]⟩]) [10] rfl rfl rfl rfl rfl (cloneMe_ok hT (flat_len measC 3 (fun _=>rfl) b.measures) (flat_all measC (fun _=>rfl) _) oQ) (fun r7 K8 h9=>⟨?_,?_⟩)
 ·rcases h9 with ⟨e2,rfl,rfl⟩
  all_goals simp
 obtain ⟨e2,rfl,rfl⟩:=h9
 try simp only [List.cons_append,List.nil_append]
 refine TD.norm (by simp only [List.set]; rfl) ?_
 refine TD.s (pend':=[]) [5,12] rfl rfl (q_store rfl rfl TySz.h rfl rfl mQ rfl) ?_
 refine TD.z [1] rfl (q_fieldAddr rfl rfl FldOf.h dQ) ?_
 refine TD.s (pend':=[]) [8,13] rfl rfl (q_store rfl rfl TySz.h rfl rfl mQ rfl) ?_
 refine TD.z [1] rfl (q_fieldAddr rfl rfl FldOf.h dQ) ?_
 refine TD.s (pend':=[]) [11,14] rfl rfl (q_store rfl rfl TySz.h rfl rfl mQ rfl) ?_
 refine TD.fin ?_
 refine au [4] ?_
 refine TK.unrowAt (c:=jb) (i:=4) (j:=s2) rfl mQ uQ ?_
 refine TK.frzRow (j:=s2) ?_
 refine TK.unrowAt (c:=jb) (i:=5) (j:=h2) rfl mQ uQ ?_
 refine TK.frzRow (j:=h2) ?_
 refine TK.unrowAt (c:=jb) (i:=6) (j:=e2) rfl mQ uQ ?_
 refine TK.frzRow (j:=e2) ?_
 refine au [5,8,17,3] ?_
 refine TK.rt hret [(s2,_),(h2,_),(e2,_),(s,_),(h,_),(e,_)] ?_
 exact ⟨s2,h2,e2,rfl,rfl⟩
theorem agreed_ok {main:Bool} {T:Goroutine->Hp->Prop} (hT:Shut Tryz.prog main T)  {b:RBk} {s h e:Nat} (hl:b.seams.length<=100) (hm:b.measures.length<=100) :
  CallK Tryz.prog T gmR 121 [.agg (rollC b s h e)] [(0,checksG),(s,seamO b),(h,shrO b),(e,measO b)] (fun r K'=>AgrR b [(0,checksG),(s,seamO b),(h,shrO b),(e,measO b)] r K'):=by
 refine callK_in 17 hT Tryz.func121 fun Y hret=>?_
 refine au [4,5,21] ?_
 intro jb hjb
 refine au [22] ?_
 intro jr hjr
 refine au [2,3,4,4,5,8] ?_
 refine TK.cl rfl rfl rfl rfl (known0_ok hT (Kx:=[]) hl hm) ?_
 rintro r1 K2 h3
 rcases h3 with ⟨hbar,rfl,rfl⟩ | ⟨hbar,hnil,rfl,rfl⟩ | ⟨hbar,hne,a,rfl,rfl⟩
 ·refine au [1,10,10,22] ?_
  intro j4 hj4
  refine au [17,2,3,4,5,1,6,3,20] ?_
  refine ⟨fun hc0=>?_,fun hc0=>?_⟩
  ·
   refine au [4,5,44,1,17,2,3] ?_
   refine TK.rt hret [(0,_),(s,_),(h,_),(e,_)] ?_
   exact .inl ⟨hbar,rfl,rfl⟩
  exact absurd hbar (by simpa using hc0)
 ·refine au [1,10,10,22] ?_
  intro j4 hj4
  refine au [17,2,3,4,5,1,6,3,20] ?_
  refine ⟨fun hc0=>?_,fun hc0=>?_⟩
  ·
   refine au [4,5,44,1,17,2,3] ?_
   refine TK.rt hret [(0,_),(s,_),(h,_),(e,_)] ?_
   exact .inr (.inl ⟨hbar,hnil,rfl,rfl⟩)
  exact absurd hc0 dQ
 ·refine au [1,10,10,22] ?_
  intro j4 hj4
  refine au [17,2,3,4,5,1,6,3,20] ?_
  refine ⟨fun hc0=>?_,fun hc0=>?_⟩
  ·exact absurd hc0 sQ
  have hbb:=check_ok0 hbar
  refine au [12,4,5,8] ?_
  refine TK.cl rfl rfl rfl rfl (copied_ok hT hbb) ?_
  rintro r4 K5 ⟨s2,h2,e2,rfl,rfl⟩
  refine au [17,2,3] ?_
  refine TK.rt hret [(s2,_),(h2,_),(e2,_),(0,_),(s,_),(h,_),(e,_)] ?_
  exact .inr (.inr ⟨hbar,hne,s2,h2,e2,rfl,rfl⟩)
theorem measure_ok {main:Bool} {T:Goroutine->Hp->Prop} (hT:Shut Tryz.prog main T)  {b:RBk} {s h e:Nat} (hl:b.seams.length<=100) (hm:b.measures.length<=100) {m:RMeas} :
  CallK Tryz.prog T gmR 42 [.agg (rollC b s h e),.agg (measC m)] [(0,checksG),(s,seamO b),(h,shrO b),(e,measO b)] (fun r K'=>(checkM b≠0/\r=.tup [.agg z7R,intA (checkM b)]/\K'=[(0,checksG),(s,seamO b),(h,shrO b),(e,measO b)])\/(checkM b=0/\AgrR (measuredB b m) [(0,checksG),(s,seamO b),(h,shrO b),(e,measO b)] r K')):=by
 refine callK_in 24 hT Tryz.func42 fun Y hret=>?_
 refine au [4,5,21] ?_
 intro jb hjb
 refine au [21] ?_
 intro jm hjm
 refine au [22] ?_
 intro jr hjr
 refine au [2,3,4,4,5,8] ?_
 refine TK.cl rfl rfl rfl rfl (check_ok hT hl hm) ?_
 rintro r1 K2 ⟨rfl,rfl⟩
 refine au [2,3,4,5,1,6,3,20] ?_
 refine ⟨fun hc0=>?_,fun hc0=>?_⟩
 ·refine au [4,5,44,1,17,2,3] ?_
  refine TK.rt hret [(0,_),(s,_),(h,_),(e,_)] ?_
  exact .inl ⟨by simpa using hc0,rfl,rfl⟩
 have hbar:checkM b=0:=by simpa using hc0
 have hml:=(check_ok0 hbar).mes.len
 have hfl:=flat_len measC 3 (fun _=>rfl) b.measures
 refine au [12,4] ?_
 refine TK.draw [0,1,3,2,4,5,6,7] [0,1,2,3,4,5,6,7] (by kernel_rfl) (by kernel_rfl) ?_
 refine TD.z [2] rfl (q_fieldAddr rfl rfl FldOf.h dQ) ?_
 refine TD.y [13] rfl (hq:=q_load1 rfl rfl TySz.h (List.Mem.head _) rfl) (h:=?_)
 refine TD.y [3] rfl (hq:=q_load rfl rfl TySz.h (List.Mem.head _) rfl) (h:=?_)
 refine TD.c2 (i1:=2) (i2:=4) (pend1:=[⟨3,[3],[(_,_)]⟩,⟨0,[2],[]⟩]) (pend2:=[⟨1,[13],[(_,_)]⟩,⟨0,[2],[]⟩]) (L1:=[4,5,6,7]) (L2:=[2,5,6,7]) [14] [16] rfl rfl rfl rfl rfl rfl rfl ?_ ?_
 ·refine exK_callO rfl rfl Cal.h rfl (cloneMe_ok hT (flat_len measC 3 (fun _=>rfl) b.measures) (flat_all measC (fun _=>rfl) _) oQ) (by repeat (first | exact Split.none _ | exact Split.all _ | (apply Split.rem; repeat (first | exact Rem.head | apply Rem.tail)) | apply Split.right)) fun r4 K5 h6=>⟨?_,?_⟩
  ·rcases h6 with ⟨jc,rfl,rfl⟩
   all_goals simp
  obtain ⟨jc,rfl,rfl⟩:=h6
  try simp only [List.cons_append,List.nil_append]
  refine TD.norm (env':=[_,_,_,_,_,_,_,_,_,_,_,_,_,_,_,_,_,_,_,_,_,_,_,_]) rfl ?_
  refine TD.cnewR (pend':=[⟨0,[2],[]⟩]) [16] rfl rfl rfl rfl rfl (n_buildSlice (l:=[_,_,_]) rfl SlEl.h TyZ.h dQ dQ rfl) (fun _=>putS rfl (by simp only [List.set]; rfl)) sQ fun j7 hj7=>?_
  refine TD.capp (pend':=[⟨0,[2],[]⟩]) [15,17] rfl rfl rfl rfl rfl (a_app rfl ApOf.h rfl mQ oQ rfl (src_row (ln:=[_,_,_]) mQ dQ sQ rfl) oQ rfl (by unfold maxLen; omega) oQ) (fun _=>uQ) (fun _=>putS rfl (by simp only [List.set]; rfl)) (fun _=>sQ) fun je=>?_
  refine TD.z [2] rfl (q_fieldAddr rfl rfl FldOf.h dQ) ?_
  refine TD.s (pend':=[]) [18,19] rfl rfl (q_store rfl rfl TySz.h rfl rfl mQ rfl) ?_
  refine TD.fin ?_
  refine au [4] ?_
  refine TK.unrowAt (c:=jb) (i:=6) (j:=je) rfl mQ uQ ?_
  refine TK.frzRow (j:=je) ?_
  rw [show b.measures.flatMap measC++[intA m.cloth,intA m.many,intA m.wide]=(measuredB b m).measures.flatMap measC from (flat_snoc measC b.measures m).symm,show b.measures.length+1=(measuredB b m).measures.length by simp [measuredB]]
  refine au [5,8] ?_
  refine TK.cl rfl rfl rfl rfl ((agreed_ok hT (b:=measuredB b m) (s:=s) (h:=h) (e:=je) hl (by simp [measuredB]; omega)).mono (fun _ _ h=>h)) ?_
  rintro r8 K9 h10
  rcases h10 with ⟨hb2,rfl,rfl⟩ | ⟨hb2,hn2,rfl,rfl⟩ | ⟨hb2,hn2,s2,h2,e2,rfl,rfl⟩
  ·refine au [10,10,17,2,3] ?_
   refine TK.rt hret [(0,_),(s,_),(h,_),(e,_)] ?_
   exact .inr ⟨hbar,.inl ⟨hb2,rfl,rfl⟩⟩
  ·refine au [10,10,17,2,3] ?_
   refine TK.rt hret [(0,_),(s,_),(h,_),(e,_)] ?_
   exact .inr ⟨hbar,.inr (.inl ⟨hb2,hn2,rfl,rfl⟩)⟩
  ·refine au [10,10,17,2,3] ?_
   refine TK.rt hret [(s2,_),(h2,_),(e2,_),(0,_),(s,_),(h,_),(e,_)] ?_
   exact .inr ⟨hbar,.inr (.inr ⟨hb2,hn2,s2,h2,e2,rfl,rfl⟩)⟩
 ·refine exK_newR rfl (n_buildSlice (l:=[_,_,_]) rfl SlEl.h TyZ.h dQ dQ rfl) (fun _=>putS rfl (by simp only [List.set]; rfl)) sQ fun j11 hj11=>?_
  refine TD.cl (pend':=[⟨0,[2],[]⟩]) [14] rfl rfl rfl rfl rfl (cloneMe_ok hT (flat_len measC 3 (fun _=>rfl) b.measures) (flat_all measC (fun _=>rfl) _) oQ) (fun r12 K13 h14=>⟨?_,?_⟩)
  ·rcases h14 with ⟨jc,rfl,rfl⟩
   all_goals simp
  obtain ⟨jc,rfl,rfl⟩:=h14
  try simp only [List.cons_append,List.nil_append]
  refine TD.norm (by simp only [List.set]; rfl) ?_
  refine TD.capp (pend':=[⟨0,[2],[]⟩]) [15,17] rfl rfl rfl rfl rfl (a_app rfl ApOf.h rfl mQ oQ rfl (src_row (ln:=[_,_,_]) mQ dQ sQ rfl) oQ rfl (by unfold maxLen; omega) oQ) (fun _=>uQ) (fun _=>putS rfl (by simp only [List.set]; rfl)) (fun _=>sQ) fun je=>?_
  refine TD.z [2] rfl (q_fieldAddr rfl rfl FldOf.h dQ) ?_
  refine TD.s (pend':=[]) [18,19] rfl rfl (q_store rfl rfl TySz.h rfl rfl mQ rfl) ?_
  refine TD.fin ?_
  refine au [4] ?_
  refine TK.unrowAt (c:=jb) (i:=6) (j:=je) rfl mQ uQ ?_
  refine TK.frzRow (j:=je) ?_
  rw [show b.measures.flatMap measC++[intA m.cloth,intA m.many,intA m.wide]=(measuredB b m).measures.flatMap measC from (flat_snoc measC b.measures m).symm,show b.measures.length+1=(measuredB b m).measures.length by simp [measuredB]]
  refine au [5,8] ?_
  refine TK.cl rfl rfl rfl rfl ((agreed_ok hT (b:=measuredB b m) (s:=s) (h:=h) (e:=je) hl (by simp [measuredB]; omega)).mono (fun _ _ h=>h)) ?_
  rintro r15 K16 h17
  rcases h17 with ⟨hb2,rfl,rfl⟩ | ⟨hb2,hn2,rfl,rfl⟩ | ⟨hb2,hn2,s2,h2,e2,rfl,rfl⟩
  ·refine au [10,10,17,2,3] ?_
   refine TK.rt hret [(0,_),(s,_),(h,_),(e,_)] ?_
   exact .inr ⟨hbar,.inl ⟨hb2,rfl,rfl⟩⟩
  ·refine au [10,10,17,2,3] ?_
   refine TK.rt hret [(0,_),(s,_),(h,_),(e,_)] ?_
   exact .inr ⟨hbar,.inr (.inl ⟨hb2,hn2,rfl,rfl⟩)⟩
  ·refine au [10,10,17,2,3] ?_
   refine TK.rt hret [(s2,_),(h2,_),(e2,_),(0,_),(s,_),(h,_),(e,_)] ?_
   exact .inr ⟨hbar,.inr (.inr ⟨hb2,hn2,s2,h2,e2,rfl,rfl⟩)⟩
def dryX (b:RBk) (n:Int) (x:RBand):RBand:=⟨max (bd b n.toNat).low x.low,min (bd b n.toNat).high x.high⟩
def shrM (b:RBk) (n:Int):List Int:=compM (sortR ltI ((statesM b).map fun s=>cutN s n.toNat))
theorem comp_short {xs:List Int} (h:xs.length<2):compM xs=xs:=by
 rcases xs with _ | ⟨x,_ | ⟨y,r⟩⟩
 ·rfl
 ·rfl
 ·simp only [List.length_cons] at h; omega
def onlyL (xs:List RMeas) (mask:Nat):Nat->List RMeas
 | 0=>[]
 | i+1=>onlyL xs mask i++(if mask / 2 ^ i % 2=1 then (xs[i]?).toList else [])
def onlyB (b:RBk) (mask:Nat):RBk:={ b with measures:=onlyL b.measures mask b.measures.length }
theorem onlyL_len (xs:List RMeas) (mask:Nat):∀ i,i<=xs.length->(onlyL xs mask i).length=(bitsM mask i).length
 | 0,_=>rfl
 | i+1,h=>by
  unfold onlyL bitsM
  rw [List.length_append,List.length_append,onlyL_len xs mask i oQ]
  split
  ·rw [List.getElem?_eq_getElem oQ]; rfl
  ·rfl
theorem onlyL_mem {xs:List RMeas} {mask:Nat}:∀ i m,m∈onlyL xs mask i->m∈xs
 | 0,m,h=>by cases h
 | i+1,m,h=>by
  unfold onlyL at h
  rcases List.mem_append.1 h with h | h
  ·exact onlyL_mem i m h
  ·split at h
   ·cases e:xs[i]? with
    | none=>rw [e] at h; cases h
    | some y=>rw [e] at h; rw [List.mem_singleton.1 h]; exact List.mem_of_getElem? e
   ·cases h
theorem only_ok0 {b:RBk} (hb:ROk b) (mask:Nat):ROk (onlyB b mask):=⟨⟨hb.rnd.steps,hb.rnd.round,hb.rnd.roll,hb.rnd.rolls⟩,⟨hb.sms.len,hb.sms.fld,hb.sms.asc⟩,⟨hb.cls.len,hb.cls.bnd⟩,⟨by
 show (onlyL b.measures mask b.measures.length).length<=3
 rw [onlyL_len _ _ _ (Nat.le_refl _)]
 have:=bitsM_le mask b.measures.length
 have:=hb.mes.len
 omega,fun m hm=>hb.mes.bnd m (onlyL_mem _ m hm)⟩⟩
instance:Cal Tryz.prog 131:=⟨by kernel_rfl⟩
instance:Cal Tryz.prog 132:=⟨by kernel_rfl⟩
theorem dry_ok {main:Bool} {T:Goroutine->Hp->Prop} (hT:Shut Tryz.prog main T)  {b:RBk} {s h e:Nat} (hl:b.seams.length<=100) (hm:b.measures.length<=100) {n:Int} {x:RBand} :
  CallK Tryz.prog T gmR 45 [.agg (rollC b s h e),intA n,.agg (bandC x)] [(0,checksG),(s,seamO b),(h,shrO b),(e,measO b)] (fun r K'=>(bar2 (checkM b) (thereM b n)≠0/\r=.tup [.agg z7R,intA (bar2 (checkM b) (thereM b n))]/\K'=[(0,checksG),(s,seamO b),(h,shrO b),(e,measO b)])\/(bar2 (checkM b) (thereM b n)=0/\isBd x 0 5=false/\r=.tup [.agg z7R,intA 1]/\K'=[(0,checksG),(s,seamO b),(h,shrO b),(e,measO b)])\/(bar2 (checkM b) (thereM b n)=0/\isBd x 0 5=true/\(dryX b n x).high<(dryX b n x).low/\r=.tup [.agg z7R,intA 9]/\K'=[(0,checksG),(s,seamO b),(h,shrO b),(e,measO b)])\/(bar2 (checkM b) (thereM b n)=0/\isBd x 0 5=true/\(dryX b n x).low<=(dryX b n x).high/\AgrR (driedB b n.toNat (dryX b n x)) [(0,checksG),(s,seamO b),(h,shrO b),(e,measO b)] r K')):=by
 refine callK_in 65 hT Tryz.func45 fun Y hret=>?_
 refine au [4,5,21] ?_
 intro jb hjb
 refine au [21] ?_
 intro jx hjx
 refine au [22] ?_
 intro jr hjr
 refine au [2,3,4,4,5,8,1,32] ?_
 refine TK.newR rfl rfl rfl (n_buildSlice (l:=[_]) rfl SlEl.h TyZ.h dQ dQ rfl) (fun _=>putS rfl (by simp only [List.set]; rfl)) fun ja hja=>?_
 refine TK.cl rfl rfl rfl rfl (opened1_ok hT (Kx:=[]) (p1:=thereM b n) hl hm (fun h0=>callFK_fn Cal.h ((there_ok hT (b:=b) (s:=s) (h:=h) (e:=e) (n:=n) (check_ok0 h0).sms.len.2).frameP (R:=[(s,seamO b)]) (List.Perm.refl _)))) ?_
 rintro r1 K2 h3
 rcases h3 with ⟨⟨hbar,rfl⟩ | ⟨hbar,rfl⟩,rfl⟩
 ·refine au [1,10,10,22] ?_
  intro j8 hj8
  refine au [17,2,3,4,5,1,6,3,20] ?_
  refine ⟨fun hc0=>?_,fun hc0=>?_⟩
  ·exact absurd hc0 sQ
  have hbb:=check_ok0 (bar2_0 hbar)
  have hth:=there_0 (bar2_0r hbar)
  have hs5:=hbb.sms.len
  have hsl:=hbb.cls.len
  have hml:=hbb.mes.len
  have hnb:n.toNat<b.shrinks.length:=by omega
  have hnn:n=(n.toNat:Int):=by omega
  refine au [12,4,4,5,8] ?_
  refine TK.cl rfl rfl rfl rfl (isBand_ok hT (x:=x)) ?_
  rintro r4 K5 ⟨rfl,rfl⟩
  refine au [30,3,20] ?_
  refine ⟨fun hc1=>?_,fun hc1=>?_⟩
  ·refine au [4,5,44,17,2,3] ?_
   refine TK.rt hret [(0,_),(s,_),(h,_),(e,_)] ?_
   exact .inr (.inl ⟨hbar,by simpa using hc1,rfl,rfl⟩)
  refine au [12,4] ?_
  refine TK.draw [0,1,2,3,4,5,6,7,8,9,10,11,12,13,14,15,16,17,18,19,20] [0,1,2,3,4,5,6,7,8,9,10,11,12,13,14,15,16,17,18,19,20] (by kernel_rfl) (by kernel_rfl) ?_
  refine TD.z [3] rfl (q_fieldAddr rfl rfl FldOf.h dQ) ?_
  refine TD.y [27] rfl (hq:=q_load1 rfl rfl TySz.h (List.Mem.head _) rfl) (h:=?_)
  refine TD.z [1] rfl (q_move rfl rfl) ?_
  refine TD.z [28,29] rfl (q_indexSl rfl rfl rfl SlEl.h oQ oQ) ?_
  refine TD.z [30] rfl (q_fieldAddr rfl rfl FldOf.h dQ) ?_
  refine TD.y [31] rfl (hq:=q_load1 rfl rfl TySz.h (List.Mem.head _) (take_fld (c:=0) (bd_at b (i:=n.toNat) hnb hnn) dQ rfl)) (h:=?_)
  refine TD.z [5] rfl (q_fieldAddr rfl rfl FldOf.h dQ) ?_
  refine TD.y [33] rfl (hq:=q_load1 rfl rfl TySz.h (List.Mem.head _) rfl) (h:=?_)
  refine TD.z [32,34] rfl (q_maxI rfl rfl rfl) ?_
  refine TD.z [3] rfl (q_fieldAddr rfl rfl FldOf.h dQ) ?_
  refine TD.y [36] rfl (hq:=q_load1 rfl rfl TySz.h (List.Mem.head _) rfl) (h:=?_)
  refine TD.z [1] rfl (q_move rfl rfl) ?_
  refine TD.z [37,38] rfl (q_indexSl rfl rfl rfl SlEl.h oQ oQ) ?_
  refine TD.z [39] rfl (q_fieldAddr rfl rfl FldOf.h dQ) ?_
  refine TD.y [40] rfl (hq:=q_load1 rfl rfl TySz.h (List.Mem.head _) (take_fld (c:=1) (bd_at b (i:=n.toNat) hnb hnn) dQ rfl)) (h:=?_)
  refine TD.z [5] rfl (q_fieldAddr rfl rfl FldOf.h dQ) ?_
  refine TD.y [42] rfl (hq:=q_load1 rfl rfl TySz.h (List.Mem.head _) rfl) (h:=?_)
  refine TD.z [41,43] rfl (q_minI rfl rfl rfl) ?_
  refine TD.z [35,44] rfl (q_build (l:=[_,_]) rfl TyZ.h BlOf.h rfl) ?_
  refine TD.cnewP (pend':=[⟨18,[35,44],[]⟩,⟨17,[41,43],[]⟩,⟨16,[42],[(_,_)]⟩,⟨15,[5],[]⟩,⟨14,[40],[(_,_)]⟩,⟨13,[39],[]⟩,⟨12,[37,38],[]⟩,⟨11,[1],[]⟩,⟨10,[36],[(_,_)]⟩,⟨9,[3],[]⟩,⟨8,[32,34],[]⟩,⟨7,[33],[(_,_)]⟩,⟨6,[5],[]⟩,⟨5,[31],[(_,_)]⟩,⟨4,[30],[]⟩,⟨3,[28,29],[]⟩,⟨2,[1],[]⟩,⟨1,[27],[(_,_)]⟩,⟨0,[3],[]⟩]) [] rfl rfl rfl rfl rfl (n_allocA rfl TyZA.h) (fun _=>putS rfl (by simp only [List.set]; rfl)) sQ fun j10 hj10=>?_
  refine TD.s (pend':=[]) [10,45] rfl rfl (q_store rfl rfl TySz.h rfl rfl mQ rfl) ?_
  refine TD.fin ?_
  refine au [4,4,5,7,9,7,9,6,3,20] ?_
  refine ⟨fun hc2=>?_,fun hc2=>?_⟩
  ·refine au [4,5,44,17,2,3] ?_
   refine TK.rt hret [(0,_),(s,_),(h,_),(e,_)] ?_
   exact .inr (.inr (.inl ⟨hbar,by simpa using hc1,of_decide_eq_true hc2,rfl,rfl⟩))
  refine au [12,4,5,7,9] ?_
  refine TK.cl rfl rfl rfl rfl (cloneBd_ok hT (flat_len bandC 2 (fun _=>rfl) b.shrinks) (flat_all bandC (fun _=>rfl) _) oQ) ?_
  rintro r7 K8 ⟨jc,rfl,rfl⟩
  refine au [7,17,3,4,5,7,9,1,8,37] ?_
  refine TK.st rfl rfl rfl (q_store rfl rfl TySz.h rfl rfl mQ (put_band (x:=(dryX b n x)) hnb hnn)) uQ (putN rfl) ?_
  refine au [3,4] ?_
  refine TK.unrowAt (c:=jb) (i:=5) (j:=jc) rfl mQ uQ ?_
  refine TK.frzRow (j:=jc) ?_
  rw [show b.shrinks.length=(driedB b n.toNat (dryX b n x)).shrinks.length by simp [driedB]]
  refine au [5,8] ?_
  refine TK.cl rfl rfl rfl rfl ((agreed_ok hT (b:=(driedB b n.toNat (dryX b n x))) (s:=s) (h:=jc) (e:=e) hl hm).mono (fun _ _ h=>h)) ?_
  rintro r10 K11 h12
  rcases h12 with ⟨hb2,rfl,rfl⟩ | ⟨hb2,hn2,rfl,rfl⟩ | ⟨hb2,hn2,s2,h2,e2,rfl,rfl⟩
  ·refine au [10,10,17,2,3] ?_
   refine TK.rt hret [(0,_),(s,_),(h,_),(e,_)] ?_
   exact .inr (.inr (.inr ⟨hbar,by simpa using hc1,Int.not_lt.1 (of_decide_eq_false hc2),.inl ⟨hb2,rfl,rfl⟩⟩))
  ·refine au [10,10,17,2,3] ?_
   refine TK.rt hret [(0,_),(s,_),(h,_),(e,_)] ?_
   exact .inr (.inr (.inr ⟨hbar,by simpa using hc1,Int.not_lt.1 (of_decide_eq_false hc2),.inr (.inl ⟨hb2,hn2,rfl,rfl⟩)⟩))
  ·refine au [10,10,17,2,3] ?_
   refine TK.rt hret [(s2,_),(h2,_),(e2,_),(0,_),(s,_),(h,_),(e,_)] ?_
   exact .inr (.inr (.inr ⟨hbar,by simpa using hc1,Int.not_lt.1 (of_decide_eq_false hc2),.inr (.inr ⟨hb2,hn2,s2,h2,e2,rfl,rfl⟩)⟩))
 ·refine au [1,10,10,22] ?_
  intro j8 hj8
  refine au [17,2,3,4,5,1,6,3,20] ?_
  refine ⟨fun hc0=>?_,fun hc0=>?_⟩
  ·
   refine au [4,5,44,1,17,2,3] ?_
   refine TK.rt hret [(0,_),(s,_),(h,_),(e,_)] ?_
   exact .inl ⟨hbar,rfl,rfl⟩
  exact absurd hbar (by simpa using hc0)
theorem hall_ok {main:Bool} {T:Goroutine->Hp->Prop} (hT:Shut Tryz.prog main T)  {b:RBk} {s h e:Nat} (hl:b.seams.length<=100) (hm:b.measures.length<=100) {r0:Int} :
  CallK Tryz.prog T gmR 47 [.agg (rollC b s h e),intA r0] [(0,checksG),(s,seamO b),(h,shrO b),(e,measO b)] (fun r K'=>(checkM b≠0/\r=.tup [.agg z7R,intA (checkM b)]/\K'=[(0,checksG),(s,seamO b),(h,shrO b),(e,measO b)])\/(checkM b=0/\betw r0 b.steps 40=false/\r=.tup [.agg z7R,intA 1]/\K'=[(0,checksG),(s,seamO b),(h,shrO b),(e,measO b)])\/(checkM b=0/\betw r0 b.steps 40=true/\∃ s2 h2 e2,r=.tup [.agg (rollC (atRound b r0) s2 h2 e2),intA 0]/\K'=(s2,seamO b)::(h2,shrO b)::(e2,measO b)::[(0,checksG),(s,seamO b),(h,shrO b),(e,measO b)])):=by
 refine callK_in 23 hT Tryz.func47 fun Y hret=>?_
 refine au [4,5,21] ?_
 intro jb hjb
 refine au [22] ?_
 intro jr hjr
 refine au [2,3,4,4,5,8] ?_
 refine TK.cl rfl rfl rfl rfl (check_ok hT hl hm) ?_
 rintro r1 K2 ⟨rfl,rfl⟩
 refine au [2,3,4,5,1,6,3,20] ?_
 refine ⟨fun hc0=>?_,fun hc0=>?_⟩
 ·refine au [4,5,44,1,17,2,3] ?_
  refine TK.rt hret [(0,_),(s,_),(h,_),(e,_)] ?_
  exact .inl ⟨by simpa using hc0,rfl,rfl⟩
 have hbar:checkM b=0:=by simpa using hc0
 have hbb:=check_ok0 hbar
 refine au [12,4,4,5,1,7,9] ?_
 refine TK.cl rfl rfl rfl rfl (between_ok hT) ?_
 rintro r4 K5 ⟨rfl,rfl⟩
 refine au [30,3,20] ?_
 refine ⟨fun hc1=>?_,fun hc1=>?_⟩
 ·refine au [4,5,44,17,2,3] ?_
  refine TK.rt hret [(0,_),(s,_),(h,_),(e,_)] ?_
  exact .inr (.inl ⟨hbar,by simpa using hc1,rfl,rfl⟩)
 have hb1:=betw_t (n:=r0) (lo:=b.steps) (hi:=40) (by simpa using hc1)
 refine au [12,4,5,1,7,17,3,4,5,8] ?_
 refine TK.cl rfl rfl rfl rfl (copied_ok hT (b:=atRound b r0) (s:=s) (h:=h) (e:=e) (atR_ok hbb oQ oQ)) ?_
 rintro r7 K8 ⟨s2,h2,e2,rfl,rfl⟩
 refine au [17,2,3] ?_
 refine TK.rt hret [(s2,_),(h2,_),(e2,_),(0,_),(s,_),(h,_),(e,_)] ?_
 exact .inr (.inr ⟨hbar,by simpa using hc1,s2,h2,e2,rfl,rfl⟩)
theorem compact2_ok {main:Bool} {T:Goroutine->Hp->Prop} (hT:Shut Tryz.prog main T) {gm:Nat->Option Nat} {j n:Nat} {xs:List Int} (hn:xs.length=n) (hl:n<=1000) :
  CallK Tryz.prog T gm 132 [.row j n] [(j,.row (xs.map intA) 3 1)] (fun r K'=>(∃ zs:List Int,r=.sl j 0 (compM xs).length/\K'=[(j,.row ((compM xs++zs).map intA) 3 1)])\/(r=.row j n/\compM xs=xs/\K'=[(j,.row (xs.map intA) 3 1)])):=by
 refine callK_in 61 hT Tryz.func132 fun Y hret=>?_
 refine au [4,5,2,3,4,4,5,1,28,6,3,20] ?_
 refine ⟨fun hc0=>?_,fun hc0=>?_⟩
 ·
  refine au [4,5,1,2,3] ?_
  refine TK.rt hret [(j,_)] ?_
  exact .inr ⟨rfl,comp_short (by simp at hc0; omega),rfl⟩
 have h2:2<=n:=by simp at hc0; omega
 refine au [12,4,4,5,2,3,13] ?_
 refine TK.maskL [0,3] ?_
 refine TK.loopN (fun n1 env K=>∃ (i:Nat),n1=n - i/\1<=i/\i<=n/\(compN xs i).length=i/\env=[.row j n,.any,.any,intA i,.any,.any,.any,.any,.any,.any,.any,.any,.any,.any,.any,.any,.any,.any,.any,.any,.any,.any,.any,.any,.any,.any,.any,.any,.any,.any,.any,.any,.any,.any,.any,.any,.any,.any,.any,.any,.any,.any,.any,.any,.any,.any,.any,.any,.any,.any,.any,.any,.any,.any,.any,.any,.any,.any,.any,.any,.any]/\K=[(j,.row (xs.map intA) 3 1)]) (n - 1) ⟨1,rfl,Nat.le_refl _,by omega,by simp [compN]; omega,rfl,rfl⟩ fun n1 env K hI hnext=>?_
 obtain ⟨i,rfl,hi1,hi,hlead,rfl,rfl⟩:=hI
 refine au [4,4,5,1,1,28,6,3,20] ?_
 refine ⟨fun hc1=>?_,fun hc1=>?_⟩
 ·have hil:i<n:=by simp at hc1; omega
  refine au [12,4,13,4] ?_
  refine TK.draw [0,1,2,3,4,5,6,7,8,9] [0,1,2,3,4,5,6,7,8,9] (by kernel_rfl) (by kernel_rfl) ?_
  refine TD.z [0] rfl (q_move rfl rfl) ?_
  refine TD.z [3] rfl (q_move rfl rfl) ?_
  refine TD.y [16,17] rfl (hq:=q_indexRow rfl rfl rfl SlEl.h (List.Mem.head _) oQ oQ) (h:=?_)
  refine TD.y [18] rfl (hq:=q_load1 rfl rfl TySz.h (List.Mem.head _) (rows_at (i:=i) (cut_get oQ) rfl)) (h:=?_)
  refine TD.z [0] rfl (q_move rfl rfl) ?_
  refine TD.z [3] rfl (q_move rfl rfl) ?_
  refine TD.z [21] rfl (q_sub rfl rfl rfl oQ) ?_
  refine TD.y [20,22] rfl (hq:=q_indexRow rfl rfl rfl SlEl.h (List.Mem.head _) oQ oQ) (h:=?_)
  refine TD.y [23] rfl (hq:=q_load1 rfl rfl TySz.h (List.Mem.head _) (rows_at (i:=i - 1) (cut_get oQ) oQ)) (h:=?_)
  refine TD.z [19,24] rfl (q_cmp rfl rfl rfl rfl) ?_
  refine TD.fin ?_
  refine au [20] ?_
  refine ⟨fun hc2=>?_,fun hc2=>?_⟩
  ·have heq:cutN xs (i - 1)=cutN xs i:=by have:=eq_of_beq hc2; exact this.symm
   obtain ⟨i0,rfl⟩:∃ i0,i=i0+1:=⟨i - 1,by omega⟩
   have hc1e:compN xs (i0+2)=compN xs (i0+1):=compN_eq heq
   refine au [4,5,1,1] ?_
   refine TK.a rfl (q_sliceRow rfl rfl SlEl.h mQ rfl rfl oQ oQ rfl) ?_
   refine au [2,3,4,4,5,2,3,13] ?_
   refine TK.maskL [0,3,4,5] ?_
   refine TK.loopN (fun n1 env K=>∃ (q w o4:Nat),n1=n - q/\o4=i0+1/\1<=q/\i0+1+q<=n/\(compN xs (i0+1+q)).length=w/\w+1<=i0+1+q/\env=[.row j n,.any,.any,intA w,.sl j o4 (n - (i0+1)),intA q,.any,.any,.any,.any,.any,.any,.any,.any,.any,.any,.any,.any,.any,.any,.any,.any,.any,.any,.any,.any,.any,.any,.any,.any,.any,.any,.any,.any,.any,.any,.any,.any,.any,.any,.any,.any,.any,.any,.any,.any,.any,.any,.any,.any,.any,.any,.any,.any,.any,.any,.any,.any,.any,.any,.any]/\K=[(j,.row ((compN xs (i0+1+q)++xs.drop w).map intA) 3 1)]) (n - 1) ⟨1,i0+1,_,rfl,(by omega:0+((i0+1:Nat):Int).toNat*1=i0+1),Nat.le_refl _,by omega,by rw [show i0+1+1=i0+2 by omega,hc1e]; exact hlead,by omega,rfl,by rw [show i0+1+1=i0+2 by omega,hc1e,comp_lead _ oQ hlead,List.take_append_drop]⟩ fun n1 env K hI hnext1=>?_
   obtain ⟨q,w,o4,rfl,ho4,hq1,hq,hw,hwq,rfl,rfl⟩:=hI
   have hdl:(compN xs (i0+1+q)++xs.drop w).length=n:=by rw [List.length_append,List.length_drop,hw]; omega
   refine au [4,4,5,1,1,28,6,3,20] ?_
   refine ⟨fun hc3=>?_,fun hc3=>?_⟩
   ·have hql:i0+1+q<n:=by simp at hc3; omega
    have hq2:i0+1+(q+1)=(i0+q)+2:=by omega
    have hq3:compN xs (i0+q+1)=compN xs (i0+1+q):=by rw [show i0+q+1=i0+1+q by omega]
    have hq4:cutN xs (i0+1+q)=cutN xs (i0+q+1):=by rw [show i0+q+1=i0+1+q by omega]
    refine au [12,4,13,4] ?_
    refine TK.draw [0,1,2,3,4,5,6,7,8,9] [0,1,2,3,4,5,6,7,8,9] (by kernel_rfl) (by kernel_rfl) ?_
    refine TD.z [4] rfl (q_move rfl rfl) ?_
    refine TD.z [5] rfl (q_move rfl rfl) ?_
    refine TD.z [35,36] rfl (q_indexSl rfl rfl rfl SlEl.h oQ oQ) ?_
    refine TD.y [37] rfl (hq:=q_load1 rfl rfl TySz.h (List.Mem.head _) (rows_off (i:=i0+1+q) (comp_drop hw oQ oQ) oQ)) (h:=?_)
    refine TD.z [4] rfl (q_move rfl rfl) ?_
    refine TD.z [5] rfl (q_move rfl rfl) ?_
    refine TD.z [40] rfl (q_sub rfl rfl rfl oQ) ?_
    refine TD.z [39,41] rfl (q_indexSl rfl rfl rfl SlEl.h oQ oQ) ?_
    refine TD.y [42] rfl (hq:=q_load1 rfl rfl TySz.h (List.Mem.head _) (rows_off (i:=i0+q) (comp_drop hw oQ oQ) oQ)) (h:=?_)
    refine TD.z [38,43] rfl (q_cmp rfl rfl rfl rfl) ?_
    refine TD.fin ?_
    refine au [20] ?_
    refine ⟨fun hc4=>?_,fun hc4=>?_⟩
    ·have hne4:cutN xs (i0+q)≠cutN xs (i0+q+1):=fun h=>by rw [hq4,<- h] at hc4; simp at hc4
     refine au [4,5,1,1,1,1,36] ?_
     refine TK.a rfl (q_load1 rfl rfl TySz.h mQ (rows_off (i:=i0+1+q) (comp_drop hw oQ oQ) oQ)) ?_
     refine au [37] ?_
     refine TK.st rfl rfl rfl (q_store rfl rfl TySz.h rfl rfl mQ (put_row (k:=w) oQ rfl)) uQ (putN rfl) ?_
     refine au [3,5,1,23,2,3,14,5,1,23,2,3] ?_
     refine TK.maskL [0,3,4,5] ?_
     refine TK.kp [(j,_)] ?_
     exact hnext1 _ _ _ oQ ⟨q+1,w+1,o4,rfl,ho4,by omega,by omega,by rw [hq2,compN_ne hne4,List.length_append,hq3,hw]; rfl,by omega,rfl,by rw [comp_set hw oQ,hq2,compN_ne hne4,hq3,<- hq4]⟩
    have heq4:cutN xs (i0+q)=cutN xs (i0+q+1):=by rw [<- hq4]; simp at hc4; exact hc4.symm
    refine au [12,14,5,1,23,2,3] ?_
    refine TK.maskL [0,3,4,5] ?_
    refine TK.kp [(j,_)] ?_
    exact hnext1 _ _ _ oQ ⟨q+1,w,o4,rfl,ho4,by omega,by omega,by rw [hq2,compN_eq heq4,hq3,hw],by omega,rfl,by rw [hq2,compN_eq heq4,hq3]⟩
   have hnq:n=i0+1+q:=by simp at hc3; omega
   refine au [16,4,5,1,1] ?_
   refine TK.a rfl (q_sliceRow rfl rfl SlEl.h mQ rfl rfl oQ oQ rfl) ?_
   refine TK.st rfl rfl rfl (q_clear rfl ApOf.h TyZ.h rfl oQ mQ (put_zeroC (k:=w) hw oQ oQ oQ)) uQ (putN rfl) ?_
   refine au [3,4,5,1,1] ?_
   refine TK.a rfl (q_sliceRow rfl rfl SlEl.h mQ rfl rfl oQ oQ rfl) ?_
   refine au [2,3] ?_
   refine TK.rt hret [(j,_)] ?_
   have hcm:compM xs=compN xs (i0+1+q):=by unfold compM; rw [hn,hnq]
   exact .inl ⟨_,by rw [hcm,hw]; rfl,by rw [hcm]⟩
  have hne:¬ cutN xs (i - 1)=cutN xs i:=fun h=>by rw [h] at hc2; simp at hc2
  have hi2:i+1=(i - 1)+2:=by omega
  have hi3:cutN xs i=cutN xs (i - 1+1):=by rw [show i - 1+1=i by omega]
  have hlead2:(compN xs (i - 1+1)).length=i:=by rw [show i - 1+1=i by omega]; exact hlead
  refine au [12,14,5,1,23,2,3] ?_
  refine TK.maskL [0,3] ?_
  refine TK.kp [(j,_)] ?_
  exact hnext _ _ _ oQ ⟨i+1,rfl,by omega,by omega,by rw [hi2,compN_ne (fun h=>hne (by rw [hi3]; exact h)),List.length_append,hlead2]; simp; omega,rfl,rfl⟩
 obtain rfl:i=n:=by simp at hc1; omega
 refine au [16,4,5,1,2,3] ?_
 refine TK.rt hret [(j,_)] ?_
 exact .inr ⟨rfl,by unfold compM; rw [comp_lead _ (Nat.le_refl _) (by rw [hn]; exact hlead),List.take_length],rfl⟩
theorem shrinks_ok {main:Bool} {T:Goroutine->Hp->Prop} (hT:Shut Tryz.prog main T)  {b:RBk} {s h e:Nat} (hl:b.seams.length<=100) (hm:b.measures.length<=100) {n:Int} (h12:(statesM b).length<=12) :
  CallK Tryz.prog T gmR 52 [.agg (rollC b s h e),intA n] [(0,checksG),(s,seamO b),(h,shrO b),(e,measO b)] (fun r K'=>(bar2 (checkM b) (thereM b n)≠0/\r=.tup [.v (.slice none 0 0),intA (bar2 (checkM b) (thereM b n))]/\K'=[(0,checksG),(s,seamO b),(h,shrO b),(e,measO b)])\/(bar2 (checkM b) (thereM b n)=0/\statesM b=[]/\r=.tup [.v (.slice none 0 0),intA 9]/\K'=[(0,checksG),(s,seamO b),(h,shrO b),(e,measO b)])\/(bar2 (checkM b) (thereM b n)=0/\statesM b≠[]/\∃ jr zs,r=.tup [.sl jr 0 (shrM b n).length,intA 0]/\K'=(jr,.cells ((shrM b n++zs).map intA) 3 false)::[(0,checksG),(s,seamO b),(h,shrO b),(e,measO b)])):=by
 refine callK_in 40 hT Tryz.func52 fun Y hret=>?_
 refine au [4,5,21] ?_
 intro jb hjb
 refine au [2,2,3,4,5,8,1,32] ?_
 refine TK.newR rfl rfl rfl (n_buildSlice (l:=[_]) rfl SlEl.h TyZ.h dQ dQ rfl) (fun _=>putS rfl (by simp only [List.set]; rfl)) fun ja hja=>?_
 refine TK.cl rfl rfl rfl rfl (known1_ok hT (Kx:=[]) (p1:=thereM b n) (fun h0=>callFK_fn Cal.h ((there_ok hT (b:=b) (s:=s) (h:=h) (e:=e) (n:=n) (check_ok0 h0).sms.len.2).frameP (R:=[(s,seamO b)]) (List.Perm.refl _))) hl hm) ?_
 rintro r1 K2 h3
 rcases h3 with ⟨hbar,rfl,rfl⟩ | ⟨hbar,hnil,rfl,rfl⟩ | ⟨hbar,hne,a,rfl,rfl⟩
 ·refine au [1,10,10,22] ?_
  intro j6 hj6
  refine au [17,2,3,4,4,5,1,6,3,20] ?_
  refine ⟨fun hc0=>?_,fun hc0=>?_⟩
  ·
   refine au [4,5,1,2,2,3] ?_
   refine TK.rt hret [(0,_),(s,_),(h,_),(e,_)] ?_
   exact .inl ⟨hbar,rfl,rfl⟩
  exact absurd hbar (by simpa using hc0)
 ·refine au [1,10,10,22] ?_
  intro j6 hj6
  refine au [17,2,3,4,4,5,1,6,3,20] ?_
  refine ⟨fun hc0=>?_,fun hc0=>?_⟩
  ·
   refine au [4,5,1,2,2,3] ?_
   refine TK.rt hret [(0,_),(s,_),(h,_),(e,_)] ?_
   exact .inr (.inl ⟨hbar,hnil,rfl,rfl⟩)
  exact absurd hc0 dQ
 ·refine au [1,10,10,22] ?_
  intro j6 hj6
  refine au [17,2,3,4,4,5,1,6,3,20] ?_
  refine ⟨fun hc0=>?_,fun hc0=>?_⟩
  ·exact absurd hc0 sQ
  have hbb:=check_ok0 (bar2_0 hbar)
  have hth:=there_0 (bar2_0r hbar)
  have hs5:=hbb.sms.len
  have hpos:0<(statesM b).length:=List.length_pos_iff.2 hne
  refine au [12,4,5,2] ?_
  refine TK.virt 8 3 1 rfl fun jt0 hjt0=>?_
  refine au [3,4,4,5,7,9,28,1,3,13] ?_
  refine TK.maskL [1,4,5,6,8,23,24,25] ?_
  refine TK.kp [(a,_),(0,_),(s,_),(h,_),(e,_),(j6,_),(jt0,_)] ?_
  refine TK.loopN (fun n1 env K=>∃ (i jt:Nat),n1=(statesM b).length - i/\i<=(statesM b).length/\env=[.any,intA n,.any,.any,.v (.slice none 0 0),intA 0,.ptr j6 0,.any,.row jt i,.any,.any,.any,.any,.any,.any,.any,.any,.any,.any,.any,.any,.any,.any,.sl a 0 (statesM b).length,intA (statesM b).length,intA i,.any,.any,.any,.any,.any,.any,.any,.any,.any,.any,.any,.any,.any,.any]/\K=[(a,allO (statesM b)),(0,checksG),(s,seamO b),(h,shrO b),(e,measO b),(j6,.cells (knownC b s h e a (statesM b).length) 139 true),(jt,.row ((((statesM b).take i).map fun s=>cutN s n.toNat).map intA) 3 1)]) (statesM b).length ⟨0,jt0,rfl,Nat.zero_le _,rfl,rfl⟩ fun n1 env K hI hnext=>?_
  obtain ⟨i,jt,rfl,hi,rfl,rfl⟩:=hI
  refine au [4,5,6,3,4,20] ?_
  refine ⟨fun hc1=>?_,fun hc1=>?_⟩
  ·have hil:i<(statesM b).length:=by simp at hc1; omega
   obtain ⟨st,hst⟩:∃ st,(statesM b)[i]? =some st:=⟨_,List.getElem?_eq_getElem hil⟩
   refine au [12,4,13,4,5,36] ?_
   refine TK.a rfl (q_load rfl rfl TySz.h mQ (all_at (i:=i) hst rfl)) ?_
   refine au [22] ?_
   intro j10 hj10
   refine au [17,3,5,1,1] ?_
   refine TK.a rfl (q_indexArr rfl rfl rfl ArEl.h oQ oQ) ?_
   refine TK.a rfl (q_load1 rfl rfl TySz.h mQ (st_at (i:=n.toNat) oQ oQ)) ?_
   refine TK.newR rfl rfl rfl (n_buildSlice (l:=[_]) rfl SlEl.h TyZ.h dQ dQ rfl) (fun _=>putS rfl (by simp only [List.set]; rfl)) fun j4 hj4=>?_
   refine TK.appR rfl rfl rfl (a_app rfl ApOf.h rfl mQ (by simp; omega) rfl (src_row (ln:=[_]) mQ dQ sQ rfl) oQ rfl (by unfold maxLen; omega) oQ) (fun _=>uQ) (fun _=>putS rfl (by simp only [List.set]; rfl)) fun jt2=>?_
   refine au [2,3,14,5,23,1,3] ?_
   refine TK.maskL [1,4,5,6,8,23,24,25] ?_
   refine TK.kp [(a,_),(0,_),(s,_),(h,_),(e,_),(j6,_),(jt2,_)] ?_
   exact hnext _ _ _ oQ ⟨i+1,jt2,rfl,by omega,rfl,by rw [take_snoc hst,List.map_append,List.map_append]; rfl⟩
  obtain rfl:i=(statesM b).length:=by simp at hc1; omega
  rw [List.take_of_length_le (Nat.le_refl _)]
  have hsl2:(sortR ltI ((statesM b).map fun s=>cutN s n.toNat)).length=(statesM b).length:=by unfold sortR; rw [sortN_len _ _ (Nat.le_refl _),List.length_map]
  refine au [16,4,5,1] ?_
  refine TK.cl rfl rfl rfl rfl (sort_ok hT (xs:=((statesM b).map fun s=>cutN s n.toNat)) sQ ⟨hpos,h12⟩) ?_
  rintro r5 K6 rfl
  refine au [3,4,5,1] ?_
  refine TK.cl rfl rfl rfl rfl (compact2_ok hT (xs:=sortR ltI ((statesM b).map fun s=>cutN s n.toNat)) hsl2 oQ) ?_
  rintro r8 K9 h10
  rcases h10 with ⟨zs,rfl,rfl⟩ | ⟨rfl,hcm,rfl⟩
  ·refine au [] ?_
   refine TK.frzRow (j:=jt) ?_
   refine au [2,2,3] ?_
   refine TK.rt hret [(jt,_),(0,_),(s,_),(h,_),(e,_)] ?_
   exact .inr (.inr ⟨hbar,hne,jt,zs,rfl,rfl⟩)
  ·refine au [] ?_
   refine TK.asSl 39 rfl (List.Mem.head _) ?_
   refine TK.frzRow (j:=jt) ?_
   refine au [2,2,3] ?_
   refine TK.rt hret [(jt,_),(0,_),(s,_),(h,_),(e,_)] ?_
   exact .inr (.inr ⟨hbar,hne,jt,[],by unfold shrM; rw [hcm,hsl2],by unfold shrM; rw [hcm,List.append_nil]⟩)
end Go.Vel
namespace Go.Vel
open Go Go.Conc
section
variable {P:Program} {gm:Nat->Option Nat} {T:Goroutine->Hp->Prop} {Y:KX P gm T} {ds:List Nat} {k:List Item} {env env':List AV} {K K' K1:KV} {ops:Array Oper} {i:Nat} {L':List Nat} {o:Oper} {envf:Nat->List AV} {pend pend':List Pd}
theorem TD.cappG {s x:Operand} {t e:TypeId} {size bytes j n m:Nat} {lo ln:List AV} {u:AV} {K'':Nat->KV} (sl:List Nat) (ho:ops[i]? =some o) (hd:isDefer o.op=false) (hw:wantA ops (onl sl env) o=some true) (hp':pendOf ops i pend=pend') (hc:chkC ops pend' L' sl i o.dst=true) (hop:o.op=.call { callee:=.builtin .append,args:=#[s,x],argTypes:=#[t,t] }) (ht:apOf P t=some (e,size,bytes)) (hs:opndO gm (onl sl env) s=some (.row j n)) (hm:(j,.row lo e size)∈K) (hlo:lo.length=n*size) (hx:opndO gm (onl sl env) x=some u) (hl:lenA u=some m) (hsrc:0<m->srcO K size u m ln) (hln:m=0->ln=[])
  (hone:ln.all oneA=true) (hmax:n+m<=maxLen) (hbytes:(n+m)*bytes<=140737488355328) (hu:∀ j',Upd K j (.row lo e size) j' (.row (lo++ln) e size) (K'' j')) (he:∀ j',putA env o.dst (.row j' (n+m))=envf j') (hv:∀ j',∀ p∈pend',∀ x∈p.V,x∈K'' j') (h:∀ j',TD Y ds ops k pend' L' (envf j') (K'' j')):TD Y ds ops k pend (i::L') env K:=by
 rcases Nat.eq_zero_or_pos m with e0 | hpos
 ·subst e0
  have hk:K'' j=K:=(hu j).same (by rw [hln rfl,List.append_nil])
  have ht':=ht
  unfold apOf at ht'
  split at ht'
  ·rename_i e' h1
   split at ht'
   ·rename_i ti h2
    refine TD.cq (r:=.row j n) sl ho hd hw hp' hc (q_app0 hop h1 h2 hs hx hl) (he j) (by rw [<- hk]; exact hv j) ?_
    rw [<- hk]; exact h j
   ·cases ht'
  ·cases ht'
 ·exact TD.capp sl ho hd hw hp' hc (a_app hop ht hs hm hlo hx (hsrc hpos) hpos hone hmax hbytes) hu he hv h
theorem exK_app {j n:Nat} {ob ob':AObj} {K'':Nat->KV} {sl:List Nat} (hd:isDefer o.op=false) (hq:∀ A,View K A->OpOk P gm (onl sl env) A o (.row A.length n) (A.set j .gone++[ob'])) (hu:∀ j',Upd K j ob j' ob' (K'' j')) (he:∀ j',putA env o.dst (.row j' n)=envf j') (hv:∀ j',∀ p∈pend',∀ x∈p.V,x∈K'' j') (h:∀ j',TD Y ds ops k pend' L' (envf j') (K'' j')) :
  ExK Y (onl sl env) K o fun r K'=>(∀ p∈pend',∀ x∈p.V,x∈K')/\TD Y ds ops k pend' L' (putA env o.dst r) K' :=
 exK_op hd fun A hv' hn=>⟨_,_,_,hq A hv',.renew hv' hn (hu _),hv _,by rw [he]; exact h _⟩
theorem exK_appG {s x:Operand} {t e:TypeId} {size bytes j n m:Nat} {lo ln:List AV} {u:AV} {K'':Nat->KV} {sl:List Nat} (hd:isDefer o.op=false) (hop:o.op=.call { callee:=.builtin .append,args:=#[s,x],argTypes:=#[t,t] }) (ht:apOf P t=some (e,size,bytes)) (hs:opndO gm (onl sl env) s=some (.row j n)) (hm:(j,.row lo e size)∈K) (hlo:lo.length=n*size) (hx:opndO gm (onl sl env) x=some u) (hl:lenA u=some m) (hsrc:0<m->srcO K size u m ln) (hln:m=0->ln=[])
  (hone:ln.all oneA=true) (hmax:n+m<=maxLen) (hbytes:(n+m)*bytes<=140737488355328) (hu:∀ j',Upd K j (.row lo e size) j' (.row (lo++ln) e size) (K'' j')) (he:∀ j',putA env o.dst (.row j' (n+m))=envf j') (hv:∀ j',∀ p∈pend',∀ x∈p.V,x∈K'' j') (h:∀ j',TD Y ds ops k pend' L' (envf j') (K'' j')) :
  ExK Y (onl sl env) K o fun r K'=>(∀ p∈pend',∀ x∈p.V,x∈K')/\TD Y ds ops k pend' L' (putA env o.dst r) K':=by
 rcases Nat.eq_zero_or_pos m with e0 | hpos
 ·subst e0
  have hk:K'' j=K:=(hu j).same (by rw [hln rfl,List.append_nil])
  have ht':=ht
  unfold apOf at ht'
  split at ht'
  ·rename_i e' h1
   split at ht'
   ·rename_i ti h2
    exact exK_op hd fun A hv' hn=>⟨.row j n,A,K,q_app0 hop h1 h2 hs hx hl A hv',.same hv' hn,by rw [<- hk]; exact hv j,by rw [show putA env o.dst (.row j n)=envf j from he j,<- hk]; exact h j⟩
   ·cases ht'
  ·cases ht'
 ·exact exK_app hd (a_app hop ht hs hm hlo hx (hsrc hpos) hpos hone hmax hbytes) hu he hv h
end
end Go.Vel
namespace Go.Vel
open Go Go.Conc Go.Proofs
theorem only_ok {main:Bool} {T:Goroutine->Hp->Prop} (hT:Shut Tryz.prog main T) {gm:Nat->Option Nat} {b:RBk} {s h e mask:Nat} (hm:b.measures.length<=3) (hk:mask<100) :
  CallK Tryz.prog T gm 116 [.agg (rollC b s h e),intA mask] [(e,measO b)] (fun r K'=>∃ jl jm,r=.tup [.agg [intA b.steps,intA b.round,intA b.roll,intA b.rolls,.sl s 0 b.seams.length,.sl h 0 b.shrinks.length,.row jm (onlyB b mask).measures.length],.row jl (bitsM mask b.measures.length).length]/\K'=[(jl,.row ((bitsM mask b.measures.length).map intA) 3 1),(jm,.row ((onlyB b mask).measures.flatMap measC) 49 3),(e,measO b)]):=by
 refine callK_in 42 hT Tryz.func116 fun Y hret=>?_
 refine au [4,5,21] ?_
 intro jb hjb
 refine au [22] ?_
 intro jr hjr
 refine au [2,3,4,5,2] ?_
 refine TK.virt 6 3 1 rfl fun jl0 hjl0=>?_
 refine au [3,4,5,8,22] ?_
 intro j7 hj7
 refine au [17,3,4,5,7,7,17] ?_
 refine TK.normK (K':=[(j7,.cells [intA b.steps,intA b.round,intA b.roll,intA b.rolls,.sl s 0 b.seams.length,.sl h 0 b.shrinks.length,.v (.slice none 0 0)] 113 true),_,_,_,_]) (by simp only [setL,rollC,List.drop_zero,List.take,List.set]; rfl) ?_
 refine TK.virtAt (j:=j7) (i:=6) (e:=49) (size:=3) (l:=[intA b.steps,intA b.round,intA b.roll,intA b.rolls,.sl s 0 b.seams.length,.sl h 0 b.shrinks.length,.v (.slice none 0 0)]) rfl (fun _=>uQ) fun jm0 hjm0=>?_
 refine au [3,4,4,5,7,7,9,28,1,3,13] ?_
 refine TK.maskL [1,4,5,6,7,15,16,17] ?_
 refine TK.kp [(e,_),(jl0,_),(jm0,_),(j7,_),(jr,_)] ?_
 refine TK.loopN (fun n env K=>∃ (i jl jm:Nat),n=b.measures.length - i/\i<=b.measures.length/\env=[.any,.v (.int .i64 ((mask:Nat):Int)),.any,.any,.ptr jr 0,.v (.slice none 0 0),.row jl (bitsM mask i).length,.ptr j7 0,.any,.any,.any,.any,.any,.any,.any,.sl e 0 b.measures.length,intA b.measures.length,intA i,.any,.any,.any,.any,.any,.any,.any,.any,.any,.any,.any,.any,.any,.any,.any,.any,.any,.any,.any,.any,.any,.any,.any,.any]/\K=[(e,measO b),(jl,.row ((bitsM mask i).map intA) 3 1),(jm,.row ((onlyL b.measures mask i).flatMap measC) 49 3),(j7,.cells [intA b.steps,intA b.round,intA b.roll,intA b.rolls,.sl s 0 b.seams.length,.sl h 0 b.shrinks.length,.row jm (onlyL b.measures mask i).length] 113 true),(jr,.cells z7R 113 true)]) b.measures.length ⟨0,jl0,jm0,rfl,Nat.zero_le _,rfl,rfl⟩ fun n env K hI hnext=>?_
 obtain ⟨i,jl,jm,rfl,hi,rfl,rfl⟩:=hI
 have hbl:=bitsM_le mask i
 have hol:=onlyL_len b.measures mask i hi
 have hfl:=flat_len measC 3 (fun _=>rfl) (onlyL b.measures mask i)
 refine au [4,5,6,3,4,20] ?_
 refine ⟨fun hc0=>?_,fun hc0=>?_⟩
 ·have hil:i<b.measures.length:=by simp at hc0; omega
  obtain ⟨x,hx⟩:∃ x,b.measures[i]? =some x:=⟨_,List.getElem?_eq_getElem hil⟩
  refine au [12,4,13,4,5,1,36] ?_
  refine TK.a rfl (q_load rfl rfl TySz.h mQ (mes_at (i:=i) hx rfl)) ?_
  refine au [22] ?_
  intro j9 hj9
  refine au [2,17,3,4,5,1,1] ?_
  refine TK.a rfl (q_sh rfl rfl rfl ⟨by omega,by show ((i:Nat):Int)<=64; omega⟩ (sh_nat mask i)) ?_
  refine TK.a rfl (q_and1 rfl rfl rfl (by have:=Nat.div_le_self mask (2 ^ i); omega)) ?_
  refine au [6,3,20] ?_
  refine ⟨fun hc1=>?_,fun hc1=>?_⟩
  ·have hbit:mask / 2 ^ i % 2=1:=by have h:=eq_of_beq hc1; omega
   have hk1:bitsM mask (i+1)=bitsM mask i++[(i:Int)]:=by show bitsM mask i++_=_; rw [if_pos hbit]
   have hk2:onlyL b.measures mask (i+1)=onlyL b.measures mask i++[x]:=by show onlyL b.measures mask i++_=_; rw [if_pos hbit,hx]; rfl
   refine TK.draw [0,1,4,5,6,7,2,3,8,9,10,11,12,13] [0,1,2,3,4,5,6,7,8,9,10,11,12,13] (by kernel_rfl) (by kernel_rfl) ?_
   refine TD.z [6] rfl (q_move rfl rfl) ?_
   refine TD.z [8] rfl (q_move rfl rfl) ?_
   refine TD.z [7] rfl (q_fieldAddr rfl rfl FldOf.h dQ) ?_
   refine TD.z [31] rfl (q_fieldAddr rfl rfl FldOf.h dQ) ?_
   refine TD.y [32] rfl (hq:=q_load1 rfl rfl TySz.h (List.Mem.head _) rfl) (h:=?_)
   refine TD.y [9] rfl (hq:=q_load rfl rfl TySz.h (List.Mem.head _) rfl) (h:=?_)
   refine TD.c2 (i1:=2) (i2:=8) (pend1:=[⟨7,[9],[(_,_)]⟩,⟨6,[32],[(_,_)]⟩,⟨5,[31],[]⟩,⟨4,[7],[]⟩,⟨0,[6],[]⟩]) (pend2:=[⟨6,[32],[(_,_)]⟩,⟨5,[31],[]⟩,⟨4,[7],[]⟩,⟨1,[8],[]⟩,⟨0,[6],[]⟩]) (L1:=[3,8,9,10,11,12,13]) (L2:=[2,3,9,10,11,12,13]) [28] [34] rfl rfl rfl rfl rfl rfl rfl ?_ ?_
   ·refine exK_newR rfl (n_buildSlice (l:=[_]) rfl SlEl.h TyZ.h dQ dQ rfl) (fun _=>putS rfl (by simp only [List.set]; rfl)) sQ fun j1 hj1=>?_
    refine TD.c2 (i1:=3) (i2:=8) (pend1:=[⟨7,[9],[(_,_)]⟩,⟨6,[32],[(_,_)]⟩,⟨5,[31],[]⟩,⟨4,[7],[]⟩]) (pend2:=[⟨6,[32],[(_,_)]⟩,⟨5,[31],[]⟩,⟨4,[7],[]⟩,⟨0,[6],[]⟩]) (L1:=[8,9,10,11,12,13]) (L2:=[3,9,10,11,12,13]) [27,29] [34] rfl rfl rfl rfl rfl rfl rfl ?_ ?_
    ·refine exK_app rfl (a_app rfl ApOf.h rfl mQ sQ rfl (src_row (ln:=[_]) mQ dQ sQ rfl) oQ rfl (by unfold maxLen; omega) oQ) (fun _=>uQ) (fun _=>putS rfl (by simp only [List.set]; rfl)) (fun _=>sQ) fun jl2=>?_
     refine TD.cnewR (pend':=[⟨6,[32],[(_,_)]⟩,⟨5,[31],[]⟩,⟨4,[7],[]⟩]) [34] rfl rfl rfl rfl rfl (n_buildSlice (l:=[_,_,_]) rfl SlEl.h TyZ.h dQ dQ rfl) (fun _=>putS rfl (by simp only [List.set]; rfl)) sQ fun j2 hj2=>?_
     refine TD.capp (pend':=[⟨5,[31],[]⟩,⟨4,[7],[]⟩]) [33,35] rfl rfl rfl rfl rfl (a_app rfl ApOf.h rfl mQ oQ rfl (src_row (ln:=[_,_,_]) mQ dQ sQ rfl) oQ rfl (by unfold maxLen; omega) oQ) (fun _=>uQ) (fun _=>putS rfl (by simp only [List.set]; rfl)) (fun _=>sQ) fun jm2=>?_
     refine TD.as (pend':=[⟨5,[31],[]⟩,⟨4,[7],[]⟩]) [30] rfl rfl (q_assign rfl rfl) ?_
     refine TD.z [7] rfl (q_fieldAddr rfl rfl FldOf.h dQ) ?_
     refine TD.z [37] rfl (q_fieldAddr rfl rfl FldOf.h dQ) ?_
     refine TD.s (pend':=[⟨11,[7],[]⟩]) [36,38] rfl rfl (q_store rfl rfl TySz.h rfl rfl mQ rfl) ?_
     refine TD.fin ?_
     refine au [14,5,23,1,3] ?_
     refine TK.maskL [1,4,5,6,7,15,16,17] ?_
     refine TK.kp [(e,_),(jl2,_),(jm2,_),(j7,_),(jr,_)] ?_
     exact hnext _ _ _ oQ ⟨i+1,jl2,jm2,rfl,by omega,by rw [hk1,List.length_append]; rfl,by rw [hk1,hk2,flat_snoc,List.map_append,List.length_append]; rfl⟩
    ·refine exK_newR rfl (n_buildSlice (l:=[_,_,_]) rfl SlEl.h TyZ.h dQ dQ rfl) (fun _=>putS rfl (by simp only [List.set]; rfl)) sQ fun j3 hj3=>?_
     refine TD.capp (pend':=[⟨6,[32],[(_,_)]⟩,⟨5,[31],[]⟩,⟨4,[7],[]⟩]) [27,29] rfl rfl rfl rfl rfl (a_app rfl ApOf.h rfl mQ sQ rfl (src_row (ln:=[_]) mQ dQ sQ rfl) oQ rfl (by unfold maxLen; omega) oQ) (fun _=>uQ) (fun _=>putS rfl (by simp only [List.set]; rfl)) (fun _=>sQ) fun jl2=>?_
     refine TD.capp (pend':=[⟨5,[31],[]⟩,⟨4,[7],[]⟩]) [33,35] rfl rfl rfl rfl rfl (a_app rfl ApOf.h rfl mQ oQ rfl (src_row (ln:=[_,_,_]) mQ dQ sQ rfl) oQ rfl (by unfold maxLen; omega) oQ) (fun _=>uQ) (fun _=>putS rfl (by simp only [List.set]; rfl)) (fun _=>sQ) fun jm2=>?_
     refine TD.as (pend':=[⟨5,[31],[]⟩,⟨4,[7],[]⟩]) [30] rfl rfl (q_assign rfl rfl) ?_
     refine TD.z [7] rfl (q_fieldAddr rfl rfl FldOf.h dQ) ?_
     refine TD.z [37] rfl (q_fieldAddr rfl rfl FldOf.h dQ) ?_
     refine TD.s (pend':=[⟨11,[7],[]⟩]) [36,38] rfl rfl (q_store rfl rfl TySz.h rfl rfl mQ rfl) ?_
     refine TD.fin ?_
     refine au [14,5,23,1,3] ?_
     refine TK.maskL [1,4,5,6,7,15,16,17] ?_
     refine TK.kp [(e,_),(jl2,_),(jm2,_),(j7,_),(jr,_)] ?_
     exact hnext _ _ _ oQ ⟨i+1,jl2,jm2,rfl,by omega,by rw [hk1,List.length_append]; rfl,by rw [hk1,hk2,flat_snoc,List.map_append,List.length_append]; rfl⟩
   ·refine exK_newR rfl (n_buildSlice (l:=[_,_,_]) rfl SlEl.h TyZ.h dQ dQ rfl) (fun _=>putS rfl (by simp only [List.set]; rfl)) sQ fun j4 hj4=>?_
    refine TD.cnewR (pend':=[⟨6,[32],[(_,_)]⟩,⟨5,[31],[]⟩,⟨4,[7],[]⟩,⟨0,[6],[]⟩]) [28] rfl rfl rfl rfl rfl (n_buildSlice (l:=[_]) rfl SlEl.h TyZ.h dQ dQ rfl) (fun _=>putS rfl (by simp only [List.set]; rfl)) sQ fun j5 hj5=>?_
    refine TD.capp (pend':=[⟨6,[32],[(_,_)]⟩,⟨5,[31],[]⟩,⟨4,[7],[]⟩]) [27,29] rfl rfl rfl rfl rfl (a_app rfl ApOf.h rfl mQ sQ rfl (src_row (ln:=[_]) mQ dQ sQ rfl) oQ rfl (by unfold maxLen; omega) oQ) (fun _=>uQ) (fun _=>putS rfl (by simp only [List.set]; rfl)) (fun _=>sQ) fun jl2=>?_
    refine TD.capp (pend':=[⟨5,[31],[]⟩,⟨4,[7],[]⟩]) [33,35] rfl rfl rfl rfl rfl (a_app rfl ApOf.h rfl mQ oQ rfl (src_row (ln:=[_,_,_]) mQ dQ sQ rfl) oQ rfl (by unfold maxLen; omega) oQ) (fun _=>uQ) (fun _=>putS rfl (by simp only [List.set]; rfl)) (fun _=>sQ) fun jm2=>?_
    refine TD.as (pend':=[⟨5,[31],[]⟩,⟨4,[7],[]⟩]) [30] rfl rfl (q_assign rfl rfl) ?_
    refine TD.z [7] rfl (q_fieldAddr rfl rfl FldOf.h dQ) ?_
    refine TD.z [37] rfl (q_fieldAddr rfl rfl FldOf.h dQ) ?_
    refine TD.s (pend':=[⟨11,[7],[]⟩]) [36,38] rfl rfl (q_store rfl rfl TySz.h rfl rfl mQ rfl) ?_
    refine TD.fin ?_
    refine au [14,5,23,1,3] ?_
    refine TK.maskL [1,4,5,6,7,15,16,17] ?_
    refine TK.kp [(e,_),(jl2,_),(jm2,_),(j7,_),(jr,_)] ?_
    exact hnext _ _ _ oQ ⟨i+1,jl2,jm2,rfl,by omega,by rw [hk1,List.length_append]; rfl,by rw [hk1,hk2,flat_snoc,List.map_append,List.length_append]; rfl⟩
  have hbit:¬ mask / 2 ^ i % 2=1:=fun h=>by rw [h] at hc1; simp at hc1
  refine au [12,14,5,23,1,3] ?_
  refine TK.maskL [1,4,5,6,7,15,16,17] ?_
  refine TK.kp [(e,_),(jl,_),(jm,_),(j7,_),(jr,_)] ?_
  exact hnext _ _ _ oQ ⟨i+1,jl,jm,rfl,by omega,by rw [show bitsM mask (i+1)=bitsM mask i by show bitsM mask i++_=_; rw [if_neg hbit,List.append_nil]]; rfl,by rw [show bitsM mask (i+1)=bitsM mask i by show bitsM mask i++_=_; rw [if_neg hbit,List.append_nil],show onlyL b.measures mask (i+1)=onlyL b.measures mask i by show onlyL b.measures mask i++_=_; rw [if_neg hbit,List.append_nil]]⟩
 obtain rfl:i=b.measures.length:=by simp at hc0; omega
 refine au [16,4,5,8,1,17,2,3] ?_
 refine TK.rt hret [(jl,_),(jm,_),(e,_)] ?_
 exact ⟨jl,jm,by unfold onlyB; rfl,by unfold onlyB; rfl⟩
def badM (b:RBk) (k:Nat):Bool:=(statesM (onlyB b k)).isEmpty
def clashL (b:RBk):Nat->Option (List Int)
 | 0=>none
 | k+1=>if badM b k=true then (match clashL b k with
  | none=>some (bitsM k b.measures.length)
  | some l=>if smallerM (bitsM k b.measures.length) l=true then some (bitsM k b.measures.length) else some l) else clashL b k
def clashM (b:RBk):Option (List Int):=clashL b (2 ^ b.measures.length)
def BestL (jo:Nat):Option (List Int)->KV->Prop
 | none,K=>K=[(jo,.cells [.v (.slice none 0 0),boolA false] 155 true)]
 | some l,K=>∃ j0 e0,K=[(jo,.cells [.sl j0 0 l.length,boolA true] 155 true),(j0,.cells (l.map intA) e0 false)]
theorem shl_ok {m:Nat} (hm:m<=3):IntKind.i64.wrap (1*2 ^ ((m:Nat):Int).toNat)=((2 ^ m:Nat):Int):=by
 have:m=0\/m=1\/m=2\/m=3:=by omega
 rcases this with rfl | rfl | rfl | rfl <;> decide
instance:Cal Tryz.prog 115:=⟨by kernel_rfl⟩
instance:Cal Tryz.prog 116:=⟨by kernel_rfl⟩
instance:Cal Tryz.prog 117:=⟨by kernel_rfl⟩
instance:FldOf Tryz.prog 155 0 0 false 1:=⟨by kernel_rfl⟩
instance:FldOf Tryz.prog 155 1 1 false 1:=⟨by kernel_rfl⟩
instance:TyZA Tryz.prog 155 [.v (.slice none 0 0),.v (.bool false)]:=⟨by kernel_rfl⟩
theorem offerL0_ok {main:Bool} {T:Goroutine->Hp->Prop} (hT:Shut Tryz.prog main T) {gm:Nat->Option Nat} {jo jl:Nat} {xs:List Int} {e1:TypeId} :
  CallK Tryz.prog T gm 117 [.ptr jo 0,.sl jl 0 xs.length,.fn 118 [] []] [(jo,.cells [.v (.slice none 0 0),boolA false] 155 true),(jl,.cells (xs.map intA) e1 false)] (fun r K'=>K'=[(jo,.cells [.sl jl 0 xs.length,boolA true] 155 true),(jl,.cells (xs.map intA) e1 false)]):=by
 refine callK_in 27 hT Tryz.func117 fun Y hret=>?_
 refine au [4,5,1] ?_
 refine TK.a rfl (q_nilP rfl rfl) ?_
 refine au [7,9,30,1] ?_
 refine TK.sp 11 (fun g0_6=>?_) (fun g0_6=>?_)
 ·refine au [11,11,11,11,11,11,11,26,3,18,5,1,1,1] ?_
  refine TK.a rfl (q_nilP rfl rfl) ?_
  refine au [7,17] ?_
  refine TK.a rfl (q_nilP rfl rfl) ?_
  refine au [7,17,3] ?_
  refine TK.rt0 hret [(jo,_),(jl,_)] ?_
  exact rfl
 simp at g0_6
theorem offerL1_ok {main:Bool} {T:Goroutine->Hp->Prop} (hT:Shut Tryz.prog main T) {gm:Nat->Option Nat} {jo jl j0:Nat} {xs ys:List Int} {e1 e2:TypeId} (hl:xs.length<=1000) :
  CallK Tryz.prog T gm 117 [.ptr jo 0,.sl jl 0 xs.length,.fn 118 [] []] [(jo,.cells [.sl j0 0 ys.length,boolA true] 155 true),(j0,.cells (ys.map intA) e2 false),(jl,.cells (xs.map intA) e1 false)] (fun r K'=>(smallerM xs ys=true/\K'=[(jo,.cells [.sl jl 0 xs.length,boolA true] 155 true),(jl,.cells (xs.map intA) e1 false)])\/(smallerM xs ys=false/\K'=[(jo,.cells [.sl j0 0 ys.length,boolA true] 155 true),(j0,.cells (ys.map intA) e2 false)])):=by
 refine callK_in 27 hT Tryz.func117 fun Y hret=>?_
 refine au [4,5,1] ?_
 refine TK.a rfl (q_nilP rfl rfl) ?_
 refine au [7,9,30,1] ?_
 refine TK.sp 11 (fun g0_6=>?_) (fun g0_6=>?_)
 ·simp at g0_6
 refine au [1,1,1] ?_
 refine TK.a rfl (q_nilP rfl rfl) ?_
 refine au [7,9] ?_
 refine TK.callF' rfl rfl rfl rfl rfl (callFK_fn Cal.h (smaller_ok hT hl)) (by repeat (first | exact Split.none _ | exact Split.all _ | (apply Split.rem; repeat (first | exact Rem.head | apply Rem.tail)) | apply Split.right)) fun r1 K2 h3=>?_
 obtain ⟨rfl,rfl⟩:=h3
 refine au [25,3,20] ?_
 refine ⟨fun hc0=>?_,fun hc0=>?_⟩
 ·refine au [5,1,1,1] ?_
  refine TK.a rfl (q_nilP rfl rfl) ?_
  refine au [7,17] ?_
  refine TK.a rfl (q_nilP rfl rfl) ?_
  refine au [7,17,3] ?_
  refine TK.rt0 hret [(jo,_),(jl,_)] ?_
  exact .inl ⟨hc0,rfl⟩
 refine au [12] ?_
 refine TK.rt0 hret [(jo,_),(j0,_)] ?_
 exact .inr ⟨hc0,rfl⟩
theorem clash_ok {main:Bool} {T:Goroutine->Hp->Prop} (hT:Shut Tryz.prog main T)  {b:RBk} {s h e:Nat} (hl:b.seams.length<=100) (hm:b.measures.length<=100) :
  CallK Tryz.prog T gmR 38 [.agg (rollC b s h e)] [(0,checksG),(s,seamO b),(h,shrO b),(e,measO b)] (fun r K'=>(checkM b≠0/\r=.tup [.v (.slice none 0 0),intA (checkM b)]/\K'=[(0,checksG),(s,seamO b),(h,shrO b),(e,measO b)])\/(checkM b=0/\statesM b≠[]/\r=.tup [.v (.slice none 0 0),intA 0]/\K'=[(0,checksG),(s,seamO b),(h,shrO b),(e,measO b)])\/(checkM b=0/\statesM b=[]/\clashM b=none/\r=.tup [.v (.slice none 0 0),intA 0]/\K'=[(0,checksG),(s,seamO b),(h,shrO b),(e,measO b)])\/(checkM b=0/\statesM b=[]/\∃ l j0 e0,clashM b=some l/\r=.tup [.sl j0 0 l.length,intA 0]/\K'=(j0,.cells (l.map intA) e0 false)::[(0,checksG),(s,seamO b),(h,shrO b),(e,measO b)])):=by
 refine callK_in 41 hT Tryz.func38 fun Y hret=>?_
 refine au [4,5,21] ?_
 intro jb hjb
 refine au [2,2,3,4,5,8] ?_
 refine TK.cl rfl rfl rfl rfl (opened0_ok hT (Kx:=[]) hl hm) ?_
 rintro r1 K2 h3
 rcases h3 with ⟨⟨hbar,rfl⟩ | ⟨hbar,rfl⟩,rfl⟩
 ·refine au [1,10,10,22] ?_
  intro j4 hj4
  refine au [17,2,3,4,4,5,1,6,3,20] ?_
  refine ⟨fun hc0=>?_,fun hc0=>?_⟩
  ·exact absurd hc0 sQ
  have hbb:=check_ok0 hbar
  have hml:=hbb.mes.len
  have hsh:=shl_ok hml
  have h2m:2 ^ b.measures.length<=8:=Nat.pow_le_pow_right (n:=2) dQ hml
  refine au [12,4,4,5,8] ?_
  refine TK.cl rfl rfl rfl rfl (some_ok hT hbb) ?_
  rintro r4 K5 ⟨rfl,rfl⟩
  refine au [3,20] ?_
  refine ⟨fun hc1=>?_,fun hc1=>?_⟩
  ·refine au [4,5,2,2,3] ?_
   refine TK.rt hret [(0,_),(s,_),(h,_),(e,_)] ?_
   exact .inr (.inl ⟨hbar,fun h=>by rw [h] at hc1; simp at hc1,rfl,rfl⟩)
  have hnil:statesM b=[]:=by cases hh:statesM b with | nil=>rfl | cons x r=>rw [hh] at hc1; simp at hc1
  refine au [12,4,5,22] ?_
  intro jo hjo
  refine au [3,4,4,5,7,9,28] ?_
  refine TK.a rfl (q_shL rfl rfl rfl ⟨by omega,by show ((b.measures.length:Nat):Int)<=64; omega⟩ (r:=((2 ^ b.measures.length:Nat):Int)) hsh) ?_
  refine au [1,3,13] ?_
  refine TK.maskL [1,2,3,4,6,23,24] ?_
  refine TK.kp ((0,_)::(s,_)::(h,_)::(e,_)::(j4,_)::(jb,_)::[(jo,_)]) ?_
  refine TK.loopN (fun n env K=>∃ (i:Nat) (Kb:KV),n=2 ^ b.measures.length - i/\i<=2 ^ b.measures.length/\BestL jo (clashL b i) Kb/\env=[.any,.ptr jb 0,.v (.slice none 0 0),intA 0,.ptr j4 0,.any,.ptr jo 0,.any,.any,.any,.any,.any,.any,.any,.any,.any,.any,.any,.any,.any,.any,.any,.any,.v (.int .i64 ((2 ^ b.measures.length:Nat):Int)),intA i,.any,.any,.any,.any,.any,.any,.any,.any,.any,.any,.any,.any,.any,.any,.any,.any]/\K=(0,checksG)::(s,seamO b)::(h,shrO b)::(e,measO b)::(j4,.cells (rollC b s h e) 113 true)::(jb,.cells (rollC b s h e) 26 true)::Kb) (2 ^ b.measures.length) ⟨0,_,rfl,Nat.zero_le _,rfl,rfl,rfl⟩ fun n env K hI hnext=>?_
  obtain ⟨i,Kb,rfl,hi,hbl,rfl,rfl⟩:=hI
  refine au [4,5,6,3,4,20] ?_
  refine ⟨fun hc2=>?_,fun hc2=>?_⟩
  ·have hil:i<2 ^ b.measures.length:=Int.ofNat_lt.1 (of_decide_eq_true hc2)
   have hbo:=only_ok0 hbb i
   refine au [12,4,13,4,5,1,2,3,4,5,8,1] ?_
   refine TK.cl rfl rfl rfl rfl (only_ok hT (mask:=i) hml oQ) ?_ (hs:=(.right (.right (.right (.left (.none _))))))
   rintro r7 K8 ⟨jl,jm,rfl,rfl⟩
   refine au [1,10,10,22] ?_
   intro j8 hj8
   refine au [17,2,3,4] ?_
   refine TK.unrowAt (c:=j8) (i:=6) (j:=jm) rfl mQ uQ ?_
   refine TK.frzRow (j:=jm) ?_
   refine au [5,8] ?_
   refine TK.cl rfl rfl rfl rfl (some_ok hT hbo (s:=s) (h:=h) (e:=jm)) ?_ (hs:=(.rem (.tail (.tail (.tail (.tail (.tail .head))))) (.rem (.tail (.tail (.tail (.tail (.tail .head))))) (.rem (.tail (.tail .head)) (.none _)))))
   rintro r10 K11 ⟨rfl,rfl⟩
   refine au [30,3,20] ?_
   refine ⟨fun hc3=>?_,fun hc3=>?_⟩
   ·have hbad:badM b i=true:=by simpa [badM] using hc3
    refine TK.asSl 9 rfl mQ ?_
    refine TK.frzRow (j:=jl) ?_
    refine au [5] ?_
    rcases hcl:clashL b i with _ | l0
    ·rw [hcl] at hbl
     have hbl:Kb=[(jo,.cells [.v (.slice none 0 0),boolA false] 155 true)]:=hbl
     subst hbl
     refine TK.a rfl (q_move rfl rfl) ?_
     refine TK.cl rfl rfl rfl rfl (offerL0_ok hT) ?_
     rintro r13 K14 rfl
     refine au [3,14,5,23,1,3] ?_
     refine TK.maskL [1,2,3,4,6,23,24] ?_
     refine TK.kp ((0,_)::(s,_)::(h,_)::(e,_)::(j4,_)::(jb,_)::[(jo,_),(jl,_)]) ?_
     exact hnext _ _ _ oQ ⟨i+1,_,rfl,by omega,by unfold clashL; rw [if_pos hbad,hcl]; exact ⟨jl,3,rfl⟩,rfl,rfl⟩
    ·rw [hcl] at hbl
     obtain ⟨j0,e0,rfl⟩:=hbl
     refine TK.a rfl (q_move rfl rfl) ?_
     refine TK.cl rfl rfl rfl rfl (offerL1_ok hT (by have:=bitsM_le i b.measures.length; omega)) ?_
     rintro r16 K17 h18
     rcases h18 with ⟨hsm,rfl⟩ | ⟨hsm,rfl⟩
     ·refine au [3,14,5,23,1,3] ?_
      refine TK.maskL [1,2,3,4,6,23,24] ?_
      refine TK.kp ((0,_)::(s,_)::(h,_)::(e,_)::(j4,_)::(jb,_)::[(jo,_),(jl,_)]) ?_
      exact hnext _ _ _ oQ ⟨i+1,_,rfl,by omega,by unfold clashL; rw [if_pos hbad,hcl]; dsimp only; rw [if_pos hsm]; exact ⟨jl,3,rfl⟩,rfl,rfl⟩
     ·refine au [3,14,5,23,1,3] ?_
      refine TK.maskL [1,2,3,4,6,23,24] ?_
      refine TK.kp ((0,_)::(s,_)::(h,_)::(e,_)::(j4,_)::(jb,_)::[(jo,_),(j0,_)]) ?_
      exact hnext _ _ _ oQ ⟨i+1,_,rfl,by omega,by unfold clashL; rw [if_pos hbad,hcl]; dsimp only; rw [if_neg (by rw [hsm]; decide)]; exact ⟨j0,e0,rfl⟩,rfl,rfl⟩
   have hbad:¬ badM b i=true:=fun h=>by simp [badM] at h; rw [h] at hc3; simp at hc3
   refine au [12,14,5,23,1,3] ?_
   refine TK.maskL [1,2,3,4,6,23,24] ?_
   refine TK.kp ((0,_)::(s,_)::(h,_)::(e,_)::(j4,_)::(jb,_)::Kb) ?_
   exact hnext _ _ _ oQ ⟨i+1,_,rfl,by omega,by unfold clashL; rw [if_neg hbad]; exact hbl,rfl,rfl⟩
  have hil:¬ i<2 ^ b.measures.length:=fun h=>of_decide_eq_false hc2 (Int.ofNat_lt.2 h)
  obtain rfl:i=2 ^ b.measures.length:=by omega
  refine au [16,4,5] ?_
  rcases hbst:clashL b (2 ^ b.measures.length) with _ | l0
  ·rw [hbst] at hbl
   have hbl:Kb=[(jo,.cells [.v (.slice none 0 0),boolA false] 155 true)]:=hbl
   subst hbl
   refine TK.a rfl (q_fieldAddr rfl rfl FldOf.h dQ) ?_
   refine au [9,2,2,3] ?_
   refine TK.rt hret [(0,_),(s,_),(h,_),(e,_)] ?_
   exact .inr (.inr (.inl ⟨hbar,hnil,hbst,rfl,rfl⟩))
  ·rw [hbst] at hbl
   obtain ⟨j0,e0,rfl⟩:=hbl
   refine TK.a rfl (q_fieldAddr rfl rfl FldOf.h dQ) ?_
   refine au [9,2,2,3] ?_
   refine TK.rt hret [(j0,_),(0,_),(s,_),(h,_),(e,_)] ?_
   exact .inr (.inr (.inr ⟨hbar,hnil,l0,j0,e0,hbst,rfl,rfl⟩))
 ·refine au [1,10,10,22] ?_
  intro j4 hj4
  refine au [17,2,3,4,4,5,1,6,3,20] ?_
  refine ⟨fun hc0=>?_,fun hc0=>?_⟩
  ·
   refine au [4,5,1,2,2,3] ?_
   refine TK.rt hret [(0,_),(s,_),(h,_),(e,_)] ?_
   exact .inl ⟨hbar,rfl,rfl⟩
  exact absurd hbar (by simpa using hc0)
def greatM (b:RBk):Bool:=decide (b.seams.length>20)||decide (b.shrinks.length>20)||decide (b.measures.length>20)
def exB:RBk:=⟨12,15,8,2,[⟨0,3,2,1,false⟩,⟨5,2,1,4,false⟩,⟨9,4,3,0,false⟩],[⟨0,1⟩,⟨0,0⟩,⟨0,1⟩],[]⟩
theorem take_eq_next {α:Type} {xs ys:List α} {i:Nat} {x y:α} (hx:xs[i]? =some x) (hy:ys[i]? =some y) (ht:xs.take i=ys.take i) (he:x=y):xs.take (i+1)=ys.take (i+1):=by
 rw [take_snoc hx,take_snoc hy,ht,he]
theorem eq_of_takes {α:Type} {xs ys:List α} (hl:xs.length=ys.length) (ht:xs.take xs.length=ys.take xs.length):xs=ys:=by
 rwa [List.take_length,hl,List.take_length] at ht
theorem ne_at {α:Type} {xs ys:List α} {i:Nat} {x y:α} (hx:xs[i]? =some x) (hy:ys[i]? =some y) (hne:x≠y):xs≠ys:=fun h=>by rw [h,hy] at hx; exact hne (Option.some.inj hx).symm
instance:BlOf Tryz.prog 94 [(0,1),(1,1),(2,1),(3,1),(4,1)]:=⟨by kernel_rfl⟩
instance:Cal Tryz.prog 29:=⟨by kernel_rfl⟩
instance:Cal Tryz.prog 55:=⟨by kernel_rfl⟩
instance:Cal Tryz.prog 56:=⟨by kernel_rfl⟩
theorem great_ok {main:Bool} {T:Goroutine->Hp->Prop} (hT:Shut Tryz.prog main T) {gm:Nat->Option Nat} {b:RBk} {s h e:Nat} :
  CallK Tryz.prog T gm 18 [.agg (rollC b s h e)] [] (fun r K'=>r=boolA (greatM b)/\K'=[]):=by
 refine callK_in 19 hT Tryz.func18 fun Y hret=>?_
 refine au [4,5,21] ?_
 intro jb hjb
 refine au [2,3,4,5,7,9,28,6,1] ?_
 refine TK.sp 7 (fun g1_5=>?_) (fun g1_5=>?_)
 ·refine au [11,11,11,11,26,1,11,11,11,11,26,2,3] ?_
  refine TK.rt hret [] ?_
  exact ⟨by unfold greatM; rw [show decide (b.seams.length>20)=true by simp at g1_5; simp; omega]; rfl,rfl⟩
 refine au [7,9,28,6,25,1] ?_
 refine TK.sp 13 (fun g1_11=>?_) (fun g1_11=>?_)
 ·refine au [11,11,11,11,26,2,3] ?_
  refine TK.rt hret [] ?_
  exact ⟨by unfold greatM; rw [show decide (b.shrinks.length>20)=true by simp at g1_11; simp; omega]; simp,rfl⟩
 refine au [7,9,28,6,25,2,3] ?_
 refine TK.rt hret [] ?_
 exact ⟨by unfold greatM; rw [show decide (b.seams.length>20)=false by simp at g1_5; simp; omega,show decide (b.shrinks.length>20)=false by simp at g1_11; simp; omega,Bool.false_or,Bool.false_or]; exact congrArg _ (congrArg _ (decide_eq_decide.2 oQ)),rfl⟩
theorem sameIntsR_ok {main:Bool} {T:Goroutine->Hp->Prop} (hT:Shut Tryz.prog main T) {gm:Nat->Option Nat} {j off j2:Nat} {ob:AObj} {xs ys:List Int} (hI:∀ (i:Nat) (x:Int),xs[i]? =some x->takeO ob (off+(i:Int).toNat*1) 1=some [intA x]) (hl:xs.length<=1000) :
  CallK Tryz.prog T gm 29 [.sl j off xs.length,.row j2 ys.length] [(j,ob),(j2,.row (ys.map intA) 3 1)] (fun r K'=>r=boolA (decide (xs=ys))/\K'=[(j,ob),(j2,.row (ys.map intA) 3 1)]):=by
 refine callK_in 26 hT Tryz.func29 fun Y hret=>?_
 refine au [4,5,2,3,4,4,5,1,28,1,28,6,3,20] ?_
 refine ⟨fun hc0=>?_,fun hc0=>?_⟩
 ·refine au [4,5,2,3] ?_
  refine TK.rt hret [(j,_),(j2,_)] ?_
  exact ⟨by rw [decide_eq_false (fun h=>by rw [h] at hc0; simp at hc0)],rfl⟩
 have hll:xs.length=ys.length:=by simp at hc0; omega
 refine au [12,4,4,5,2,3,13] ?_
 refine TK.maskL [0,1,4,5] ?_
 refine TK.loopN (fun n env K=>∃ (i:Nat),n=xs.length - i/\i<=xs.length/\xs.take i=ys.take i/\env=[.sl j off xs.length,.row j2 ys.length,.any,.any,boolA false,intA i,.any,.any,.any,.any,.any,.any,.any,.any,.any,.any,.any,.any,.any,.any,.any,.any,.any,.any,.any,.any]/\K=[(j,ob),(j2,.row (ys.map intA) 3 1)]) xs.length ⟨0,rfl,Nat.zero_le _,by simp,rfl,rfl⟩ fun n env K hI2 hnext=>?_
 obtain ⟨i,rfl,hi,hta,rfl,rfl⟩:=hI2
 refine au [4,4,5,1,1,28,6,3,20] ?_
 refine ⟨fun hc1=>?_,fun hc1=>?_⟩
 ·have hil:i<xs.length:=by simp at hc1; omega
  obtain ⟨x,hx⟩:∃ x,xs[i]? =some x:=⟨_,List.getElem?_eq_getElem hil⟩
  obtain ⟨y,hy⟩:∃ y,ys[i]? =some y:=⟨_,List.getElem?_eq_getElem oQ⟩
  refine au [12,4,13,4] ?_
  refine TK.draw [0,1,2,3,4,5,6,7,8] [0,1,2,3,4,5,6,7,8] (by kernel_rfl) (by kernel_rfl) ?_
  refine TD.z [0] rfl (q_move rfl rfl) ?_
  refine TD.z [5] rfl (q_move rfl rfl) ?_
  refine TD.z [17,18] rfl (q_indexSl rfl rfl rfl SlEl.h oQ oQ) ?_
  refine TD.y [19] rfl (hq:=q_load1 rfl rfl TySz.h (List.Mem.head _) (hI i x hx)) (h:=?_)
  refine TD.z [1] rfl (q_move rfl rfl) ?_
  refine TD.z [5] rfl (q_move rfl rfl) ?_
  refine TD.y [21,22] rfl (hq:=q_indexRow rfl rfl rfl SlEl.h (List.Mem.head _) oQ oQ) (h:=?_)
  refine TD.y [23] rfl (hq:=q_load1 rfl rfl TySz.h (List.Mem.head _) (rows_at hy rfl)) (h:=?_)
  refine TD.z [20,24] rfl (q_cmp rfl rfl rfl rfl) ?_
  refine TD.fin ?_
  refine au [20] ?_
  refine ⟨fun hc2=>?_,fun hc2=>?_⟩
  ·refine au [4,5,2,3] ?_
   refine TK.rt hret [(j,_),(j2,_)] ?_
   exact ⟨by rw [decide_eq_false (ne_at hx hy (fun h=>by rw [h] at hc2; simp at hc2))],rfl⟩
  refine au [12,14,5,1,23,2,3] ?_
  refine TK.maskL [0,1,4,5] ?_
  refine TK.kp [(j,_),(j2,_)] ?_
  exact hnext _ _ _ oQ ⟨i+1,rfl,by omega,take_eq_next hx hy hta (by simp at hc2; exact hc2),rfl,rfl⟩
 obtain rfl:i=xs.length:=by simp at hc1; omega
 refine au [16,4,5,2,3] ?_
 refine TK.rt hret [(j,_),(j2,_)] ?_
 exact ⟨by rw [decide_eq_true (eq_of_takes hll hta)],rfl⟩
theorem sameStripsR_ok {main:Bool} {T:Goroutine->Hp->Prop} (hT:Shut Tryz.prog main T) {gm:Nat->Option Nat} {j off j2:Nat} {ob:AObj} {xs ys:List (Int×Int)} (hI:∀ (i:Nat) (x:Int×Int),xs[i]? =some x->takeO ob (off+(i:Int).toNat*2) 2=some (pairC x)) (hl:xs.length<=1000) :
  CallK Tryz.prog T gm 26 [.sl j off xs.length,.row j2 ys.length] [(j,ob),(j2,.row (ys.flatMap pairC) 96 2)] (fun r K'=>r=boolA (decide (xs=ys))/\K'=[(j,ob),(j2,.row (ys.flatMap pairC) 96 2)]):=by
 refine callK_in 26 hT Tryz.func26 fun Y hret=>?_
 refine au [4,5,2,3,4,4,5,1,28,1,28,6,3,20] ?_
 refine ⟨fun hc0=>?_,fun hc0=>?_⟩
 ·refine au [4,5,2,3] ?_
  refine TK.rt hret [(j,_),(j2,_)] ?_
  exact ⟨by rw [decide_eq_false (fun h=>by rw [h] at hc0; simp at hc0)],rfl⟩
 have hll:xs.length=ys.length:=by simp at hc0; omega
 refine au [12,4,4,5,2,3,13] ?_
 refine TK.maskL [0,1,4,5] ?_
 refine TK.loopN (fun n env K=>∃ (i:Nat),n=xs.length - i/\i<=xs.length/\xs.take i=ys.take i/\env=[.sl j off xs.length,.row j2 ys.length,.any,.any,boolA false,intA i,.any,.any,.any,.any,.any,.any,.any,.any,.any,.any,.any,.any,.any,.any,.any,.any,.any,.any,.any,.any]/\K=[(j,ob),(j2,.row (ys.flatMap pairC) 96 2)]) xs.length ⟨0,rfl,Nat.zero_le _,by simp,rfl,rfl⟩ fun n env K hI2 hnext=>?_
 obtain ⟨i,rfl,hi,hta,rfl,rfl⟩:=hI2
 refine au [4,4,5,1,1,28,6,3,20] ?_
 refine ⟨fun hc1=>?_,fun hc1=>?_⟩
 ·have hil:i<xs.length:=by simp at hc1; omega
  obtain ⟨x,hx⟩:∃ x,xs[i]? =some x:=⟨_,List.getElem?_eq_getElem hil⟩
  obtain ⟨y,hy⟩:∃ y,ys[i]? =some y:=⟨_,List.getElem?_eq_getElem oQ⟩
  refine au [12,4,13,4] ?_
  refine TK.draw [0,1,2,3,4,5,6,7,8] [0,1,2,3,4,5,6,7,8] (by kernel_rfl) (by kernel_rfl) ?_
  refine TD.z [0] rfl (q_move rfl rfl) ?_
  refine TD.z [5] rfl (q_move rfl rfl) ?_
  refine TD.z [17,18] rfl (q_indexSl rfl rfl rfl SlEl.h oQ oQ) ?_
  refine TD.y [19] rfl (hq:=q_load rfl rfl TySz.h (List.Mem.head _) (hI i x hx)) (h:=?_)
  refine TD.z [1] rfl (q_move rfl rfl) ?_
  refine TD.z [5] rfl (q_move rfl rfl) ?_
  refine TD.y [21,22] rfl (hq:=q_indexRow rfl rfl rfl SlEl.h (List.Mem.head _) oQ oQ) (h:=?_)
  refine TD.y [23] rfl (hq:=q_load rfl rfl TySz.h (List.Mem.head _) (rowf_at (c:=2) (f:=pairC) (fun _=>rfl) hy rfl dQ)) (h:=?_)
  refine TD.z [20,24] rfl (q_neqFlat rfl rfl rfl rfl rfl FlatF.h EqG.h) ?_
  refine TD.fin ?_
  refine au [20] ?_
  refine ⟨fun hc2=>?_,fun hc2=>?_⟩
  ·refine au [4,5,2,3] ?_
   refine TK.rt hret [(j,_),(j2,_)] ?_
   exact ⟨by rw [decide_eq_false (ne_at hx hy (fun h=>by rw [h] at hc2; simp at hc2))],rfl⟩
  refine au [12,14,5,1,23,2,3] ?_
  refine TK.maskL [0,1,4,5] ?_
  refine TK.kp [(j,_),(j2,_)] ?_
  exact hnext _ _ _ oQ ⟨i+1,rfl,by omega,take_eq_next hx hy hta (by simp at hc2; exact Prod.ext hc2.1 hc2.2),rfl,rfl⟩
 obtain rfl:i=xs.length:=by simp at hc1; omega
 refine au [16,4,5,2,3] ?_
 refine TK.rt hret [(j,_),(j2,_)] ?_
 exact ⟨by rw [decide_eq_true (eq_of_takes hll hta)],rfl⟩
theorem list_ok {main:Bool} {T:Goroutine->Hp->Prop} (hT:Shut Tryz.prog main T) {gm:Nat->Option Nat} {j off j2:Nat} {ob:AObj} {xs ys:List Int} (hI:∀ (i:Nat) (x:Int),xs[i]? =some x->takeO ob (off+(i:Int).toNat*1) 1=some [intA x]) (hl:xs.length<=1000) :
  CallK Tryz.prog T gm 89 [.sl j off xs.length,.row j2 ys.length] [(j,ob),(j2,.row (ys.map intA) 3 1)] (fun r K'=>r=boolA (decide (xs=ys))/\K'=[(j,ob),(j2,.row (ys.map intA) 3 1)]):=by
 refine callK_in 8 hT Tryz.func89 fun Y hret=>?_
 refine au [4,5,2,3,4,5,1,1] ?_
 refine TK.cl rfl rfl rfl rfl (sameIntsR_ok hT hI hl) ?_
 rintro r1 K2 ⟨rfl,rfl⟩
 refine au [2,3] ?_
 refine TK.rt hret [(j,_),(j2,_)] ?_
 exact ⟨rfl,rfl⟩
theorem to_ok {main:Bool} {T:Goroutine->Hp->Prop} (hT:Shut Tryz.prog main T) {gm:Nat->Option Nat} {a z:Int} :
  CallK Tryz.prog T gm 55 [intA a,intA z] [] (fun r K'=>r=.agg [intA a,intA z]/\K'=[]):=by
 refine callK_in 8 hT Tryz.func55 fun Y hret=>?_
 refine au [4,5,22] ?_
 intro j1 hj1
 refine au [3,4,5,1,1,39,17,3] ?_
 refine TK.rt hret [] ?_
 exact ⟨rfl,rfl⟩
theorem one_ok {main:Bool} {T:Goroutine->Hp->Prop} (hT:Shut Tryz.prog main T) {gm:Nat->Option Nat} {n:Int} :
  CallK Tryz.prog T gm 56 [intA n] [] (fun r K'=>r=.agg [intA n,intA n]/\K'=[]):=by
 refine callK_in 6 hT Tryz.func56 fun Y hret=>?_
 refine au [4,5,22] ?_
 intro j1 hj1
 refine au [3,4,5,1,1] ?_
 refine TK.cl rfl rfl rfl rfl (to_ok hT) ?_
 rintro r2 K3 ⟨rfl,rfl⟩
 refine au [17,3] ?_
 refine TK.rt hret [] ?_
 exact ⟨rfl,rfl⟩
theorem example_ok {main:Bool} {T:Goroutine->Hp->Prop} (hT:Shut Tryz.prog main T) {gm:Nat->Option Nat}  :
  CallK Tryz.prog T gm 88 [] [] (fun r K'=>∃ s h e,r=.agg (rollC exB s h e)/\K'=[(s,seamO exB),(h,shrO exB),(e,measO exB)]):=by
 refine callK_in 10 hT Tryz.func88 fun Y hret=>?_
 refine au [4,5,22] ?_
 intro j0 hj0
 refine au [3,4,5,42,42,42] ?_
 refine TK.newR rfl rfl rfl (n_buildSlice (l:=[_,_,_,_,_,_,_,_,_,_,_,_,_,_,_]) rfl SlEl.h TyZ.h dQ dQ rfl) (fun _=>putS rfl (by simp only [List.set]; rfl)) fun js hjs=>?_
 refine TK.cl rfl rfl rfl rfl (to_ok hT) ?_
 rintro r1 K2 ⟨rfl,rfl⟩
 refine au [] ?_
 refine TK.cl rfl rfl rfl rfl (one_ok hT) ?_
 rintro r4 K5 ⟨rfl,rfl⟩
 refine au [] ?_
 refine TK.cl rfl rfl rfl rfl (to_ok hT) ?_
 rintro r7 K8 ⟨rfl,rfl⟩
 refine au [] ?_
 refine TK.newR rfl rfl rfl (n_buildSlice (l:=[_,_,_,_,_,_]) rfl SlEl.h TyZ.h dQ dQ rfl) (fun _=>putS rfl (by simp only [List.set]; rfl)) fun jh hjh=>?_
 refine au [44,17] ?_
 refine TK.unrowAt (c:=j0) (i:=4) (j:=js) rfl mQ uQ ?_
 refine TK.frzRow (j:=js) ?_
 refine TK.unrowAt (c:=j0) (i:=5) (j:=jh) rfl mQ uQ ?_
 refine TK.frzRow (j:=jh) ?_
 refine TK.virtAt (j:=j0) (i:=6) (e:=49) (size:=3) (x:=none) (l:=[intA 12,intA 15,intA 8,intA 2,.sl js 0 3,.sl jh 0 3,.v (.slice none 0 0)]) (by rfl) (fun _=>uQ) fun je hje=>?_
 refine TK.unrowAt (c:=j0) (i:=6) (j:=je) rfl mQ uQ ?_
 refine TK.frzRow (j:=je) ?_
 refine au [3] ?_
 refine TK.rt hret [(js,_),(jh,_),(je,_)] ?_
 exact ⟨js,jh,je,rfl,rfl⟩
theorem measured_ok {main:Bool} {T:Goroutine->Hp->Prop} (hT:Shut Tryz.prog main T) {gm:Nat->Option Nat} {b:RBk} {s h e:Nat} {m:RMeas} (hm:b.measures.length<=100) :
  CallK Tryz.prog T gm 59 [.agg (rollC b s h e),.agg (measC m)] [(e,measO b)] (fun r K'=>∃ je,r=.agg (rollC (measuredB b m) s h je)/\K'=[(je,measO (measuredB b m)),(e,measO b)]):=by
 refine callK_in 14 hT Tryz.func59 fun Y hret=>?_
 refine au [] ?_
 have hfl:=flat_len measC 3 (fun _=>rfl) b.measures
 refine au [4,5,21] ?_
 intro jb hjb
 refine au [21] ?_
 intro jm hjm
 refine au [22] ?_
 intro jr hjr
 refine au [3,4] ?_
 refine TK.draw [1,2,4,0,3,5,6,7,8] [0,1,2,3,4,5,6,7,8] (by kernel_rfl) (by kernel_rfl) ?_
 refine TD.z [2] rfl (q_fieldAddr rfl rfl FldOf.h dQ) ?_
 refine TD.y [6] rfl (hq:=q_load1 rfl rfl TySz.h (List.Mem.head _) rfl) (h:=?_)
 refine TD.y [3] rfl (hq:=q_load rfl rfl TySz.h (List.Mem.head _) rfl) (h:=?_)
 refine TD.c2 (i1:=0) (i2:=5) (pend1:=[⟨4,[3],[(_,_)]⟩,⟨2,[6],[(_,_)]⟩,⟨1,[2],[]⟩]) (pend2:=[⟨2,[6],[(_,_)]⟩,⟨1,[2],[]⟩]) (L1:=[3,5,6,7,8]) (L2:=[0,3,6,7,8]) [] [9] rfl rfl rfl rfl rfl rfl rfl ?_ ?_
 ·refine exK_newR rfl (n_buildSlice (l:=[]) rfl SlEl.h TyZ.h dQ dQ rfl) (fun _=>putS rfl (by simp only [List.set]; rfl)) sQ fun j1 hj1=>?_
  refine TD.c2 (i1:=3) (i2:=5) (pend1:=[⟨4,[3],[(_,_)]⟩,⟨1,[2],[]⟩]) (pend2:=[⟨2,[6],[(_,_)]⟩,⟨1,[2],[]⟩]) (L1:=[5,6,7,8]) (L2:=[3,6,7,8]) [5,7] [9] rfl rfl rfl rfl rfl rfl rfl ?_ ?_
  ·refine exK_appG (ln:=b.measures.flatMap measC) rfl rfl ApOf.h rfl mQ rfl rfl rfl (fun hp=>src_sl mQ oQ (take_full hfl oQ)) (fun h=>List.eq_nil_of_length_eq_zero oQ) (flat_all measC (fun _=>rfl) _) (by unfold maxLen; omega) oQ (fun _=>uQ) (fun _=>putS rfl (by simp only [List.set]; rfl)) (fun _=>by simp) fun jc=>?_
   simp only [List.nil_append,Nat.zero_add]
   refine TD.cnewR (pend':=[⟨1,[2],[]⟩]) [9] rfl rfl rfl rfl rfl (n_buildSlice (l:=[_,_,_]) rfl SlEl.h TyZ.h dQ dQ rfl) (fun _=>putS rfl (by simp only [List.set]; rfl)) sQ fun j2 hj2=>?_
   refine TD.capp (pend':=[⟨1,[2],[]⟩]) [8,10] rfl rfl rfl rfl rfl (a_app rfl ApOf.h rfl mQ oQ rfl (src_row (ln:=[_,_,_]) mQ dQ sQ rfl) oQ rfl (by unfold maxLen; omega) oQ) (fun _=>uQ) (fun _=>putS rfl (by simp only [List.set]; rfl)) (fun _=>sQ) fun je=>?_
   refine TD.z [2] rfl (q_fieldAddr rfl rfl FldOf.h dQ) ?_
   refine TD.s (pend':=[]) [11,12] rfl rfl (q_store rfl rfl TySz.h rfl rfl mQ rfl) ?_
   refine TD.fin ?_
   refine au [4] ?_
   refine TK.unrowAt (c:=jb) (i:=6) (j:=je) rfl mQ uQ ?_
   refine TK.frzRow (j:=je) ?_
   rw [show b.measures.flatMap measC++[intA m.cloth,intA m.many,intA m.wide]=(measuredB b m).measures.flatMap measC from (flat_snoc measC b.measures m).symm,show b.measures.length+1=(measuredB b m).measures.length by simp [measuredB]]
   refine au [5,8,17,3] ?_
   refine TK.rt hret [(je,_),(e,_)] ?_
   exact ⟨je,rfl,rfl⟩
  ·refine exK_newR rfl (n_buildSlice (l:=[_,_,_]) rfl SlEl.h TyZ.h dQ dQ rfl) (fun _=>putS rfl (by simp only [List.set]; rfl)) sQ fun j3 hj3=>?_
   refine TD.cappG (ln:=b.measures.flatMap measC) (pend':=[⟨1,[2],[]⟩]) [5,7] rfl rfl rfl rfl rfl rfl ApOf.h rfl mQ rfl rfl rfl (fun hp=>src_sl mQ oQ (take_full hfl oQ)) (fun h=>List.eq_nil_of_length_eq_zero oQ) (flat_all measC (fun _=>rfl) _) (by unfold maxLen; omega) oQ (fun _=>uQ) (fun _=>putS rfl (by simp only [List.set]; rfl)) (fun _=>by simp) fun jc=>?_
   simp only [List.nil_append,Nat.zero_add]
   refine TD.capp (pend':=[⟨1,[2],[]⟩]) [8,10] rfl rfl rfl rfl rfl (a_app rfl ApOf.h rfl mQ oQ rfl (src_row (ln:=[_,_,_]) mQ dQ sQ rfl) oQ rfl (by unfold maxLen; omega) oQ) (fun _=>uQ) (fun _=>putS rfl (by simp only [List.set]; rfl)) (fun _=>sQ) fun je=>?_
   refine TD.z [2] rfl (q_fieldAddr rfl rfl FldOf.h dQ) ?_
   refine TD.s (pend':=[]) [11,12] rfl rfl (q_store rfl rfl TySz.h rfl rfl mQ rfl) ?_
   refine TD.fin ?_
   refine au [4] ?_
   refine TK.unrowAt (c:=jb) (i:=6) (j:=je) rfl mQ uQ ?_
   refine TK.frzRow (j:=je) ?_
   rw [show b.measures.flatMap measC++[intA m.cloth,intA m.many,intA m.wide]=(measuredB b m).measures.flatMap measC from (flat_snoc measC b.measures m).symm,show b.measures.length+1=(measuredB b m).measures.length by simp [measuredB]]
   refine au [5,8,17,3] ?_
   refine TK.rt hret [(je,_),(e,_)] ?_
   exact ⟨je,rfl,rfl⟩
 ·refine exK_newR rfl (n_buildSlice (l:=[_,_,_]) rfl SlEl.h TyZ.h dQ dQ rfl) (fun _=>putS rfl (by simp only [List.set]; rfl)) sQ fun j4 hj4=>?_
  refine TD.cnewR (pend':=[⟨2,[6],[(_,_)]⟩,⟨1,[2],[]⟩]) [] rfl rfl rfl rfl rfl (n_buildSlice (l:=[]) rfl SlEl.h TyZ.h dQ dQ rfl) (fun _=>putS rfl (by simp only [List.set]; rfl)) sQ fun j5 hj5=>?_
  refine TD.cappG (ln:=b.measures.flatMap measC) (pend':=[⟨1,[2],[]⟩]) [5,7] rfl rfl rfl rfl rfl rfl ApOf.h rfl mQ rfl rfl rfl (fun hp=>src_sl mQ oQ (take_full hfl oQ)) (fun h=>List.eq_nil_of_length_eq_zero oQ) (flat_all measC (fun _=>rfl) _) (by unfold maxLen; omega) oQ (fun _=>uQ) (fun _=>putS rfl (by simp only [List.set]; rfl)) (fun _=>by simp) fun jc=>?_
  simp only [List.nil_append,Nat.zero_add]
  refine TD.capp (pend':=[⟨1,[2],[]⟩]) [8,10] rfl rfl rfl rfl rfl (a_app rfl ApOf.h rfl mQ oQ rfl (src_row (ln:=[_,_,_]) mQ dQ sQ rfl) oQ rfl (by unfold maxLen; omega) oQ) (fun _=>uQ) (fun _=>putS rfl (by simp only [List.set]; rfl)) (fun _=>sQ) fun je=>?_
  refine TD.z [2] rfl (q_fieldAddr rfl rfl FldOf.h dQ) ?_
  refine TD.s (pend':=[]) [11,12] rfl rfl (q_store rfl rfl TySz.h rfl rfl mQ rfl) ?_
  refine TD.fin ?_
  refine au [4] ?_
  refine TK.unrowAt (c:=jb) (i:=6) (j:=je) rfl mQ uQ ?_
  refine TK.frzRow (j:=je) ?_
  rw [show b.measures.flatMap measC++[intA m.cloth,intA m.many,intA m.wide]=(measuredB b m).measures.flatMap measC from (flat_snoc measC b.measures m).symm,show b.measures.length+1=(measuredB b m).measures.length by simp [measuredB]]
  refine au [5,8,17,3] ?_
  refine TK.rt hret [(je,_),(e,_)] ?_
  exact ⟨je,rfl,rfl⟩
end Go.Vel
namespace Go.Vel
open Go Go.Conc
theorem pendS {ops:Array Oper} {i:Nat} {pend pend':List Pd} {es:List Nat} (h:edgesOf .any ops i=es) (h2:(pend.filter fun p => !(es.elem p.i))=pend'):pendOf ops i pend=pend':=by unfold pendOf; rw [h]; exact h2
theorem x_len:(exB.seams.length<=100)/\(exB.measures.length<=100):=by decide
theorem x_check:checkM exB=0:=by decide +kernel
theorem x_cut12:bar2 (checkM exB) (cutsM exB [1,2])=0:=by decide +kernel
theorem x_cut01:bar2 (checkM exB) (cutsM exB [0,1])=0:=by decide +kernel
theorem x_cut02:bar2 (checkM exB) (cutsM exB [0,2])=0:=by decide +kernel
theorem x_strips:stripsM exB [1,2]=[(1,4),(2,8)]:=by decide +kernel
theorem x_fits01:fitsM exB [0,1]=true:=by decide +kernel
theorem x_fits02:fitsM exB [0,2]=false:=by decide +kernel
theorem x_h1:bar2 (checkM exB) (bar2 (cutsM exB [0,1]) (shM exB [1,0,1]))=0:=by decide +kernel
theorem x_hang1:hangM exB [0,1] [1,0,1]=some ([3,2],13):=by decide +kernel
theorem x_h2:bar2 (checkM exB) (bar2 (cutsM exB [0,1]) (shM exB [0,0,1]))=0:=by decide +kernel
theorem x_hang2:hangM exB [0,1] [0,0,1]=some ([2,2],11):=by decide +kernel
theorem x_places:placesM exB [0,1] [0,0,1] [2,2]=[0,7]:=by decide +kernel
theorem x_states:statesM exB=[[0,0,0],[0,0,1],[1,0,0],[1,0,1]]:=by decide +kernel
theorem x_ne:statesM exB≠[]:=by rw [x_states]; decide
theorem x_th2:bar2 (checkM exB) (thereM exB 2)=0:=by decide +kernel
theorem x_shr2:shrM exB 2=[0,1]:=by decide +kernel
theorem x_new:newM exB=(3,5):=by decide +kernel
theorem x_can01:canM exB [0,1]=1:=by decide +kernel
theorem x_can02:canM exB [0,2]=2:=by decide +kernel
theorem x_hall:betw 16 exB.steps 40=true:=by decide +kernel
theorem x_c16b:bar2 (checkM (atRound exB 16)) (cutsM (atRound exB 16) [0,1])=0:=by decide +kernel
theorem x_ne16:statesM (atRound exB 16)≠[]:=by decide +kernel
theorem x_can16:canM (atRound exB 16) [0,1]=0:=by decide +kernel
theorem x_sq12:squaresM exB (statesM exB) [1,2]=some (9,15):=by decide +kernel
theorem x_sq02:squaresM exB (statesM exB) [0,2]=none:=by decide +kernel
theorem x_sq01:squaresM exB (statesM exB) [0,1]=some (9,13):=by decide +kernel
theorem x_widest:widestM exB (statesM exB)=some 16:=by decide +kernel
theorem x_ask:askM exB (statesM exB)=(0,2):=by decide +kernel
def exM:RBk:=measuredB exB ⟨2,2,7⟩
theorem x_mc:checkM exM=0:=by decide +kernel
theorem x_mst:statesM exM=[[0,0,1],[1,0,0]]:=by decide +kernel
theorem x_mnew:newM exM=(4,4):=by decide +kernel
theorem x_mne:statesM exM≠[]:=by rw [x_mst]; decide
def exD:RBk:=driedB exB (0:Int).toNat (dryX exB 0 ⟨1,5⟩)
theorem x_d1:bar2 (checkM exB) (thereM exB 0)=0/\isBd ⟨1,5⟩ 0 5=true/\(dryX exB 0 ⟨1,5⟩).low<=(dryX exB 0 ⟨1,5⟩).high:=by decide +kernel
theorem x_d2:bar2 (checkM exB) (thereM exB 1)=0/\isBd ⟨1,2⟩ 0 5=true/\(dryX exB 1 ⟨1,2⟩).high<(dryX exB 1 ⟨1,2⟩).low:=by decide +kernel
theorem x_dc:checkM exD=0:=by decide +kernel
theorem x_dst:statesM exD=[[1,0,0],[1,0,1]]:=by decide +kernel
theorem x_dne:statesM exD≠[]:=by rw [x_dst]; decide
theorem x_dth:bar2 (checkM exD) (thereM exD 0)=0:=by decide +kernel
theorem x_dshr:shrM exD 0=[1]:=by decide +kernel
def exC1:RBk:=measuredB exB ⟨0,1,5⟩
def exC:RBk:=measuredB exC1 ⟨2,2,6⟩
theorem x_cc:checkM exC=0:=by decide +kernel
theorem x_cst:statesM exC=[]:=by decide +kernel
theorem x_clash:clashM exC=some [0,1]:=by decide +kernel
theorem x_bits3:bitsM 3 3=[0,1]:=by decide
theorem x_hi3:sqOk exB (statesM exB) (bitsM 3 3)=true/\sqHi exB (statesM exB) (bitsM 3 3)=13:=by
 unfold sqOk sqHi
 rw [x_bits3,x_sq01]
 exact ⟨rfl,rfl⟩
theorem x_best:∀ c:Fin 8,0<c.1->sqOk exB (statesM exB) (bitsM c.1 3)=true->c.1≠3->(bitsM 3 3,sqHi exB (statesM exB) (bitsM 3 3))≠(bitsM c.1 3,sqHi exB (statesM exB) (bitsM c.1 3))/\cheaperM (bitsM c.1 3,sqHi exB (statesM exB) (bitsM c.1 3)) (bitsM 3 3,sqHi exB (statesM exB) (bitsM 3 3))=false/\shorterM (bitsM c.1 3,sqHi exB (statesM exB) (bitsM c.1 3)) (bitsM 3 3,sqHi exB (statesM exB) (bitsM 3 3))=false:=by decide +kernel
theorem x_plan {bt:List Int×Int->List Int×Int->Bool} {c:Nat} (hbt:bt=cheaperM\/bt=shorterM) (h:PlanA exB (statesM exB) bt c):bitsM c exB.seams.length=[0,1]/\sqHi exB (statesM exB) (bitsM c exB.seams.length)=13:=by
 obtain ⟨h0,h1,h2,h3⟩:=h
 have e3:exB.seams.length=3:=rfl
 rw [e3] at h1 h2 h3 ⊢
 by_cases hc:c=3
 ·subst hc
  exact ⟨x_bits3,x_hi3.2⟩
 ·exfalso
  have h8:c<8:=h1
  obtain ⟨q1,q2,q3⟩:=x_best ⟨c,h8⟩ h0 h2 hc
  rcases h3 3 dQ dQ x_hi3.1 with h | h
  ·exact q1 h
  ·rcases hbt with rfl | rfl
   ·rw [q2] at h; cases h
   ·rw [q3] at h; cases h
theorem x_noplan (h:NoPlan exB (statesM exB)):False:=by
 have:=h 3 dQ dQ
 have e3:exB.seams.length=3:=rfl
 rw [e3,x_hi3.1] at this
 cases this
theorem or2 {x:Int} {A B:Prop} (h:(x≠0/\A)\/(x=0/\B)) (hx:x=0):B:=by
 rcases h with ⟨h,_⟩ | ⟨_,h⟩
 ·exact absurd hx h
 ·exact h
theorem or3 {x:Int} {A B C D:Prop} (h:(x≠0/\A)\/(x=0/\D/\B)\/(x=0/\¬ D/\C)) (hx:x=0) (hd:¬ D):C:=by
 rcases h with ⟨h,_⟩ | ⟨_,h,_⟩ | ⟨_,_,h⟩
 ·exact absurd hx h
 ·exact absurd h hd
 ·exact h
theorem or3b {x:Int} {A B C D:Prop} (h:(x≠0/\A)\/(x=0/\D/\B)\/(x=0/\C)) (hx:x=0) (hd:¬ D):C:=by
 rcases h with ⟨h,_⟩ | ⟨_,h,_⟩ | ⟨_,h⟩
 ·exact absurd hx h
 ·exact absurd h hd
 ·exact h
theorem or3c {x:Int} {y:Bool} {A B C:Prop} (h:(x≠0/\A)\/(x=0/\y=false/\B)\/(x=0/\y=true/\C)) (hx:x=0) (hy:y=true):C:=by
 rcases h with ⟨h,_⟩ | ⟨_,h,_⟩ | ⟨_,_,h⟩
 ·exact absurd hx h
 ·rw [hy] at h; cases h
 ·exact h
theorem or4 {x u v:Int} {y:Bool} {A B C D:Prop} (h:(x≠0/\A)\/(x=0/\y=false/\B)\/(x=0/\y=true/\u<v/\C)\/(x=0/\y=true/\v<=u/\D)) (hx:x=0/\y=true/\v<=u):D:=by
 obtain ⟨h1,h2,h3⟩:=hx
 rcases h with ⟨h,_⟩ | ⟨_,h,_⟩ | ⟨_,_,h,_⟩ | ⟨_,_,_,h⟩
 ·exact absurd h1 h
 ·rw [h2] at h; cases h
 ·omega
 ·exact h
theorem or4c {x u v:Int} {y:Bool} {A B C D:Prop} (h:(x≠0/\A)\/(x=0/\y=false/\B)\/(x=0/\y=true/\u<v/\C)\/(x=0/\y=true/\v<=u/\D)) (hx:x=0/\y=true/\u<v):C:=by
 obtain ⟨h1,h2,h3⟩:=hx
 rcases h with ⟨h,_⟩ | ⟨_,h,_⟩ | ⟨_,_,_,h⟩ | ⟨_,_,h,_⟩
 ·exact absurd h1 h
 ·rw [h2] at h; cases h
 ·exact h
 ·omega
theorem orCl {x:Int} {A B C D E F:Prop} (h:(x≠0/\A)\/(x=0/\¬ D/\B)\/(x=0/\D/\E/\C)\/(x=0/\D/\F)) (hx:x=0) (hd:D) (he:¬ E):F:=by
 rcases h with ⟨h,_⟩ | ⟨_,h,_⟩ | ⟨_,_,h,_⟩ | ⟨_,_,h⟩
 ·exact absurd hx h
 ·exact absurd hd h
 ·exact absurd h he
 ·exact h
theorem trT {r:AV} {P Q:Prop} [Decidable P] (h:r=boolA (decide P)/\Q) (hp:P):r=boolA true/\Q:=⟨by rw [h.1,decide_eq_true hp],h.2⟩
theorem ints_pre {xs zs:List Int} {i:Nat} {x:Int} {e:TypeId} {rw':Bool} (h:xs[i]? =some x):takeO (.cells ((xs++zs).map intA) e rw') (0+(i:Int).toNat*1) 1=some [intA x]:=ints_at (by rw [List.getElem?_append_left (List.getElem?_eq_some_iff.1 h).1]; exact h) rfl
theorem x_v12:sqLo exB (statesM exB) [1,2]=9/\sqHi exB (statesM exB) [1,2]=15/\sqOk exB (statesM exB) [1,2]=true:=by
 unfold sqLo sqHi sqOk
 rw [x_sq12]
 exact ⟨rfl,rfl,rfl⟩
theorem x_v02:sqLo exB (statesM exB) [0,2]=0/\sqHi exB (statesM exB) [0,2]=0/\sqOk exB (statesM exB) [0,2]=false:=by
 unfold sqLo sqHi sqOk
 rw [x_sq02]
 exact ⟨rfl,rfl,rfl⟩
theorem agr3 {b:RBk} {K:KV} {r:AV} {K':KV} (h:AgrR b K r K') (hx:checkM b=0) (hn:statesM b≠[]):∃ s h e,r=.tup [.agg (rollC b s h e),intA 0]/\K'=(s,seamO b)::(h,shrO b)::(e,measO b)::K:=or3 h hx hn
end Go.Vel
end
