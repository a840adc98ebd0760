/- Texts for the statements of chapter 8: what all of them need, part 8. It holds of every program, tape and world that the statements name, as each theorem says. -/
import Derived.Test.YtamcohjpanjdiaaGreatDoorV3
import Derived.Test.YtamcohjpanjdiaaGreatDoorV6
section
set_option linter.all false
set_option maxRecDepth 20000
set_option maxHeartbeats 60000000
namespace Go.Vel
open Go Go.Conc Go.Proofs
theorem st_at {s:List Int} {i:Nat} {n:Int} {e:TypeId} {rw':Bool} (h:i<5) (hn:n=(i:Int)):takeO (.cells (stC s) e rw') (0+n.toNat*1) 1=some [intA (s.getD i 0)]:=by
 subst hn
 have:i=0\/i=1\/i=2\/i=3\/i=4:=by omega
 rcases this with rfl | rfl | rfl | rfl | rfl <;> rfl
theorem getD_take {c:List Int} {i k:Nat} (h:k<i):(c.take i).getD k 0=c.getD k 0:=by
 rw [List.getD_eq_getElem?_getD,List.getD_eq_getElem?_getD,List.getElem?_take,if_pos h]
theorem st_map {c p:List Int} {m:Nat} (h5:c.length=5) (hp:p.length=m) (ht:c.take m=p) (hz:∀ k,m<=k->c.getD k 0=0):c.map intA=stC p:=by
 have key:∀ k,c.getD k 0=p.getD k 0:=fun k=>by
  by_cases h:k<m
  ·rw [<- ht,getD_take h]
  ·rw [hz k oQ,List.getD_eq_getElem?_getD,List.getElem?_eq_none oQ]; rfl
 have e:c.map intA=stC c:=by
  rcases c with _ | ⟨a0,_ | ⟨a1,_ | ⟨a2,_ | ⟨a3,_ | ⟨a4,_ | ⟨a5,r⟩⟩⟩⟩⟩⟩ <;> simp at h5
  rfl
 rw [e]
 unfold stC slotR
 rw [key 0,key 1,key 2,key 3,key 4]
theorem mes_at {xs:List RMeas} {i:Nat} {x:RMeas} {n:Int} {e:TypeId} {rw':Bool} (h:xs[i]? =some x) (hn:n=(i:Int)):takeO (.cells (xs.flatMap measC) e rw') (0+n.toNat*3) 3=some (measC x):=flat_at (c:=3) (fun _=>rfl) h hn dQ
theorem any_next {xs:List RMeas} {p:RMeas->Bool} {i:Nat} {x:RMeas} (h:xs[i]? =some x) (hn:(xs.take i).any p=false) (he:p x=false):(xs.take (i+1)).any p=false:=by
 rw [take_snoc h,List.any_append,hn]; simp [he]
theorem any_at {xs:List RMeas} {p:RMeas->Bool} {i:Nat} {x:RMeas} (h:xs[i]? =some x) (he:p x=true):xs.any p=true:=List.any_eq_true.2 ⟨x,List.mem_of_getElem? h,he⟩
theorem right_any (b:RBk) (s:List Int):rightM b s = !(b.measures.any fun m => !decide (togM b s m.cloth.toNat m.many.toNat=m.wide)):=by
 unfold rightM
 induction b.measures with
 | nil=>rfl
 | cons x r ih=>rw [List.all_cons,List.any_cons,ih]; simp
instance:Cal Tryz.prog 104:=⟨by kernel_rfl⟩
instance:Cal Tryz.prog 147:=⟨by kernel_rfl⟩
instance:Cal Tryz.prog 186:=⟨by kernel_rfl⟩
instance:Cal Tryz.prog 187:=⟨by kernel_rfl⟩
instance:Cal Tryz.prog 217:=⟨by kernel_rfl⟩
theorem now_ok {main:Bool} {T:Goroutine->Hp->Prop} (hT:Shut Tryz.prog main T) {gm:Nat->Option Nat} {b:RBk} {s h e i:Nat} {st:List Int} (hb:ROk b) (hs:StOk b st) (hi:i<b.seams.length) :
  CallK Tryz.prog T gm 147 [.agg (rollC b s h e),intA i,.agg (stC st)] [(s,seamO b)] (fun r K'=>r=intA (nowM b st i)/\K'=[(s,seamO b)]):=by
 refine callK_in 14 hT Tryz.func147 fun Y hret=>?_
 refine au [] ?_
 have hs5:=hb.sms.len
 have hw:=hb.wide hi
 have hsi:=hs.bnd i hi
 refine au [4,5,21] ?_
 intro jb hjb
 refine au [21] ?_
 intro js hjs
 refine au [2,3,4] ?_
 refine TK.draw [0,1,3,4,5,2,6,7] [0,1,2,3,4,5,6,7] (by kernel_rfl) (by kernel_rfl) ?_
 refine TD.y [3] rfl (hq:=q_load rfl rfl TySz.h (List.Mem.head _) rfl) (h:=?_)
 refine TD.z [1] rfl (q_move rfl rfl) ?_
 refine TD.z [1] rfl (q_move rfl rfl) ?_
 refine TD.z [5,10] rfl (q_indexArr rfl rfl rfl ArEl.h oQ oQ) ?_
 refine TD.y [11] rfl (hq:=q_load1 rfl rfl TySz.h (List.Mem.head _) (st_at (i:=i) oQ rfl)) (h:=?_)
 refine TD.cl (pend':=[⟨5,[11],[(_,_)]⟩,⟨4,[5,10],[]⟩,⟨3,[1],[]⟩]) [7,8] rfl rfl rfl rfl rfl (wide_ok hT (i:=i) hb.rnd hb.sms hi) (fun r1 K2 h3=>⟨?_,?_⟩)
 ·rcases h3 with ⟨rfl,rfl⟩
  all_goals simp
 obtain ⟨rfl,rfl⟩:=h3
 try simp only [List.cons_append,List.nil_append]
 refine TD.norm (by simp only [List.set]; rfl) ?_
 refine TD.z [9,12] rfl (q_sub rfl rfl rfl oQ) ?_
 refine TD.as (pend':=[]) [13] rfl rfl (q_assign rfl rfl) ?_
 refine TD.fin ?_
 refine au [] ?_
 refine TK.rt hret [(s,_)] ?_
 exact ⟨rfl,rfl⟩
theorem tog_ok {main:Bool} {T:Goroutine->Hp->Prop} (hT:Shut Tryz.prog main T) {gm:Nat->Option Nat} {b:RBk} {s h e:Nat} {c k:Int} {st:List Int} (hb:ROk b) (hs:StOk b st) (hc:0<=c/\c<=5) (hk:0<=k/\k<=5) :
  CallK Tryz.prog T gm 104 [.agg (rollC b s h e),intA c,intA k,.agg (stC st)] [(s,seamO b)] (fun r K'=>r=intA (togM b st c.toNat k.toNat)/\K'=[(s,seamO b)]):=by
 refine callK_in 30 hT Tryz.func104 fun Y hret=>?_
 refine au [] ?_
 obtain ⟨p,rfl⟩:∃ p:Nat,c=p:=⟨c.toNat,by omega⟩
 obtain ⟨q,rfl⟩:∃ q:Nat,k=q:=⟨k.toNat,by omega⟩
 have hs5:=hb.sms.len
 refine au [4,5,21] ?_
 intro jb hjb
 refine au [21] ?_
 intro js hjs
 refine au [2,3,4,5,2,3,4,4,5,1,1,3,13] ?_
 refine TK.maskL [1,4,7,9,11,12] ?_
 refine TK.kp [(s,_),(js,_),(jb,_)] ?_
 refine TK.loopN (fun n env K=>∃ (i:Nat),n=q - i/\i<=q/\env=[.any,intA p,.any,.any,.ptr jb 0,.any,.any,.ptr js 0,.any,intA (togM b st p i),.any,intA q,intA i,.any,.any,.any,.any,.any,.any,.any,.any,.any,.any,.any,.any,.any,.any,.any,.any,.any]/\K=[(s,seamO b),(js,.cells (stC st) 129 true),(jb,.cells (rollC b s h e) 113 true)]) q ⟨0,rfl,Nat.zero_le _,rfl,rfl⟩ fun n env K hI hnext=>?_
 obtain ⟨i,rfl,hi,rfl,rfl⟩:=hI
 have htb:=tog_bd hb hs (c:=p) i
 refine au [4,5,6,3,4,20] ?_
 refine ⟨fun hc0=>?_,fun hc0=>?_⟩
 ·have hil:i<q:=by simp at hc0; omega
  have hmod:(p+i) % b.seams.length<b.seams.length:=Nat.mod_lt _ oQ
  have hcm:((p:Int)+(i:Int)) % (b.seams.length:Int)=(((p+i) % b.seams.length:Nat):Int):=by rw [Int.natCast_emod,Int.natCast_add]
  have hw:=hb.wide hmod
  have hsi:=hs.bnd _ hmod
  have hnow:nowM b st ((p+i) % b.seams.length)=wideM b ((p+i) % b.seams.length) - st.getD ((p+i) % b.seams.length) 0:=rfl
  refine au [12,4,13,4,5,1,2,3] ?_
  refine TK.draw [0,1,2,3,4,5,6,7,8,9,10,11,12,13] [0,1,2,3,4,5,6,7,8,9,10,11,12,13] (by kernel_rfl) (by kernel_rfl) ?_
  refine TD.z [9] rfl (q_move rfl rfl) ?_
  refine TD.y [4] rfl (hq:=q_load rfl rfl TySz.h (List.Mem.head _) rfl) (h:=?_)
  refine TD.z [1] rfl (q_move rfl rfl) ?_
  refine TD.z [10] rfl (q_move rfl rfl) ?_
  refine TD.z [17,18] rfl (q_add rfl rfl rfl oQ) ?_
  refine TD.z [4] rfl (q_fieldAddr rfl rfl FldOf.h dQ) ?_
  refine TD.z [20] rfl (q_fieldAddr rfl rfl FldOf.h dQ) ?_
  refine TD.y [21] rfl (hq:=q_load1 rfl rfl TySz.h (List.Mem.head _) rfl) (h:=?_)
  refine TD.z [22] rfl (q_len rfl rfl rfl Und.h) ?_
  refine TD.z [19,23] rfl (q_rem rfl rfl rfl oQ oQ) ?_
  rw [hcm]
  refine TD.y [7] rfl (hq:=q_load rfl rfl TySz.h (List.Mem.head _) rfl) (h:=?_)
  refine TD.cl (pend':=[⟨8,[22],[]⟩,⟨7,[21],[(_,_)]⟩,⟨6,[20],[]⟩,⟨5,[4],[]⟩,⟨4,[17,18],[]⟩,⟨3,[10],[]⟩,⟨2,[1],[]⟩,⟨0,[9],[]⟩]) [16,24,25] rfl rfl rfl rfl rfl (now_ok hT (i:=(p+i) % b.seams.length) hb hs hmod) (fun r1 K2 h3=>⟨?_,?_⟩)
  ·rcases h3 with ⟨rfl,rfl⟩
   all_goals simp
  obtain ⟨rfl,rfl⟩:=h3
  try simp only [List.cons_append,List.nil_append]
  refine TD.norm (by simp only [List.set]; rfl) ?_
  refine TD.z [15,26] rfl (q_add rfl rfl rfl oQ) ?_
  refine TD.as (pend':=[]) [27] rfl rfl (q_assign rfl rfl) ?_
  refine TD.fin ?_
  refine au [14,5,23,1,3] ?_
  refine TK.maskL [1,4,7,9,11,12] ?_
  refine TK.kp [(s,_),(js,_),(jb,_)] ?_
  exact hnext _ _ _ oQ ⟨i+1,rfl,by omega,rfl,rfl⟩
 obtain rfl:i=q:=by simp at hc0; omega
 refine au [16,4,5,1,2,3] ?_
 refine TK.rt hret [(s,_)] ?_
 exact ⟨rfl,rfl⟩
theorem rightM_ok {main:Bool} {T:Goroutine->Hp->Prop} (hT:Shut Tryz.prog main T) {gm:Nat->Option Nat} {b:RBk} {s h e jb js:Nat} {m:RMeas} {st:List Int} (hb:ROk b) (hs:StOk b st) (hm:m∈b.measures) :
  CallK Tryz.prog T gm 187 [.agg (measC m),.ptr jb 0,.ptr js 0] [(jb,.cells (rollC b s h e) 113 true),(js,.cells (stC st) 129 true),(s,seamO b)] (fun r K'=>r=boolA (!decide (togM b st m.cloth.toNat m.many.toNat=m.wide))/\K'=[(jb,.cells (rollC b s h e) 113 true),(js,.cells (stC st) 129 true),(s,seamO b)]):=by
 refine callK_in 15 hT Tryz.func187 fun Y hret=>?_
 refine au [] ?_
 have hs5:=hb.sms.len
 have hmm:=hb.mes.bnd m hm
 refine au [4,5,21] ?_
 intro jm hjm
 refine au [2,3,4] ?_
 refine TK.draw [0,1,2,3,4,5,7,8,6,9,10] [0,1,2,3,4,5,6,7,8,9,10] (by kernel_rfl) (by kernel_rfl) ?_
 refine TD.y [1] rfl (hq:=q_load rfl rfl TySz.h (List.Mem.head _) rfl) (h:=?_)
 refine TD.z [3] rfl (q_fieldAddr rfl rfl FldOf.h dQ) ?_
 refine TD.y [6] rfl (hq:=q_load1 rfl rfl TySz.h (List.Mem.head _) rfl) (h:=?_)
 refine TD.z [3] rfl (q_fieldAddr rfl rfl FldOf.h dQ) ?_
 refine TD.y [8] rfl (hq:=q_load1 rfl rfl TySz.h (List.Mem.head _) rfl) (h:=?_)
 refine TD.y [2] rfl (hq:=q_load rfl rfl TySz.h (List.Mem.head _) rfl) (h:=?_)
 refine TD.z [3] rfl (q_fieldAddr rfl rfl FldOf.h dQ) ?_
 refine TD.y [12] rfl (hq:=q_load1 rfl rfl TySz.h (List.Mem.head _) rfl) (h:=?_)
 refine TD.cl (pend':=[⟨8,[12],[(_,_)]⟩,⟨7,[3],[]⟩,⟨3,[3],[]⟩,⟨1,[3],[]⟩]) [5,7,9,10] rfl rfl rfl rfl rfl (tog_ok hT (c:=m.cloth) (k:=m.many) hb hs oQ oQ) (fun r1 K2 h3=>⟨?_,?_⟩)
 ·rcases h3 with ⟨rfl,rfl⟩
  all_goals simp
 obtain ⟨rfl,rfl⟩:=h3
 try simp only [List.cons_append,List.nil_append]
 refine TD.norm (by simp only [List.set]; rfl) ?_
 refine TD.z [11,13] rfl (q_cmp rfl rfl rfl rfl) ?_
 refine TD.as (pend':=[]) [14] rfl rfl (q_assign rfl rfl) ?_
 refine TD.fin ?_
 refine au [] ?_
 refine TK.rt hret [(jb,_),(js,_),(s,_)] ?_
 exact ⟨by simp [bne]; rfl,rfl⟩
theorem indexM_ok {main:Bool} {T:Goroutine->Hp->Prop} (hT:Shut Tryz.prog main T) {gm:Nat->Option Nat} {j:Nat} {xs:List RMeas} {et:TypeId} {f:AV} {Kc:KV} {p:RMeas->Bool} (hp:∀ x∈xs,CallFK Tryz.prog T gm f [.agg (measC x)] Kc (fun r K'=>r=boolA (p x)/\K'=Kc)) (hl:xs.length<=1000) :
  CallK Tryz.prog T gm 217 [.sl j 0 xs.length,f] ((j,.cells (xs.flatMap measC) et false)::Kc) (fun r K'=>(∃ n:Int,r=intA n/\decide (n>=0)=xs.any p)/\K'=(j,.cells (xs.flatMap measC) et false)::Kc):=by
 refine callK_in 19 hT Tryz.func217 fun Y hret=>?_
 refine au [4,5,2,3,4,4,5,1,28,1,3,13] ?_
 refine TK.maskL [0,1,7,8] ?_
 refine TK.loopN (fun n env K=>∃ (i:Nat),n=xs.length - i/\i<=xs.length/\(xs.take i).any p=false/\env=[.sl j 0 xs.length,f,.any,.any,.any,.any,.any,intA xs.length,intA i,.any,.any,.any,.any,.any,.any,.any,.any,.any,.any]/\K=((j,.cells (xs.flatMap measC) et false)::Kc)) xs.length ⟨0,rfl,Nat.zero_le _,by simp,rfl,rfl⟩ fun n env K hI hnext=>?_
 obtain ⟨i,rfl,hi,hn,rfl,rfl⟩:=hI
 refine au [4,5,6,3,4,20] ?_
 refine ⟨fun hc=>?_,fun hc=>?_⟩
 ·simp only [decide_eq_true_eq] at hc
  have hil:i<xs.length:=by omega
  obtain ⟨x,hx⟩:∃ x,xs[i]? =some x:=⟨_,List.getElem?_eq_getElem hil⟩
  refine au [12,4,13,4,5,1,2,3,4,5,1,1,1,36] ?_
  refine TK.a rfl (q_load rfl rfl TySz.h mQ (mes_at (i:=i) hx rfl)) ?_
  refine TK.callF' rfl rfl rfl rfl rfl (hp x (List.mem_of_getElem? hx)) (.right (.all _)) fun r1 K2 h3=>?_
  obtain ⟨rfl,hK⟩:=h3
  refine au [] ?_
  rw [hK]
  refine TK.perm (K':=(j,_)::Kc) (List.perm_append_singleton _ _) ?_
  refine au [3,20] ?_
  refine ⟨fun hc1=>?_,fun hc1=>?_⟩
  ·refine au [4,5,1,2,3] ?_
   refine TK.rt hret (((j,_)::Kc)) ?_
   exact ⟨⟨i,rfl,by rw [decide_eq_true (Int.natCast_nonneg i),any_at hx hc1]⟩,rfl⟩
  refine au [12,14,5,23,1,3] ?_
  refine TK.maskL [0,1,7,8] ?_
  refine TK.kp (((j,_)::Kc)) ?_
  exact hnext _ _ _ oQ ⟨i+1,rfl,by omega,any_next hx hn hc1,rfl,rfl⟩
 simp only [decide_eq_false_iff_not] at hc
 obtain rfl:i=xs.length:=by omega
 refine au [16,4,5,2,3] ?_
 refine TK.rt hret (((j,_)::Kc)) ?_
 rw [List.take_length] at hn
 exact ⟨⟨-1,rfl,by rw [hn]; rfl⟩,rfl⟩
theorem containsM_ok {main:Bool} {T:Goroutine->Hp->Prop} (hT:Shut Tryz.prog main T) {gm:Nat->Option Nat} {j:Nat} {xs:List RMeas} {et:TypeId} {f:AV} {Kc:KV} {p:RMeas->Bool} (hp:∀ x∈xs,CallFK Tryz.prog T gm f [.agg (measC x)] Kc (fun r K'=>r=boolA (p x)/\K'=Kc)) (hl:xs.length<=1000) :
  CallK Tryz.prog T gm 186 [.sl j 0 xs.length,f] ((j,.cells (xs.flatMap measC) et false)::Kc) (fun r K'=>r=boolA (xs.any p)/\K'=(j,.cells (xs.flatMap measC) et false)::Kc):=by
 refine callK_in 9 hT Tryz.func186 fun Y hret=>?_
 refine au [4,5,2,3,4,5,1,1] ?_
 refine TK.cl rfl rfl rfl rfl (indexM_ok hT hp hl) ?_ (hs:=(.all _))
 rintro r1 K2 ⟨⟨m,rfl,hm⟩,rfl⟩
 refine au [] ?_
 refine TK.perm (K':=(j,_)::Kc) (by rw [List.append_nil]) ?_
 refine au [6,2,3] ?_
 refine TK.rt hret (((j,_)::Kc)) ?_
 exact ⟨by rw [<- hm],rfl⟩
theorem right_ok {main:Bool} {T:Goroutine->Hp->Prop} (hT:Shut Tryz.prog main T) {gm:Nat->Option Nat} {b:RBk} {s h e:Nat} {st:List Int} (hb:ROk b) (hs:StOk b st) :
  CallK Tryz.prog T gm 159 [.agg (rollC b s h e),.agg (stC st)] [(s,seamO b),(e,measO b)] (fun r K'=>r=boolA (rightM b st)/\K'=[(s,seamO b),(e,measO b)]):=by
 refine callK_in 11 hT Tryz.func159 fun Y hret=>?_
 refine au [4,5,21] ?_
 intro jb hjb
 refine au [21] ?_
 intro js hjs
 refine au [2,3,4,5,7,7,9,32] ?_
 refine TK.cl rfl rfl rfl rfl (containsM_ok hT (p:=fun m => !decide (togM b st m.cloth.toNat m.many.toNat=m.wide)) (Kc:=[(jb,.cells (rollC b s h e) 113 true),(js,.cells (stC st) 129 true),(s,seamO b)]) (fun x hx=>callFK_fn Cal.h (rightM_ok hT hb hs hx)) (by have:=hb.mes.len; omega)) ?_ (hs:=(.rem (.tail (.tail (.tail .head))) (.rem (.tail .head) (.rem .head (.rem .head (.none _))))))
 rintro r1 K2 ⟨rfl,rfl⟩
 refine au [30,2,3] ?_
 refine TK.rt hret [(s,_),(e,_)] ?_
 exact ⟨by rw [right_any],rfl⟩
def YieldR (P:Program) (T:Goroutine->Hp->Prop) (gm:Nat->Option Nat) (b:RBk) (s h e l:Nat) (J:List (List Int)->KV->Prop) (D:KV->Prop) (tot:List (List Int)):Prop:=∀ (pre:List (List Int)) (S:List Int) (K1:KV),pre++[S] <+: tot->J pre K1 ->
 CallFK P T gm (.yl l) [.agg (stC S)] ((s,seamO b)::(h,shrO b)::(e,measO b)::K1) fun r K'=>∃ K2,K'=(s,seamO b)::(h,shrO b)::(e,measO b)::K2/\((r=boolA true/\J (pre++[S]) K2)\/(r=boolA false/\D K2))
structure ArrOk (b:RBk) (c p:List Int):Prop where
 len:c.length=5
 tk:c.take p.length=p
 z:∀ k,b.shrinks.length<=k->c.getD k 0=0
theorem arr_set {b:RBk} {c p:List Int} {n:Int} (h:ArrOk b c p) (hp:p.length<b.shrinks.length) (h5:b.shrinks.length<=5):ArrOk b (c.set p.length n) (p++[n]):=by
 have hl:=h.len
 refine ⟨by simp [hl],?_,fun k hk=>?_⟩
 ·rw [List.length_append,List.length_singleton,List.take_add_one,List.getElem?_set_self oQ,List.take_set_of_le (Nat.le_refl _),h.tk]
  rfl
 ·rw [List.getD_eq_getElem?_getD,List.getElem?_set_ne oQ,<- List.getD_eq_getElem?_getD]
  exact h.z k hk
theorem arr_back {b:RBk} {c p:List Int} {n:Int} (h:ArrOk b c (p++[n])):ArrOk b c p:=⟨h.len,by
 have:=congrArg (List.take p.length) h.tk
 rw [List.take_take,List.length_append,List.take_append_of_le_length (Nat.le_refl _),List.take_length] at this
 rw [Nat.min_eq_left sQ] at this
 exact this,h.z⟩
theorem nums_one (n hi:Int) (h:n<=hi):numsF n (hi+1 - n).toNat=n::numsF (n+1) (hi+1 - (n+1)).toNat:=by
 rw [show (hi+1 - n).toNat=(hi+1 - (n+1)).toNat+1 by omega]; rfl
theorem nums_end (n hi:Int) (h:¬ n<=hi):numsF n (hi+1 - n).toNat=[]:=by
 rw [show (hi+1 - n).toNat=0 by omega]; rfl
theorem own_next {f:Int->List (List Int)} {n hi:Int} {pre x:List (List Int)} (hn:n<=hi) (h:pre++(numsF n (hi+1 - n).toNat).flatMap f=x):(pre++f n)++(numsF (n+1) (hi+1 - (n+1)).toNat).flatMap f=x:=by
 rw [<- h,nums_one n hi hn,List.flatMap_cons,List.append_assoc]
theorem perm_r (a b c d f g h:Nat×AObj) {R:KV}:([f,h]++a::b::c::d::g::R).Perm (a::b::c::d::f::g::h::R):=by
 have q1:([f,h]++a::b::c::d::g::R).Perm (a::b::c::d::g::R++[f,h]):=List.perm_append_comm
 have q2:((a::b::c::d::g::R)++[f,h]).Perm (a::b::c::d::([f,g,h]++R)):=by
  have q3:((g::R)++[f,h]).Perm ([f,g,h]++R):=by
   have q4:((g::R)++[f,h]).Perm (g::([f,h]++R)):=List.Perm.cons _ List.perm_append_comm
   exact q4.trans (List.Perm.swap _ _ _)
  exact (((q3.cons d).cons c).cons b).cons a
 exact q1.trans q2
theorem perm_s {a b c d:Nat×AObj} {R:KV}:(d::c::b::a::R).Perm (a::c::b::d::R):=by
 have q1:(d::c::b::a::R).Perm (c::b::a::d::R):=(List.perm_middle (l₁:=[c,b,a])).symm
 have q2:(c::b::a::d::R).Perm (a::c::b::d::R):=List.perm_middle (l₁:=[c,b])
 exact q1.trans q2
instance:Cal Tryz.prog 130:=⟨by kernel_rfl⟩
instance:Cal Tryz.prog 158:=⟨by kernel_rfl⟩
instance:Cal Tryz.prog 159:=⟨by kernel_rfl⟩
instance:TySz Tryz.prog 207 false 1:=⟨by kernel_rfl⟩
instance:TySz Tryz.prog 208 false 1:=⟨by kernel_rfl⟩
instance:TyZA Tryz.prog 208 [.v (.nilFunc)]:=⟨by kernel_rfl⟩
theorem next_ok {main:Bool} {T:Goroutine->Hp->Prop} (hT:Shut Tryz.prog main T) {gm:Nat->Option Nat} {b:RBk} {s h e l jb js jy jn:Nat} (hb:ROk b) {J:List (List Int)->KV->Prop} {D:KV->Prop} {tot:List (List Int)} (hy:YieldR Tryz.prog T gm b s h e l J D tot) :
  ∀ (m:Nat) (p c:List Int) (pre:List (List Int)) (K1:KV),b.shrinks.length - p.length=m->ArrOk b c p->PreB b p->pre++fromM b p (b.shrinks.drop p.length) <+: tot->J pre K1 ->
  CallK Tryz.prog T gm 158 [intA p.length,.ptr jb 0,.ptr js 0,.ptr jy 0,.ptr jn 0] ((jb,.cells (rollC b s h e) 113 true)::(js,.cells (c.map intA) 129 true)::(jy,.cells [.yl l] 207 true)::(jn,.cells [.fn 158 [] [.ptr jb 0,.ptr js 0,.ptr jy 0,.ptr jn 0]] 208 true)::(s,seamO b)::(h,shrO b)::(e,measO b)::K1) (fun r K'=>∃ (c':List Int) (K2:KV),ArrOk b c' p/\K'=(jb,.cells (rollC b s h e) 113 true)::(js,.cells (c'.map intA) 129 true)::(jy,.cells [.yl l] 207 true)::(jn,.cells [.fn 158 [] [.ptr jb 0,.ptr js 0,.ptr jy 0,.ptr jn 0]] 208 true)::(s,seamO b)::(h,shrO b)::(e,measO b)::K2/\((r=boolA true/\J (pre++fromM b p (b.shrinks.drop p.length)) K2)\/(r=boolA false/\D K2))):=by
 refine fun m=>Nat.strongRecOn m fun m ih=>?_
 intro p c pre K1 hm hc hp hpre hJ
 refine callK_in 49 hT Tryz.func158 fun Y hret=>?_
 have hcl:=hc.len
 have hle:=hp.1
 have hsl:=hb.cls.len
 have hs5:=hb.sms.len
 refine au [4,5,2,3,4,4,5,1,7,7,9,28,6,3,20] ?_
 refine ⟨fun hc0=>?_,fun hc0=>?_⟩
 ·have hpl:p.length=b.shrinks.length:=by simp at hc0; omega
  have hcp:c.map intA=stC p:=st_map hcl hpl (by rw [<- hpl]; exact hc.tk) hc.z
  rw [hcp]
  have hdn:b.shrinks.drop p.length=[]:=List.drop_eq_nil_of_le oQ
  have hst:StOk b p:=inb_st hb ⟨hpl,fun i hi=>hp.2 i oQ⟩
  refine au [4,5,8,8] ?_
  refine TK.cl rfl rfl rfl rfl (right_ok hT hb hst) ?_ (hs:=(.right (.right (.right (.right (.left (.right (.left (.none _)))))))))
  rintro r1 K2 ⟨rfl,rfl⟩
  refine au [] ?_
  refine TK.perm (K':=(jb,_)::(js,_)::(jy,_)::(jn,_)::(s,_)::(h,_)::(e,_)::K1) (perm_r _ _ _ _ _ _ _) ?_
  refine au [30,1] ?_
  refine TK.sp 18 (fun g2_5=>?_) (fun g2_5=>?_)
  ·have hfr:fromM b p (b.shrinks.drop p.length)=[]:=by rw [hdn]; unfold fromM; rw [if_neg (by simpa using g2_5)]
   refine au [11,11,11,26,2,3] ?_
   refine TK.rt hret (_) ?_ (hs:=(.all _))
   exact ⟨c,K1,hc,by rw [hcp],.inl ⟨rfl,by rw [hfr]; simpa using hJ⟩⟩
  have hfr:fromM b p (b.shrinks.drop p.length)=[p]:=by rw [hdn]; unfold fromM; rw [if_pos (by simpa using g2_5)]
  refine au [9,8] ?_
  refine TK.callF' rfl rfl rfl rfl rfl (hy pre p K1 (by rw [<- hfr]; exact hpre) hJ) (.right (.right (.right (.right (.all _))))) fun r4 K5 h6=>?_
  rcases h6 with ⟨K2,rfl,⟨rfl,hJ2⟩ | ⟨rfl,hD⟩⟩
  ·refine au [] ?_
   refine TK.perm (K':=(jb,_)::(js,_)::(jy,_)::(jn,_)::(s,_)::(h,_)::(e,_)::K2) (List.perm_append_comm (l₁:=(s,_)::(h,_)::(e,_)::K2)) ?_
   refine au [25,2,3] ?_
   refine TK.rt hret (_) ?_ (hs:=(.all _))
   exact ⟨c,K2,hc,by rw [hcp],.inl ⟨rfl,by rw [hfr]; exact hJ2⟩⟩
  ·refine au [] ?_
   refine TK.perm (K':=(jb,_)::(js,_)::(jy,_)::(jn,_)::(s,_)::(h,_)::(e,_)::K2) (List.perm_append_comm (l₁:=(s,_)::(h,_)::(e,_)::K2)) ?_
   refine au [25,2,3] ?_
   refine TK.rt hret (_) ?_ (hs:=(.all _))
   exact ⟨c,K2,hc,by rw [hcp],.inr ⟨rfl,hD⟩⟩
 have hlt:p.length<b.shrinks.length:=by simp at hc0; omega
 have hbd:=hb.cls.bnd p.length oQ
 have hdc:b.shrinks.drop p.length=bd b p.length::b.shrinks.drop (p.length+1):=drop_cons (bd_get hlt)
 have hfr:fromM b p (b.shrinks.drop p.length)=(numsF (bd b p.length).low ((bd b p.length).high+1 - (bd b p.length).low).toNat).flatMap fun n=>fromM b (p++[n]) (b.shrinks.drop (p.length+1)):=by rw [hdc]; rfl
 refine au [12,4,4,5,7,7,9,1,36,7] ?_
 refine TK.a rfl (q_load1 rfl rfl TySz.h mQ (take_fld (c:=0) (bd_at b hlt rfl) dQ rfl)) ?_
 refine au [2,3,13] ?_
 refine TK.maskL [0,1,2,3,4,6,7] ?_
 refine TK.loopN (fun n1 env K=>∃ (n:Int) (c1:List Int) (pre1:List (List Int)) (K2:KV),n1=((bd b p.length).high+1 - n).toNat/\((bd b p.length).low<=n/\n<=(bd b p.length).high+1)/\ArrOk b c1 p/\J pre1 K2/\pre1++(numsF n ((bd b p.length).high+1 - n).toNat).flatMap (fun n=>fromM b (p++[n]) (b.shrinks.drop (p.length+1)))=pre++fromM b p (b.shrinks.drop p.length)/\env=[intA p.length,.ptr jb 0,.ptr js 0,.ptr jy 0,.ptr jn 0,.any,boolA false,intA n,.any,.any,.any,.any,.any,.any,.any,.any,.any,.any,.any,.any,.any,.any,.any,.any,.any,.any,.any,.any,.any,.any,.any,.any,.any,.any,.any,.any,.any,.any,.any,.any,.any,.any,.any,.any,.any,.any,.any,.any,.any]/\K=(jb,.cells (rollC b s h e) 113 true)::(js,.cells (c1.map intA) 129 true)::(jy,.cells [.yl l] 207 true)::(jn,.cells [.fn 158 [] [.ptr jb 0,.ptr js 0,.ptr jy 0,.ptr jn 0]] 208 true)::(s,seamO b)::(h,shrO b)::(e,measO b)::K2) _ ⟨(bd b p.length).low,c,pre,K1,rfl,by omega,hc,hJ,by rw [hfr],rfl,rfl⟩ fun n1 env K hI hnext=>?_
 obtain ⟨n,c1,pre1,K2,rfl,hn,hc1a,hJ1,hEq,rfl,rfl⟩:=hI
 have hc1l:=hc1a.len
 refine au [4,4,5,1,7,7,9,1,36,7] ?_
 refine TK.a rfl (q_load1 rfl rfl TySz.h mQ (take_fld (c:=1) (bd_at b hlt rfl) dQ rfl)) ?_
 refine au [6,3,20] ?_
 refine ⟨fun hc1=>?_,fun hc1=>?_⟩
 ·have hnh:n<=(bd b p.length).high:=of_decide_eq_true hc1
  refine au [12,4,13,4,5,1,1] ?_
  refine TK.a rfl (q_indexArr rfl rfl rfl ArEl.h oQ oQ) ?_
  refine TK.st rfl rfl rfl (q_store rfl rfl TySz.h rfl rfl mQ (put_int (k:=p.length) oQ rfl)) uQ (putN rfl) ?_
  refine au [3,4,5,9,1,23] ?_
  refine TK.cl rfl rfl rfl rfl ((by have:=ih (b.shrinks.length - (p.length+1)) oQ (p++[n]) (c1.set p.length n) pre1 K2 sQ (arr_set hc1a hlt oQ) (pre_snoc hp hlt hn.1 hnh) (List.IsPrefix.trans ⟨_,by rw [List.length_append]; exact own_next hnh hEq⟩ hpre) hJ1; rw [List.length_append] at this; exact this)) ?_ (hs:=(.all _))
  rintro r7 K8 h9
  rcases h9 with ⟨c2,K3,hc2,rfl,⟨rfl,hJ3⟩ | ⟨rfl,hD⟩⟩
  ·refine au [] ?_
   refine TK.perm (K':=(jb,.cells (rollC b s h e) 113 true)::(js,.cells (c2.map intA) 129 true)::(jy,.cells [.yl l] 207 true)::(jn,.cells [.fn 158 [] [.ptr jb 0,.ptr js 0,.ptr jy 0,.ptr jn 0]] 208 true)::(s,seamO b)::(h,shrO b)::(e,measO b)::K3) (by rw [List.append_nil]) ?_
   refine au [30,3,19,12,14,5,1,23,2,3] ?_
   refine TK.maskL [0,1,2,3,4,6,7] ?_
   exact hnext _ _ _ oQ ⟨n+1,c2,_,K3,rfl,by omega,arr_back hc2,hJ3,own_next hnh hEq,rfl,rfl⟩
  ·refine au [] ?_
   refine TK.perm (K':=(jb,.cells (rollC b s h e) 113 true)::(js,.cells (c2.map intA) 129 true)::(jy,.cells [.yl l] 207 true)::(jn,.cells [.fn 158 [] [.ptr jb 0,.ptr js 0,.ptr jy 0,.ptr jn 0]] 208 true)::(s,seamO b)::(h,shrO b)::(e,measO b)::K3) (by rw [List.append_nil]) ?_
   refine au [30,3,18,4,5,2,3] ?_
   refine TK.rt hret (_) ?_ (hs:=(.all _))
   exact ⟨c2,K3,arr_back hc2,rfl,.inr ⟨rfl,hD⟩⟩
 refine au [16,4,5,2,3] ?_
 refine TK.rt hret (_) ?_ (hs:=(.all _))
 exact ⟨c1,K2,hc1a,rfl,.inl ⟨rfl,by rw [<- hEq,nums_end _ _ (of_decide_eq_false hc1)]; simpa using hJ1⟩⟩
theorem states_ok {main:Bool} {T:Goroutine->Hp->Prop} (hT:Shut Tryz.prog main T) {gm:Nat->Option Nat} {b:RBk} {s h e l:Nat} (hb:ROk b) {J:List (List Int)->KV->Prop} {D:KV->Prop} {K1:KV} (hy:YieldR Tryz.prog T gm b s h e l J D (statesM b)) (hJ:J [] K1) :
  CallK Tryz.prog T gm 130 [.agg (rollC b s h e),.yl l] ((s,seamO b)::(h,shrO b)::(e,measO b)::K1) (fun _ K'=>∃ K2,K'=(s,seamO b)::(h,shrO b)::(e,measO b)::K2/\(J (statesM b) K2\/D K2)):=by
 refine callK_in 9 hT Tryz.func130 fun Y hret=>?_
 refine au [] ?_
 have hs5:=hb.sms.len
 have hsl:=hb.cls.len
 refine au [4,5,21] ?_
 intro jb hjb
 refine au [21] ?_
 intro jy hjy
 refine au [3,4,5,22] ?_
 intro js hjs
 refine au [3,4,5,22] ?_
 intro jn hjn
 refine au [3,4,5,32,17,3] ?_
 refine TK.perm (K':=(jb,.cells (rollC b s h e) 113 true)::(js,.cells ([0,0,0,0,0].map intA) 129 true)::(jy,.cells [.yl l] 207 true)::(jn,.cells [.fn 158 [] [.ptr jb 0,.ptr js 0,.ptr jy 0,.ptr jn 0]] 208 true)::(s,seamO b)::(h,shrO b)::(e,measO b)::K1) perm_s ?_
 refine au [5,9] ?_
 refine TK.cl rfl rfl rfl rfl (next_ok hT hb hy _ [] [0,0,0,0,0] [] K1 rfl ⟨rfl,rfl,fun k hk=>by rw [List.getD_eq_getElem?_getD]; rcases k with _ | _ | _ | _ | _ | k <;> rfl⟩ (pre_nil b) (List.prefix_refl _) hJ) ?_ (hs:=(.all _))
 rintro r1 K2 h3
 rcases h3 with ⟨c2,K2,hc2,rfl,⟨rfl,hJ2⟩ | ⟨rfl,hD⟩⟩
 ·refine au [] ?_
  refine TK.perm (K':=(jb,.cells (rollC b s h e) 113 true)::(js,.cells (c2.map intA) 129 true)::(jy,.cells [.yl l] 207 true)::(jn,.cells [.fn 158 [] [.ptr jb 0,.ptr js 0,.ptr jy 0,.ptr jn 0]] 208 true)::(s,seamO b)::(h,shrO b)::(e,measO b)::K2) (by rw [List.append_nil]) ?_
  refine au [3] ?_
  refine TK.rt0 hret (_) ?_ (hs:=(.right (.right (.right (.right (.all _))))))
  exact ⟨_,rfl,.inl hJ2⟩
 ·refine au [] ?_
  refine TK.perm (K':=(jb,.cells (rollC b s h e) 113 true)::(js,.cells (c2.map intA) 129 true)::(jy,.cells [.yl l] 207 true)::(jn,.cells [.fn 158 [] [.ptr jb 0,.ptr js 0,.ptr jy 0,.ptr jn 0]] 208 true)::(s,seamO b)::(h,shrO b)::(e,measO b)::K2) (by rw [List.append_nil]) ?_
  refine au [3] ?_
  refine TK.rt0 hret (_) ?_ (hs:=(.right (.right (.right (.right (.all _))))))
  exact ⟨_,rfl,.inr hD⟩
theorem perm_4 (a b c d:Nat×AObj) {R:KV}:(a::b::c::d::R).Perm (b::c::d::a::R):=(List.perm_middle (l₁:=[b,c,d])).symm
theorem perm_4' (a b c d:Nat×AObj) {R:KV}:(b::c::d::a::R).Perm (a::b::c::d::R):=List.perm_middle (l₁:=[b,c,d])
theorem Kstep.perm {K K' K'':KV} {A A':List AObj} (h:Kstep K A K' A') (hp:K'.Perm K''):Kstep K A K'' A' :=
 ⟨h.view.sub fun x hx=>hp.symm.subset hx,(keys_perm hp).nodup_iff.1 h.nd,fun i hi=>h.own i ((keys_perm hp).symm.subset hi),h.kept,h.len⟩
theorem CallFK.perm {P:Program} {T:Goroutine->Hp->Prop} {gm:Nat->Option Nat} {yv:AV} {args:List AV} {K:KV} {Post Post':AV->KV->Prop} (h:CallFK P T gm yv args K Post) (hp:∀ r K',Post r K'->∃ K'',K'.Perm K''/\Post' r K''):CallFK P T gm yv args K Post' :=
 fun A hv hn=>(h A hv hn).mono fun r A' ⟨K',h1,h2⟩=>let ⟨K'',h3,h4⟩:=hp r K' h2; ⟨K'',h1.perm h3,h4⟩
section
variable {main:Bool} {T:Goroutine->Hp->Prop} {gm:Nat->Option Nat} {Y:KX Tryz.prog gm T} {ds:List Nat} {k:List Item} {env:List AV} {K K0 R:KV}
theorem TK.rangeStates (hT:Shut Tryz.prog main T) {fo:Operand} {ps:Array Tmp} {x y:Code} {b:RBk} {s h e:Nat} (hb:ROk b) {J:List (List Int)->KV->Prop} {D:Code->KV->Prop} (hps:ps.size=1) (hro:Y.X.ro=none) (hf:opndO gm env fo=some (.fn 130 [.agg (rollC b s h e)] [])) (hs:Split K ((s,seamO b)::(h,shrO b)::(e,measO b)::K0) R) (hJ0:J [] K0)
  (round:∀ (Y':KX Tryz.prog gm T) (l:Nat) (lo lb:AObj) (pre:List (List Int)) (S:List Int) (K1:KV),(∀ ds k env' K K',Upd K l lo l lb K'->TK Y' ds k env' K'->TK Y' ds (.beginRound::k) env' K) ->
   (∀ env' K' K2 D',Split K' ((l,lb)::(s,seamO b)::(h,shrO b)::(e,measO b)::K2) D'->J (pre++[S]) K2->TK Y' [] [] env' K') ->
   (∀ c k env' K' K2 D',Leave (some c) k->Split K' ((l,lb)::(s,seamO b)::(h,shrO b)::(e,measO b)::K2) D'->D c K2->TK Y' [] k env' K') ->
   pre++[S] <+: statesM b->J pre K1->TK Y' [] [.code x,.beginRound,.code y] (putAll env (ps.toList.zip [.agg (stC S)])) ((l,lo)::(s,seamO b)::(h,shrO b)::(e,measO b)::K1))
  (hend:∀ d K2,J (statesM b) K2->TK Y (d::ds) k env ((d,.raw (.deferred (some [])))::(s,seamO b)::(h,shrO b)::(e,measO b)::(K2++R)))
  (hstop:∀ d c K2,D c K2->TK Y (d::ds) (.code c::k) env ((d,.raw (.deferred (some [])))::(s,seamO b)::(h,shrO b)::(e,measO b)::(K2++R))):TK Y ds (.code (.rangeFunc fo ps x y)::k) env K:=by
 refine TK.rangeFunc (Post:=fun l _ K'=>∃ st pj K2,K'=(l,.loop Y.X.f env ps x y st pj)::(s,seamO b)::(h,shrO b)::(e,measO b)::K2/\((st=.ready/\pj=none/\J (statesM b) K2)\/∃ c,st=.done/\pj=some c/\D c K2))
  (Q:=fun pj K'=>∃ K2,K'=(s,seamO b)::(h,shrO b)::(e,measO b)::K2/\((pj=none/\J (statesM b) K2)\/∃ c,pj=some c/\D c K2)) hro hf Cal.h hs (fun l hl=>?_) ?_ ?_
 ·intro A hv hn
  have hp:((l,AObj.loop Y.X.f env ps x y .ready none)::(s,seamO b)::(h,shrO b)::(e,measO b)::K0).Perm ((s,seamO b)::(h,shrO b)::(e,measO b)::(l,.loop Y.X.f env ps x y .ready none)::K0):=perm_4 _ _ _ _
  refine CallT.mono (states_ok hT hb (l:=l) (J:=fun pre K=>∃ K3,K=(l,.loop Y.X.f env ps x y .ready none)::K3/\J pre K3) (D:=fun K=>∃ c K3,K=(l,.loop Y.X.f env ps x y .done (some c))::K3/\D c K3) ?_ ⟨K0,rfl,hJ0⟩ A (hv.sub fun x hx=>hp.symm.subset hx) ((keys_perm hp).nodup_iff.1 hn)) ?_
  ·rintro pre S K1 hpre ⟨K3,rfl,hJ⟩
   refine CallFK.perm (Post:=fun r K'=>(r=boolA true/\∃ K2,K'=(l,.loop Y.X.f env ps x y .ready none)::(s,seamO b)::(h,shrO b)::(e,measO b)::K2/\J (pre++[S]) K2)\/(r=boolA false/\∃ c K2,K'=(l,.loop Y.X.f env ps x y .done (some c))::(s,seamO b)::(h,shrO b)::(e,measO b)::K2/\D c K2)) ?_ ?_
   ·refine callFK_yl hT (i:=l) (f:=Y.X.f) (env:=env) (ps:=ps) (x:=x) (y:=y) sQ hps.symm fun Y' hro' hl' hret=>?_
    refine TK.perm (perm_4' _ _ _ _) ?_
    refine round Y' l (.loop Y.X.f env ps x y .ready none) (.loop Y.X.f env ps x y .busy none) pre S K3 (fun ds k env' K K' hu h=>TK.beginRound hro' hl' hu h) (fun env' K' K2 D' hsp hJ'=>?_) (fun c k env' K' K2 D' hlv hsp hD=>?_) hpre hJ
    ·exact TK.leave .fin fun A hA=>hret none env' K' ((s,seamO b)::(h,shrO b)::(e,measO b)::K2) D' .busy none hsp (.inl ⟨rfl,K2,rfl,hJ'⟩) A hA
    ·exact TK.leave hlv fun A hA=>hret (some c) env' K' ((s,seamO b)::(h,shrO b)::(e,measO b)::K2) D' .busy none hsp (.inr ⟨rfl,c,K2,rfl,hD⟩) A hA
   ·rintro r K' (⟨rfl,K2,rfl,h⟩ | ⟨rfl,c,K2,rfl,h⟩)
    ·exact ⟨_,perm_4 _ _ _ _,_,rfl,.inl ⟨rfl,K2,rfl,h⟩⟩
    ·exact ⟨_,perm_4 _ _ _ _,_,rfl,.inr ⟨rfl,c,K2,rfl,h⟩⟩
  ·rintro r A' ⟨K',hk,K2,rfl,hx⟩
   have hk2:∀ K'',((s,seamO b)::(h,shrO b)::(e,measO b)::K2).Perm K''->Kstep ((l,AObj.loop Y.X.f env ps x y .ready none)::(s,seamO b)::(h,shrO b)::(e,measO b)::K0) A K'' A':=fun K'' hp2 =>
    Kstep.perm ⟨hk.view,hk.nd,fun i hi=>(hk.own i hi).imp_left fun h=>(keys_perm hp).symm.subset h,fun j h1 h2=>hk.kept j h1 fun h=>h2 ((keys_perm hp).symm.subset h),hk.len⟩ hp2
   rcases hx with ⟨K3,rfl,h⟩ | ⟨c,K3,rfl,h⟩
   ·exact ⟨_,hk2 _ (perm_4' _ _ _ _),.ready,none,K3,rfl,.inl ⟨rfl,rfl,h⟩⟩
   ·exact ⟨_,hk2 _ (perm_4' _ _ _ _),.done,some c,K3,rfl,.inr ⟨c,rfl,rfl,h⟩⟩
 ·rintro l r K' ⟨st,pj,K2,rfl,h⟩
  refine ⟨st,pj,_,rfl,?_,K2,rfl,?_⟩
  ·rcases h with ⟨rfl,_⟩ | ⟨c,rfl,_⟩ <;> rfl
  ·rcases h with ⟨_,rfl,h⟩ | ⟨c,_,rfl,h⟩
   ·exact .inl ⟨rfl,h⟩
   ·exact .inr ⟨c,rfl,h⟩
 ·rintro d pj K' ⟨K2,rfl,⟨rfl,h⟩ | ⟨c,rfl,h⟩⟩
  ·exact hend d K2 h
  ·exact hstop d c K2 h
end
theorem nums_len (n:Int):∀ k,(numsF n k).length=k
 | 0=>rfl
 | k+1=>by unfold numsF; rw [List.length_cons,nums_len (n+1) k]
theorem from_len {b:RBk}:∀ (r:List RBand) (p:List Int),(∀ x∈r,(numsM x).length<=3)->(fromM b p r).length<=3 ^ r.length
 | [],p,_=>by unfold fromM; split <;> simp
 | x::r,p,h=>by
  unfold fromM
  have h1:=h x sQ
  have key:∀ (l:List Int),(l.flatMap fun n=>fromM b (p++[n]) r).length<=l.length*3 ^ r.length:=fun l=>by
   induction l with
   | nil=>simp
   | cons a l ih =>
    rw [List.flatMap_cons,List.length_append,List.length_cons,Nat.succ_mul]
    have:=from_len (b:=b) r (p++[a]) fun y hy=>h y (by simp [hy])
    omega
  have h2:=key (numsM x)
  have h3:(numsM x).length*3 ^ r.length<=3*3 ^ r.length:=Nat.mul_le_mul_right _ h1
  rw [List.length_cons,Nat.pow_succ]
  omega
theorem states_len {b:RBk} (hb:ROk b):(statesM b).length<=243:=by
 have h1:=from_len (b:=b) b.shrinks [] fun x hx=>by
  obtain ⟨i,hi,rfl⟩:=List.mem_iff_getElem.1 hx
  have hi2:i<b.seams.length:=by have:=hb.cls.len; omega
  have e:b.shrinks[i]=bd b i:=by have:=bd_get (b:=b) hi; rw [List.getElem?_eq_getElem hi] at this; exact Option.some.inj this
  have:=hb.cls.bnd i hi2
  unfold numsM
  rw [nums_len,e]
  omega
 have h2:3 ^ b.shrinks.length<=3 ^ 5:=Nat.pow_le_pow_right dQ (by have:=hb.cls.len; have:=hb.sms.len; omega)
 exact Nat.le_trans h1 h2
theorem pre_len {b:RBk} (hb:ROk b) {pre:List (List Int)} (h:pre <+: statesM b):pre.length<=243:=Nat.le_trans h.length_le (states_len hb)
theorem flat_snoc {α:Type} (f:α->List AV) (xs:List α) (x:α):(xs++[x]).flatMap f=xs.flatMap f++f x:=by rw [List.flatMap_append]; simp
abbrev allO (all:List (List Int)):AObj:=.cells (all.flatMap stC) 129 false
def knownC (b:RBk) (s h e a n:Nat):List AV:=[intA b.steps,intA b.round,intA b.roll,intA b.rolls,.sl s 0 b.seams.length,.sl h 0 b.shrinks.length,.sl e 0 b.measures.length,.sl a 0 n]
def z8R:List AV:=[intA 0,intA 0,intA 0,intA 0,.v (.slice none 0 0),.v (.slice none 0 0),.v (.slice none 0 0),.v (.slice none 0 0)]
theorem bar2_0 {x y:Int} (h:bar2 x y=0):x=0:=by
 unfold bar2 at h
 split at h
 ·rename_i h1; exact absurd h h1
 ·rename_i h1; simpa using h1
def KnownR (b:RBk) (s h e:Nat) (bar:Int) (K:KV) (r:AV) (K':KV):Prop :=
 (bar≠0/\r=.tup [.agg z8R,intA bar]/\K'=K)\/(bar=0/\statesM b=[]/\r=.tup [.agg z8R,intA 9]/\K'=K)\/(bar=0/\statesM b≠[]/\∃ a,r=.tup [.agg (knownC b s h e a (statesM b).length),intA 0]/\K'=(a,allO (statesM b))::K)
theorem perm_k0 (a b c d e f:Nat×AObj) {R:KV}:((c::d::e::f::R)++[a,b]).Perm (c::d::e::f::a::b::R):=by
 have q:(R++[a,b]).Perm ([a,b]++R):=List.perm_append_comm
 exact (((q.cons f).cons e).cons d).cons c
theorem perm_k1 (a b c d e f g:Nat×AObj) {R:KV}:((g::c::d::e::f::R)++[a,b]).Perm (g::c::d::e::f::a::b::R):=by
 have q:(R++[a,b]).Perm ([a,b]++R):=List.perm_append_comm
 exact ((((q.cons f).cons e).cons d).cons c).cons g
instance:ApOf Tryz.prog 137 129 5 40:=⟨by kernel_rfl⟩
instance:BlOf Tryz.prog 139 [(0,7),(7,1)]:=⟨by kernel_rfl⟩
instance:Cal Tryz.prog 148:=⟨by kernel_rfl⟩
instance:Cal Tryz.prog 164:=⟨by kernel_rfl⟩
instance:Cal Tryz.prog 90:=⟨by kernel_rfl⟩
instance:FldOf Tryz.prog 139 1 7 false 1:=⟨by kernel_rfl⟩
instance:SlEl Tryz.prog 137 129 5:=⟨by kernel_rfl⟩
instance:TySz Tryz.prog 137 false 1:=⟨by kernel_rfl⟩
instance:TyZ Tryz.prog 129 [.int .i64 0,.int .i64 0,.int .i64 0,.int .i64 0,.int .i64 0]:=⟨by kernel_rfl⟩
instance:TyZ Tryz.prog 139 [.int .i64 0,.int .i64 0,.int .i64 0,.int .i64 0,.slice none 0 0,.slice none 0 0,.slice none 0 0,.slice none 0 0]:=⟨by kernel_rfl⟩
instance:TyZA Tryz.prog 139 [.v (.int .i64 0),.v (.int .i64 0),.v (.int .i64 0),.v (.int .i64 0),.v (.slice none 0 0),.v (.slice none 0 0),.v (.slice none 0 0),.v (.slice none 0 0)]:=⟨by kernel_rfl⟩
instance:TyZA Tryz.prog 4 [.v (.bool false)]:=⟨by kernel_rfl⟩
instance:Und Tryz.prog 137 (.slice 129):=⟨by kernel_rfl⟩
theorem some_ok {main:Bool} {T:Goroutine->Hp->Prop} (hT:Shut Tryz.prog main T) {gm:Nat->Option Nat} {b:RBk} {s h e:Nat} (hb:ROk b) :
  CallK Tryz.prog T gm 115 [.agg (rollC b s h e)] [(s,seamO b),(h,shrO b),(e,measO b)] (fun r K'=>r=boolA (!(statesM b).isEmpty)/\K'=[(s,seamO b),(h,shrO b),(e,measO b)]):=by
 refine callK_in3 6 hT Tryz.func115 fun Y hro hret=>?_
 refine au [4,5,21] ?_
 intro jb hjb
 refine au [22] ?_
 intro jr hjr
 refine au [3,4,4,5,8,32,3,13] ?_
 refine TK.rangeStates hT hb (s:=s) (h:=h) (e:=e) (J:=fun pre K1=>K1=[(jr,.cells [boolA false] 4 true),(jb,.cells (rollC b s h e) 113 true)]/\pre=[]) (D:=fun c K1=>c=.ret/\statesM b≠[]/\K1=[(jr,.cells [boolA true] 4 true),(jb,.cells (rollC b s h e) 113 true)]) rfl hro rfl (by repeat (first | exact Split.none _ | exact Split.all _ | (apply Split.rem; repeat (first | exact Rem.head | apply Rem.tail)) | apply Split.right)) ⟨rfl,rfl⟩ (fun Y' l lo lb pre S K1 hbegin hfin hout hpre hJ=>?_) (fun d K2 hJ=>?_) (fun d c K2 hD=>?_)
 ·obtain ⟨rfl,rfl⟩:=hJ
  refine au [12] ?_
  refine hbegin _ _ _ _ _ uQ ?_
  refine au [13,4,5,17,3] ?_
  exact hout _ _ _ _ [(jr,_),(jb,_)] _ (.ret _) (by repeat (first | exact Split.none _ | exact Split.all _ | (apply Split.rem; repeat (first | exact Rem.head | apply Rem.tail)) | apply Split.right)) ⟨rfl,fun e=>by rw [e] at hpre; exact absurd hpre.length_le sQ,rfl⟩
 ·obtain ⟨rfl,hJ⟩:=hJ
  simp only [List.cons_append,List.nil_append]
  refine au [14,4,5,17,3] ?_
  refine TK.leave (.ret _) fun A hA=>hret _ _ _ _ ([(s,_),(h,_),(e,_),(jr,_)]) ([(s,_),(h,_),(e,_)]) _ _ _ (.inr rfl) (by repeat (first | exact Split.none _ | exact Split.all _ | (apply Split.rem; repeat (first | exact Rem.head | apply Rem.tail)) | apply Split.right)) sQ sQ (by repeat (first | exact Split.none _ | exact Split.all _ | (apply Split.rem; repeat (first | exact Rem.head | apply Rem.tail)) | apply Split.right)) (res_one (rk_cell1 rfl TySz.h mQ rfl)) ?_ A hA
  exact ⟨by rw [hJ]; rfl,rfl⟩
 ·obtain ⟨rfl,hD,rfl⟩:=hD
  simp only [List.cons_append,List.nil_append]
  refine au [] ?_
  refine TK.leave (.ret _) fun A hA=>hret _ _ _ _ ([(s,_),(h,_),(e,_),(jr,_)]) ([(s,_),(h,_),(e,_)]) _ _ _ (.inr rfl) (by repeat (first | exact Split.none _ | exact Split.all _ | (apply Split.rem; repeat (first | exact Rem.head | apply Rem.tail)) | apply Split.right)) sQ sQ (by repeat (first | exact Split.none _ | exact Split.all _ | (apply Split.rem; repeat (first | exact Rem.head | apply Rem.tail)) | apply Split.right)) (res_one (rk_cell1 rfl TySz.h mQ rfl)) ?_ A hA
  exact ⟨by cases hh:statesM b with | nil=>exact absurd hh hD | cons x r=>rfl,rfl⟩
theorem appendSeq_ok {main:Bool} {T:Goroutine->Hp->Prop} (hT:Shut Tryz.prog main T) {gm:Nat->Option Nat} {b:RBk} {s h e:Nat} (hb:ROk b) :
  CallK Tryz.prog T gm 164 [.v (.slice none 0 0),.fn 130 [.agg (rollC b s h e)] []] [(s,seamO b),(h,shrO b),(e,measO b)] (fun r K'=>∃ j,r=.row j (statesM b).length/\K'=[(s,seamO b),(h,shrO b),(e,measO b),(j,.row ((statesM b).flatMap stC) 129 5)]):=by
 refine callK_in3 13 hT Tryz.func164 fun Y hro hret=>?_
 refine au [4,5,21] ?_
 intro jl hjl
 refine TK.virtAt (i:=0) (e:=129) (size:=5) rfl (fun _=>uQ) fun j0 hj0=>?_
 refine au [2,3,4,4,5,1,3,13] ?_
 refine TK.rangeStates hT hb (s:=s) (h:=h) (e:=e) (J:=fun pre K1=>∃ j,K1=[(jl,.cells [.row j pre.length] 137 true),(j,.row (pre.flatMap stC) 129 5)]) (D:=fun _ _=>False) rfl hro rfl (by repeat (first | exact Split.none _ | exact Split.all _ | (apply Split.rem; repeat (first | exact Rem.head | apply Rem.tail)) | apply Split.right)) ⟨j0,rfl⟩ (fun Y' l lo lb pre S K1 hbegin hfin hout hpre hJ=>?_) (fun d K2 hJ=>?_) (fun d c K2 hD=>?_)
 ·obtain ⟨j,rfl⟩:=hJ
  have hpl:=pre_len hb ((List.prefix_append _ _).trans hpre)
  have hfl:=flat_len stC 5 (fun _=>rfl) pre
  refine au [5,22] ?_
  intro j5 hj5
  refine au [17,3] ?_
  refine hbegin _ _ _ _ _ uQ ?_
  refine au [13,5,9,8] ?_
  refine TK.newR rfl rfl rfl (n_buildSlice (l:=[_,_,_,_,_]) rfl SlEl.h TyZ.h dQ dQ rfl) (fun _=>putS rfl (by simp only [List.set]; rfl)) fun j1 hj1=>?_
  refine TK.appR rfl rfl rfl (a_app rfl ApOf.h rfl mQ oQ rfl (src_row (ln:=[_,_,_,_,_]) mQ dQ sQ rfl) oQ rfl (by unfold maxLen; omega) oQ) (fun _=>uQ) (fun _=>putS rfl (by simp only [List.set]; rfl)) fun j2=>?_
  refine au [17,3,14] ?_
  exact hfin _ _ [(jl,_),(j2,_)] _ (by repeat (first | exact Split.none _ | exact Split.all _ | (apply Split.rem; repeat (first | exact Rem.head | apply Rem.tail)) | apply Split.right)) ⟨j2,by rw [flat_snoc,List.length_append] <;> rfl⟩
 ·obtain ⟨j,rfl⟩:=hJ
  simp only [List.cons_append,List.nil_append]
  refine au [14,4,5,9,2,3] ?_
  refine TK.leave (.ret _) fun A hA=>hret _ _ _ _ ([(s,_),(h,_),(e,_),(j,_)]) ([(s,_),(h,_),(e,_),(j,_)]) _ _ _ (.inr rfl) (by repeat (first | exact Split.none _ | exact Split.all _ | (apply Split.rem; repeat (first | exact Rem.head | apply Rem.tail)) | apply Split.right)) sQ sQ (by repeat (first | exact Split.none _ | exact Split.all _ | (apply Split.rem; repeat (first | exact Rem.head | apply Rem.tail)) | apply Split.right)) (res_one (rk_tmp rfl)) ?_ A hA
  exact ⟨j,rfl,rfl⟩
 ·exact hD.elim
theorem collect_ok {main:Bool} {T:Goroutine->Hp->Prop} (hT:Shut Tryz.prog main T) {gm:Nat->Option Nat} {b:RBk} {s h e:Nat} (hb:ROk b) :
  CallK Tryz.prog T gm 148 [.fn 130 [.agg (rollC b s h e)] []] [(s,seamO b),(h,shrO b),(e,measO b)] (fun r K'=>∃ j,r=.row j (statesM b).length/\K'=[(s,seamO b),(h,shrO b),(e,measO b),(j,.row ((statesM b).flatMap stC) 129 5)]):=by
 refine callK_in 5 hT Tryz.func148 fun Y hret=>?_
 refine au [4,5,2,3,4,5,1] ?_
 refine TK.cl rfl rfl rfl rfl (appendSeq_ok hT hb) ?_
 rintro r1 K2 ⟨j,rfl,rfl⟩
 refine au [2,3] ?_
 refine TK.rt hret [(s,_),(h,_),(e,_),(j,_)] ?_
 exact ⟨j,rfl,rfl⟩
theorem known0_ok {main:Bool} {T:Goroutine->Hp->Prop} (hT:Shut Tryz.prog main T)  {b:RBk} {s h e:Nat} {Kx:KV}  (hl:b.seams.length<=100) (hm:b.measures.length<=100) :
  CallK Tryz.prog T gmR 107 [.agg (rollC b s h e),.v (.slice none 0 0)] ((0,checksG)::(s,seamO b)::(h,shrO b)::(e,measO b)::Kx) (fun r K'=>KnownR b s h e (checkM b) ((0,checksG)::(s,seamO b)::(h,shrO b)::(e,measO b)::Kx) r K'):=by
 refine callK_in 30 hT Tryz.func107 fun Y hret=>?_
 refine au [4,5,21] ?_
 intro jb hjb
 refine au [22] ?_
 intro jr hjr
 refine au [2,3,4,5,8,1] ?_
 refine TK.cl rfl rfl rfl rfl (opened0_ok hT hl hm) ?_ (hs:=(.right (.right (.all _))))
 rintro r1 K2 h3
 rcases h3 with ⟨⟨hbar,rfl⟩ | ⟨hbar,rfl⟩,rfl⟩
 ·refine au [] ?_
  refine TK.perm (K':=(0,_)::(s,_)::(h,_)::(e,_)::(jr,_)::(jb,_)::Kx) (perm_k0 _ _ _ _ _ _ ) ?_
  refine au [1,10,10,22] ?_
  intro j6 hj6
  refine au [17,2,3,4,4,5,1,6,3,20] ?_
  refine ⟨fun hc0=>?_,fun hc0=>?_⟩
  ·exact absurd hc0 sQ
  have hbb:=check_ok0 (hbar)
  refine au [12,4] ?_
  refine TK.draw [0,1,2,3,4,5,6] [0,1,2,3,4,5,6] (by kernel_rfl) (by kernel_rfl) ?_
  refine TD.y [6] rfl (hq:=q_load rfl rfl TySz.h (List.Mem.head _) rfl) (h:=?_)
  refine TD.y [6] rfl (hq:=q_load rfl rfl TySz.h (List.Mem.head _) rfl) (h:=?_)
  refine TD.z [20] rfl (q_makeFunc rfl rfl rfl) ?_
  refine TD.c2 (i1:=3) (i2:=5) (pend1:=[⟨1,[6],[(_,_)]⟩,⟨0,[6],[(_,_)]⟩]) (pend2:=[⟨2,[20],[]⟩,⟨1,[6],[(_,_)]⟩,⟨0,[6],[(_,_)]⟩]) (L1:=[4,5,6]) (L2:=[3,4,6]) [21] [] rfl rfl rfl rfl rfl rfl rfl ?_ ?_
  ·refine exK_callO rfl rfl Cal.h rfl (collect_ok hT hbb) (.right (.right (.left (.left (.left (.none _)))))) fun r4 K5 h6=>⟨?_,?_⟩
   ·rcases h6 with ⟨a,rfl,rfl⟩
    all_goals simp
   obtain ⟨a,rfl,rfl⟩:=h6
   try simp only [List.cons_append,List.nil_append]
   refine TD.norm (env':=[_,_,_,_,_,_,_,_,_,_,_,_,_,_,_,_,_,_,_,_,_,_,_,_,_,_,_,_,_,_]) rfl ?_
   refine TD.z [19,22] rfl (q_build (l:=[_,_,_,_,_,_,_,_]) rfl TyZ.h BlOf.h rfl) ?_
   refine TD.cnewP (pend':=[⟨4,[19,22],[]⟩,⟨1,[6],[(_,_)]⟩,⟨0,[6],[(_,_)]⟩]) [] rfl rfl rfl rfl rfl (n_allocA rfl TyZA.h) (fun _=>putS rfl (by simp only [List.set]; rfl)) sQ fun j8 hj8=>?_
   refine TD.s (pend':=[]) [8,23] rfl rfl (q_store rfl rfl TySz.h rfl rfl mQ rfl) ?_
   refine TD.fin ?_
   refine au [4,4] ?_
   refine TK.unrowAt (c:=j8) (i:=7) (j:=a) rfl mQ uQ ?_
   refine TK.frzRow (j:=a) ?_
   refine au [5,7,9,28,6,3,20] ?_
   refine ⟨fun hc1=>?_,fun hc1=>?_⟩
   ·have hnil:statesM b=[]:=List.length_eq_zero_iff.1 (by have:=eq_of_beq hc1; omega)
    refine au [4,5,45,17,2,3] ?_
    refine TK.rt hret ((0,_)::(s,_)::(h,_)::(e,_)::Kx) ?_
    exact .inr (.inl ⟨hbar,hnil,rfl,rfl⟩)
   have hne:statesM b≠[]:=fun e=>by rw [e] at hc1; simp at hc1
   refine au [12,4,5,8,17,2,3] ?_
   refine TK.rt hret ((a,_)::(0,_)::(s,_)::(h,_)::(e,_)::Kx) ?_
   exact .inr (.inr ⟨hbar,hne,a,rfl,rfl⟩)
  ·refine exK_newP rfl (n_allocA rfl TyZA.h) (fun _=>putS rfl (by simp only [List.set]; rfl)) sQ fun j8 hj8=>?_
   refine TD.cl (pend':=[⟨1,[6],[(_,_)]⟩,⟨0,[6],[(_,_)]⟩]) [21] rfl rfl rfl rfl rfl (collect_ok hT hbb) (fun r7 K8 h9=>⟨?_,?_⟩) (hs:=(.right (.right (.right (.left (.left (.left (.none _))))))))
   ·rcases h9 with ⟨a,rfl,rfl⟩
    all_goals simp
   obtain ⟨a,rfl,rfl⟩:=h9
   try simp only [List.cons_append,List.nil_append]
   refine TD.norm (by simp only [List.set]; rfl) ?_
   refine TD.z [19,22] rfl (q_build (l:=[_,_,_,_,_,_,_,_]) rfl TyZ.h BlOf.h rfl) ?_
   refine TD.s (pend':=[]) [8,23] rfl rfl (q_store rfl rfl TySz.h rfl rfl mQ rfl) ?_
   refine TD.fin ?_
   refine au [4,4] ?_
   refine TK.unrowAt (c:=j8) (i:=7) (j:=a) rfl mQ uQ ?_
   refine TK.frzRow (j:=a) ?_
   refine au [5,7,9,28,6,3,20] ?_
   refine ⟨fun hc1=>?_,fun hc1=>?_⟩
   ·have hnil:statesM b=[]:=List.length_eq_zero_iff.1 (by have:=eq_of_beq hc1; omega)
    refine au [4,5,45,17,2,3] ?_
    refine TK.rt hret ((0,_)::(s,_)::(h,_)::(e,_)::Kx) ?_
    exact .inr (.inl ⟨hbar,hnil,rfl,rfl⟩)
   have hne:statesM b≠[]:=fun e=>by rw [e] at hc1; simp at hc1
   refine au [12,4,5,8,17,2,3] ?_
   refine TK.rt hret ((a,_)::(0,_)::(s,_)::(h,_)::(e,_)::Kx) ?_
   exact .inr (.inr ⟨hbar,hne,a,rfl,rfl⟩)
 ·refine au [] ?_
  refine TK.perm (K':=(0,_)::(s,_)::(h,_)::(e,_)::(jr,_)::(jb,_)::Kx) (perm_k0 _ _ _ _ _ _ ) ?_
  refine au [1,10,10,22] ?_
  intro j6 hj6
  refine au [17,2,3,4,4,5,1,6,3,20] ?_
  refine ⟨fun hc0=>?_,fun hc0=>?_⟩
  ·
   refine au [4,5,45,1,17,2,3] ?_
   refine TK.rt hret ((0,_)::(s,_)::(h,_)::(e,_)::Kx) ?_
   exact .inl ⟨hbar,rfl,rfl⟩
  exact absurd hbar (by simpa using hc0)
theorem known1_ok {main:Bool} {T:Goroutine->Hp->Prop} (hT:Shut Tryz.prog main T)  {b:RBk} {s h e:Nat} {Kx:KV} {ja:Nat} {f1:AV} {p1:Int} (hf1:checkM b=0->CallFK Tryz.prog T gmR f1 [.agg (rollC b s h e)] ((s,seamO b)::Kx) (fun r K'=>r=intA p1/\K'=(s,seamO b)::Kx)) (hl:b.seams.length<=100) (hm:b.measures.length<=100) :
  CallK Tryz.prog T gmR 107 [.agg (rollC b s h e),.row ja 1] ((ja,.row [f1] 116 1)::(0,checksG)::(s,seamO b)::(h,shrO b)::(e,measO b)::Kx) (fun r K'=>KnownR b s h e (bar2 (checkM b) p1) ((ja,.row [f1] 116 1)::(0,checksG)::(s,seamO b)::(h,shrO b)::(e,measO b)::Kx) r K'):=by
 refine callK_in 30 hT Tryz.func107 fun Y hret=>?_
 refine au [4,5,21] ?_
 intro jb hjb
 refine au [22] ?_
 intro jr hjr
 refine au [2,3,4,5,8,1] ?_
 refine TK.cl rfl rfl rfl rfl (opened1_ok hT hl hm hf1) ?_ (hs:=(.right (.right (.all _))))
 rintro r1 K2 h3
 rcases h3 with ⟨⟨hbar,rfl⟩ | ⟨hbar,rfl⟩,rfl⟩
 ·refine au [] ?_
  refine TK.perm (K':=(ja,_)::(0,_)::(s,_)::(h,_)::(e,_)::(jr,_)::(jb,_)::Kx) (perm_k1 _ _ _ _ _ _ _) ?_
  refine au [1,10,10,22] ?_
  intro j6 hj6
  refine au [17,2,3,4,4,5,1,6,3,20] ?_
  refine ⟨fun hc0=>?_,fun hc0=>?_⟩
  ·exact absurd hc0 sQ
  have hbb:=check_ok0 (bar2_0 hbar)
  refine au [12,4] ?_
  refine TK.draw [0,1,2,3,4,5,6] [0,1,2,3,4,5,6] (by kernel_rfl) (by kernel_rfl) ?_
  refine TD.y [6] rfl (hq:=q_load rfl rfl TySz.h (List.Mem.head _) rfl) (h:=?_)
  refine TD.y [6] rfl (hq:=q_load rfl rfl TySz.h (List.Mem.head _) rfl) (h:=?_)
  refine TD.z [20] rfl (q_makeFunc rfl rfl rfl) ?_
  refine TD.c2 (i1:=3) (i2:=5) (pend1:=[⟨1,[6],[(_,_)]⟩,⟨0,[6],[(_,_)]⟩]) (pend2:=[⟨2,[20],[]⟩,⟨1,[6],[(_,_)]⟩,⟨0,[6],[(_,_)]⟩]) (L1:=[4,5,6]) (L2:=[3,4,6]) [21] [] rfl rfl rfl rfl rfl rfl rfl ?_ ?_
  ·refine exK_callO rfl rfl Cal.h rfl (collect_ok hT hbb) (.right (.right (.right (.left (.left (.left (.none _))))))) fun r4 K5 h6=>⟨?_,?_⟩
   ·rcases h6 with ⟨a,rfl,rfl⟩
    all_goals simp
   obtain ⟨a,rfl,rfl⟩:=h6
   try simp only [List.cons_append,List.nil_append]
   refine TD.norm (env':=[_,_,_,_,_,_,_,_,_,_,_,_,_,_,_,_,_,_,_,_,_,_,_,_,_,_,_,_,_,_]) rfl ?_
   refine TD.z [19,22] rfl (q_build (l:=[_,_,_,_,_,_,_,_]) rfl TyZ.h BlOf.h rfl) ?_
   refine TD.cnewP (pend':=[⟨4,[19,22],[]⟩,⟨1,[6],[(_,_)]⟩,⟨0,[6],[(_,_)]⟩]) [] rfl rfl rfl rfl rfl (n_allocA rfl TyZA.h) (fun _=>putS rfl (by simp only [List.set]; rfl)) sQ fun j8 hj8=>?_
   refine TD.s (pend':=[]) [8,23] rfl rfl (q_store rfl rfl TySz.h rfl rfl mQ rfl) ?_
   refine TD.fin ?_
   refine au [4,4] ?_
   refine TK.unrowAt (c:=j8) (i:=7) (j:=a) rfl mQ uQ ?_
   refine TK.frzRow (j:=a) ?_
   refine au [5,7,9,28,6,3,20] ?_
   refine ⟨fun hc1=>?_,fun hc1=>?_⟩
   ·have hnil:statesM b=[]:=List.length_eq_zero_iff.1 (by have:=eq_of_beq hc1; omega)
    refine au [4,5,45,17,2,3] ?_
    refine TK.rt hret ((ja,_)::(0,_)::(s,_)::(h,_)::(e,_)::Kx) ?_
    exact .inr (.inl ⟨hbar,hnil,rfl,rfl⟩)
   have hne:statesM b≠[]:=fun e=>by rw [e] at hc1; simp at hc1
   refine au [12,4,5,8,17,2,3] ?_
   refine TK.rt hret ((a,_)::(ja,_)::(0,_)::(s,_)::(h,_)::(e,_)::Kx) ?_
   exact .inr (.inr ⟨hbar,hne,a,rfl,rfl⟩)
  ·refine exK_newP rfl (n_allocA rfl TyZA.h) (fun _=>putS rfl (by simp only [List.set]; rfl)) sQ fun j8 hj8=>?_
   refine TD.cl (pend':=[⟨1,[6],[(_,_)]⟩,⟨0,[6],[(_,_)]⟩]) [21] rfl rfl rfl rfl rfl (collect_ok hT hbb) (fun r7 K8 h9=>⟨?_,?_⟩) (hs:=(.right (.right (.right (.right (.left (.left (.left (.none _)))))))))
   ·rcases h9 with ⟨a,rfl,rfl⟩
    all_goals simp
   obtain ⟨a,rfl,rfl⟩:=h9
   try simp only [List.cons_append,List.nil_append]
   refine TD.norm (by simp only [List.set]; rfl) ?_
   refine TD.z [19,22] rfl (q_build (l:=[_,_,_,_,_,_,_,_]) rfl TyZ.h BlOf.h rfl) ?_
   refine TD.s (pend':=[]) [8,23] rfl rfl (q_store rfl rfl TySz.h rfl rfl mQ rfl) ?_
   refine TD.fin ?_
   refine au [4,4] ?_
   refine TK.unrowAt (c:=j8) (i:=7) (j:=a) rfl mQ uQ ?_
   refine TK.frzRow (j:=a) ?_
   refine au [5,7,9,28,6,3,20] ?_
   refine ⟨fun hc1=>?_,fun hc1=>?_⟩
   ·have hnil:statesM b=[]:=List.length_eq_zero_iff.1 (by have:=eq_of_beq hc1; omega)
    refine au [4,5,45,17,2,3] ?_
    refine TK.rt hret ((ja,_)::(0,_)::(s,_)::(h,_)::(e,_)::Kx) ?_
    exact .inr (.inl ⟨hbar,hnil,rfl,rfl⟩)
   have hne:statesM b≠[]:=fun e=>by rw [e] at hc1; simp at hc1
   refine au [12,4,5,8,17,2,3] ?_
   refine TK.rt hret ((a,_)::(ja,_)::(0,_)::(s,_)::(h,_)::(e,_)::Kx) ?_
   exact .inr (.inr ⟨hbar,hne,a,rfl,rfl⟩)
 ·refine au [] ?_
  refine TK.perm (K':=(ja,_)::(0,_)::(s,_)::(h,_)::(e,_)::(jr,_)::(jb,_)::Kx) (perm_k1 _ _ _ _ _ _ _) ?_
  refine au [1,10,10,22] ?_
  intro j6 hj6
  refine au [17,2,3,4,4,5,1,6,3,20] ?_
  refine ⟨fun hc0=>?_,fun hc0=>?_⟩
  ·
   refine au [4,5,45,1,17,2,3] ?_
   refine TK.rt hret ((ja,_)::(0,_)::(s,_)::(h,_)::(e,_)::Kx) ?_
   exact .inl ⟨hbar,rfl,rfl⟩
  exact absurd hbar (by simpa using hc0)
section
variable {P:Program} {main:Bool} {k:List Item}
theorem sf_scope {kd:CallKind} {f:FuncId} {ro:Option Nat} {ts:Array Value} {ds:List Deferred} {cs:List Frame} {w:World} {c:Code}:stepG P main (G (fr kd f ro ts ds (.code (.scope c)::k)) cs) w=.go (G (fr kd f ro ts ds (.code c::.inScope c::k)) cs) w #[]:=by simp [G,stepG,stepG.exec,fr]
theorem sf_inScope {kd:CallKind} {f:FuncId} {ro:Option Nat} {ts:Array Value} {ds:List Deferred} {cs:List Frame} {w:World} {c:Code}:stepG P main (G (fr kd f ro ts ds (.inScope c::k)) cs) w=.go (G (fr kd f ro ts ds k) cs) w #[]:=by simp [G,stepG,stepG.exec,fr]
end
section
variable {P:Program} {gm:Nat->Option Nat} {T:Goroutine->Hp->Prop} {Y:KX P gm T} {ds:List Nat} {k:List Item} {env:List AV} {K:KV}
theorem TK.scope {c:Code} (h:TK Y ds (.code c::.inScope c::k) env K):TK Y ds (.code (.scope c)::k) env K:=fun A hA φ H ts h1 h2 h3 h4 h5 h6=>Y.X.hT.ctlF rfl (fun _=>sf_scope) rfl (h A hA φ H ts h1 h2 h3 h4 h5 h6)
theorem TK.inScope {c:Code} (h:TK Y ds k env K):TK Y ds (.inScope c::k) env K:=fun A hA φ H ts h1 h2 h3 h4 h5 h6=>Y.X.hT.ctlF rfl (fun _=>sf_inScope) rfl (h A hA φ H ts h1 h2 h3 h4 h5 h6)
end
theorem hangR_or {o:Option (List Int×Int)} {K:KV} {r:AV} {K':KV} (h:HangR o K r K'):(o=none/\r=.tup [.agg [.v (.slice none 0 0),intA 0],boolA false]/\K'=K)\/∃ w q jw,o=some (w,q)/\r=.tup [.agg [.sl jw 0 w.length,intA q],boolA true]/\K'=(jw,.cells (w.map intA) 3 false)::K:=by
 cases o with
 | none=>exact .inl ⟨rfl,h⟩
 | some z=>obtain ⟨jw,h1,h2⟩:=h; exact .inr ⟨z.1,z.2,jw,rfl,h1,h2⟩
def wayC (p:Nat×Nat×Int):List AV:=[.sl p.1 0 p.2.1,intA p.2.2]
theorem all_at {all:List (List Int)} {i:Nat} {st:List Int} {n:Int} {e:TypeId} {rw':Bool} (h:all[i]? =some st) (hn:n=(i:Int)):takeO (.cells (all.flatMap stC) e rw') (0+n.toNat*5) 5=some (stC st):=flat_at (c:=5) (fun _=>rfl) h hn dQ
theorem ways_none {b:RBk} {all:List (List Int)} {l st:List Int} {i:Nat} (h:all[i]? =some st) (hh:hangM b l st=none):waysM b (all.take (i+1)) l=waysM b (all.take i) l:=by
 unfold waysM
 rw [take_snoc h,List.filterMap_append]
 simp [hh]
theorem ways_some {b:RBk} {all:List (List Int)} {l st w:List Int} {q:Int} {i:Nat} (h:all[i]? =some st) (hh:hangM b l st=some (w,q)):waysM b (all.take (i+1)) l=waysM b (all.take i) l++[(w,q)]:=by
 unfold waysM
 rw [take_snoc h,List.filterMap_append]
 simp [hh]
theorem ways_le (b:RBk) (all:List (List Int)) (l:List Int):(waysM b all l).length<=all.length:=List.length_filterMap_le _ _
theorem spread_snoc (x:Int) (r:List Int) (y:Int):spreadM (x::(r++[y]))=(min (spreadM (x::r)).1 y,max (spreadM (x::r)).2 y):=by
 unfold spreadM
 dsimp only
 rw [List.foldl_append,List.foldl_append]
 rfl
def sqOk (b:RBk) (all:List (List Int)) (l:List Int):Bool:=(squaresM b all l).isSome
def sqLo (b:RBk) (all:List (List Int)) (l:List Int):Int:=((squaresM b all l).getD (0,0)).1
def sqHi (b:RBk) (all:List (List Int)) (l:List Int):Int:=((squaresM b all l).getD (0,0)).2
theorem rows_off {l:List Int} {i p:Nat} {x:Int} {e:TypeId} {s:Nat} (h:l[i]? =some x) (hp:p=i):takeO (.row (l.map intA) e s) p 1=some [intA x]:=by
 subst hp
 have:=rows_at (e:=e) (s:=s) h rfl
 simpa using this
instance:ApOf Tryz.prog 175 125 2 32:=⟨by kernel_rfl⟩
instance:BlOf Tryz.prog 51 [(0,1),(1,1)]:=⟨by kernel_rfl⟩
instance:Cal Tryz.prog 100:=⟨by kernel_rfl⟩
instance:Cal Tryz.prog 118:=⟨by kernel_rfl⟩
instance:Cal Tryz.prog 134:=⟨by kernel_rfl⟩
instance:Cal Tryz.prog 138:=⟨by kernel_rfl⟩
instance:Cal Tryz.prog 156:=⟨by kernel_rfl⟩
instance:Cal Tryz.prog 185:=⟨by kernel_rfl⟩
instance:Cal Tryz.prog 216:=⟨by kernel_rfl⟩
instance:FldOf Tryz.prog 143 0 0 false 1:=⟨by kernel_rfl⟩
instance:FldOf Tryz.prog 143 1 1 false 1:=⟨by kernel_rfl⟩
instance:SlEl Tryz.prog 175 125 2:=⟨by kernel_rfl⟩
instance:TyZ Tryz.prog 51 [.int .i64 0,.int .i64 0]:=⟨by kernel_rfl⟩
instance:Und Tryz.prog 175 (.slice 125):=⟨by kernel_rfl⟩
theorem ways_ok {main:Bool} {T:Goroutine->Hp->Prop} (hT:Shut Tryz.prog main T) {gm:Nat->Option Nat} {b:RBk} {s h e a j:Nat} {l:List Int} {all:List (List Int)} {et:TypeId} (hb:ROk b) (hl:CutsOk b l) (ha:okAll b all) (hn:all.length<=243) :
  CallK Tryz.prog T gm 138 [.agg (knownC b s h e a all.length),.sl j 0 l.length] [(s,seamO b),(a,allO all),(j,.cells (l.map intA) et false)] (fun r K'=>∃ (jr:Nat) (ps:List (Nat×Nat×Int)),ps.map (·.2.2)=(waysM b all l).map (·.2)/\r=.row jr ps.length/\K'=[(jr,.row (ps.flatMap wayC) 125 2),(s,seamO b),(a,allO all),(j,.cells (l.map intA) et false)]):=by
 refine callK_in 35 hT Tryz.func138 fun Y hret=>?_
 refine au [4,5,21] ?_
 intro jb hjb
 refine au [2,3] ?_
 refine TK.scope ?_
 refine au [4,5,2] ?_
 refine TK.virt 5 125 2 rfl fun jr0 hjr0=>?_
 refine au [3,4,15,4,4,5,7,9,28,1,3,13] ?_
 refine TK.maskL [1,2,4,5,11,12] ?_
 refine TK.kp [(s,_),(a,_),(j,_),(jr0,_),(jb,_)] ?_
 refine TK.loopN (fun n env K=>∃ (i jr:Nat) (ps:List (Nat×Nat×Int)),n=all.length - i/\i<=all.length/\ps.map (·.2.2)=(waysM b (all.take i) l).map (·.2)/\env=[.any,.sl j 0 l.length,.ptr jb 0,.any,.v (.slice none 0 0),.row jr ps.length,.any,.any,.any,.any,.any,intA all.length,intA i,.any,.any,.any,.any,.any,.any,.any,.any,.any,.any,.any,.any,.any,.any,.any,.any,.any,.any,.any,.any,.any,.any]/\K=[(s,seamO b),(a,allO all),(j,.cells (l.map intA) et false),(jr,.row (ps.flatMap wayC) 125 2),(jb,.cells (knownC b s h e a all.length) 139 true)]) all.length ⟨0,jr0,[],rfl,Nat.zero_le _,rfl,rfl,rfl⟩ fun n env K hI hnext=>?_
 obtain ⟨i,jr,ps,rfl,hi,hps,rfl,rfl⟩:=hI
 have hpl:ps.length<=i:=by have:=congrArg List.length hps; rw [List.length_map,List.length_map] at this; have h2:=ways_le b (all.take i) l; rw [List.length_take] at h2; omega
 have hfl:=flat_len wayC 2 (fun _=>rfl) ps
 refine au [4,5,6,3,4,20] ?_
 refine ⟨fun hc0=>?_,fun hc0=>?_⟩
 ·have hil:i<all.length:=by simp at hc0; omega
  obtain ⟨st,hst⟩:∃ st,all[i]? =some st:=⟨_,List.getElem?_eq_getElem hil⟩
  have hsk:=ha st (List.mem_of_getElem? hst)
  refine au [12,4,13,4,5,1,2,3,4] ?_
  refine TK.draw [0,1,2,3,4,5,6,7,8,9,10,11,12,13,14] [0,1,2,3,4,5,6,7,8,9,10,12,13,11,14] (by kernel_rfl) (by kernel_rfl) ?_
  refine TD.z [2] rfl (q_fieldAddr rfl rfl FldOf.h dQ) ?_
  refine TD.y [16] rfl (hq:=q_load rfl rfl TySz.h (List.Mem.head _) rfl) (h:=?_)
  refine TD.z [1] rfl (q_move rfl rfl) ?_
  refine TD.z [2] rfl (q_fieldAddr rfl rfl FldOf.h dQ) ?_
  refine TD.y [19] rfl (hq:=q_load1 rfl rfl TySz.h (List.Mem.head _) rfl) (h:=?_)
  refine TD.z [6] rfl (q_move rfl rfl) ?_
  refine TD.z [20,21] rfl (q_indexSl rfl rfl rfl SlEl.h oQ oQ) ?_
  refine TD.y [22] rfl (hq:=q_load rfl rfl TySz.h (List.Mem.head _) (all_at (i:=i) hst rfl)) (h:=?_)
  refine TD.c2 (i1:=8) (i2:=12) (pend1:=[⟨6,[20,21],[]⟩,⟨5,[6],[]⟩,⟨4,[19],[(_,_)]⟩,⟨3,[2],[]⟩,⟨0,[2],[]⟩]) (pend2:=[⟨7,[22],[(_,_)]⟩,⟨6,[20,21],[]⟩,⟨5,[6],[]⟩,⟨4,[19],[(_,_)]⟩,⟨3,[2],[]⟩,⟨2,[1],[]⟩,⟨1,[16],[(_,_)]⟩,⟨0,[2],[]⟩]) (L1:=[9,10,11,12,13,14]) (L2:=[8,9,10,11,13,14]) [17,18,23] [] rfl rfl rfl rfl rfl rfl rfl ?_ ?_
  ·refine exK_callO rfl rfl Cal.h rfl ((hang_ok hT hb hl hsk).mono (fun _ _ h=>hangR_or h)) (by repeat (first | exact Split.none _ | exact Split.all _ | (apply Split.rem; repeat (first | exact Rem.head | apply Rem.tail)) | apply Split.right)) fun r1 K2 h3=>⟨?_,?_⟩
   ·rcases h3 with ⟨hno,rfl,rfl⟩ | ⟨w,q,jw,hso,rfl,rfl⟩
    all_goals simp
   rcases h3 with ⟨hno,rfl,rfl⟩ | ⟨w,q,jw,hso,rfl,rfl⟩
   ·try simp only [List.cons_append,List.nil_append]
    refine TD.norm (env':=[_,_,_,_,_,_,_,_,_,_,_,_,_,_,_,_,_,_,_,_,_,_,_,_,_,_,_,_,_,_,_,_,_,_,_]) rfl ?_
    refine TD.z [24] rfl (q_move rfl rfl) ?_
    refine TD.z [15] rfl (q_extract rfl rfl rfl) ?_
    refine TD.z [15] rfl (q_extract rfl rfl rfl) ?_
    refine TD.cnewP (pend':=[⟨11,[15],[]⟩,⟨10,[15],[]⟩,⟨9,[24],[]⟩,⟨6,[20,21],[]⟩,⟨5,[6],[]⟩,⟨4,[19],[(_,_)]⟩,⟨3,[2],[]⟩,⟨0,[2],[]⟩]) [] rfl rfl rfl rfl rfl (n_allocA rfl TyZA.h) (fun _=>putS rfl (by simp only [List.set]; rfl)) sQ fun j7 hj7=>?_
    refine TD.s (pend':=[⟨11,[15],[]⟩]) [7,25] rfl rfl (q_store rfl rfl TySz.h rfl rfl mQ rfl) ?_
    refine TD.as (pend':=[]) [26] rfl rfl (q_assign rfl rfl) ?_
    refine TD.fin ?_
    refine au [4,4,5,1,30,3,20] ?_
    refine ⟨fun hc1=>?_,fun hc1=>?_⟩
    ·
     refine au [16,5,23,1,3] ?_
     refine TK.maskL [1,2,4,5,11,12] ?_
     refine TK.kp [(s,_),(a,_),(j,_),(jr,_),(jb,_)] ?_
     exact hnext _ _ _ oQ ⟨i+1,jr,ps,rfl,by omega,by rw [ways_none hst hno]; exact hps,rfl,rfl⟩
    exact absurd hc1 dQ
   ·try simp only [List.cons_append,List.nil_append]
    refine TD.norm (env':=[_,_,_,_,_,_,_,_,_,_,_,_,_,_,_,_,_,_,_,_,_,_,_,_,_,_,_,_,_,_,_,_,_,_,_]) rfl ?_
    refine TD.z [24] rfl (q_move rfl rfl) ?_
    refine TD.z [15] rfl (q_extract rfl rfl rfl) ?_
    refine TD.z [15] rfl (q_extract rfl rfl rfl) ?_
    refine TD.cnewP (pend':=[⟨11,[15],[]⟩,⟨10,[15],[]⟩,⟨9,[24],[]⟩,⟨6,[20,21],[]⟩,⟨5,[6],[]⟩,⟨4,[19],[(_,_)]⟩,⟨3,[2],[]⟩,⟨0,[2],[]⟩]) [] rfl rfl rfl rfl rfl (n_allocA rfl TyZA.h) (fun _=>putS rfl (by simp only [List.set]; rfl)) sQ fun j7 hj7=>?_
    refine TD.s (pend':=[⟨11,[15],[]⟩]) [7,25] rfl rfl (q_store rfl rfl TySz.h rfl rfl mQ rfl) ?_
    refine TD.as (pend':=[]) [26] rfl rfl (q_assign rfl rfl) ?_
    refine TD.fin ?_
    refine au [4,4,5,1,30,3,20] ?_
    refine ⟨fun hc1=>?_,fun hc1=>?_⟩
    ·exact absurd hc1 dQ
    refine au [12,5,1,8] ?_
    refine TK.newR rfl rfl rfl (n_buildSlice (l:=[_,_]) rfl SlEl.h TyZ.h dQ dQ rfl) (fun _=>putS rfl (by simp only [List.set]; rfl)) fun j4 hj4=>?_
    refine TK.appR rfl rfl rfl (a_app rfl ApOf.h rfl mQ oQ rfl (src_row (ln:=[_,_]) mQ dQ sQ rfl) oQ rfl (by unfold maxLen; omega) oQ) (fun _=>uQ) (fun _=>putS rfl (by simp only [List.set]; rfl)) fun jr2=>?_
    refine au [2,3,14,5,23,1,3] ?_
    refine TK.maskL [1,2,4,5,11,12] ?_
    refine TK.kp [(s,_),(a,_),(j,_),(jr2,_),(jb,_)] ?_
    exact hnext _ _ _ oQ ⟨i+1,jr2,ps++[(jw,w.length,q)],rfl,by omega,by rw [ways_some hst hso,List.map_append,List.map_append,hps]; rfl,by rw [List.length_append]; rfl,by rw [flat_snoc]; rfl⟩
  ·refine exK_newP rfl (n_allocA rfl TyZA.h) (fun _=>putS rfl (by simp only [List.set]; rfl)) sQ fun j7 hj7=>?_
   refine TD.cl (pend':=[⟨6,[20,21],[]⟩,⟨5,[6],[]⟩,⟨4,[19],[(_,_)]⟩,⟨3,[2],[]⟩,⟨0,[2],[]⟩]) [17,18,23] rfl rfl rfl rfl rfl ((hang_ok hT hb hl hsk).mono (fun _ _ h=>hangR_or h)) (fun r5 K6 h7=>⟨?_,?_⟩)
   ·rcases h7 with ⟨hno,rfl,rfl⟩ | ⟨w,q,jw,hso,rfl,rfl⟩
    all_goals simp
   rcases h7 with ⟨hno,rfl,rfl⟩ | ⟨w,q,jw,hso,rfl,rfl⟩
   ·try simp only [List.cons_append,List.nil_append]
    refine TD.norm (by simp only [List.set]; rfl) ?_
    refine TD.z [24] rfl (q_move rfl rfl) ?_
    refine TD.z [15] rfl (q_extract rfl rfl rfl) ?_
    refine TD.z [15] rfl (q_extract rfl rfl rfl) ?_
    refine TD.s (pend':=[⟨11,[15],[]⟩]) [7,25] rfl rfl (q_store rfl rfl TySz.h rfl rfl mQ rfl) ?_
    refine TD.as (pend':=[]) [26] rfl rfl (q_assign rfl rfl) ?_
    refine TD.fin ?_
    refine au [4,4,5,1,30,3,20] ?_
    refine ⟨fun hc1=>?_,fun hc1=>?_⟩
    ·
     refine au [16,5,23,1,3] ?_
     refine TK.maskL [1,2,4,5,11,12] ?_
     refine TK.kp [(s,_),(a,_),(j,_),(jr,_),(jb,_)] ?_
     exact hnext _ _ _ oQ ⟨i+1,jr,ps,rfl,by omega,by rw [ways_none hst hno]; exact hps,rfl,rfl⟩
    exact absurd hc1 dQ
   ·try simp only [List.cons_append,List.nil_append]
    refine TD.norm (by simp only [List.set]; rfl) ?_
    refine TD.z [24] rfl (q_move rfl rfl) ?_
    refine TD.z [15] rfl (q_extract rfl rfl rfl) ?_
    refine TD.z [15] rfl (q_extract rfl rfl rfl) ?_
    refine TD.s (pend':=[⟨11,[15],[]⟩]) [7,25] rfl rfl (q_store rfl rfl TySz.h rfl rfl mQ rfl) ?_
    refine TD.as (pend':=[]) [26] rfl rfl (q_assign rfl rfl) ?_
    refine TD.fin ?_
    refine au [4,4,5,1,30,3,20] ?_
    refine ⟨fun hc1=>?_,fun hc1=>?_⟩
    ·exact absurd hc1 dQ
    refine au [12,5,1,8] ?_
    refine TK.newR rfl rfl rfl (n_buildSlice (l:=[_,_]) rfl SlEl.h TyZ.h dQ dQ rfl) (fun _=>putS rfl (by simp only [List.set]; rfl)) fun j8 hj8=>?_
    refine TK.appR rfl rfl rfl (a_app rfl ApOf.h rfl mQ oQ rfl (src_row (ln:=[_,_]) mQ dQ sQ rfl) oQ rfl (by unfold maxLen; omega) oQ) (fun _=>uQ) (fun _=>putS rfl (by simp only [List.set]; rfl)) fun jr2=>?_
    refine au [2,3,14,5,23,1,3] ?_
    refine TK.maskL [1,2,4,5,11,12] ?_
    refine TK.kp [(s,_),(a,_),(j,_),(jr2,_),(jb,_)] ?_
    exact hnext _ _ _ oQ ⟨i+1,jr2,ps++[(jw,w.length,q)],rfl,by omega,by rw [ways_some hst hso,List.map_append,List.map_append,hps]; rfl,by rw [List.length_append]; rfl,by rw [flat_snoc]; rfl⟩
 obtain rfl:i=all.length:=by simp at hc0; omega
 refine au [16,4,5,1,2,3] ?_
 refine TK.rt hret [(jr,_),(s,_),(a,_),(j,_)] ?_
 exact ⟨jr,ps,by rw [hps,List.take_length],rfl,rfl⟩
theorem spread_ok {main:Bool} {T:Goroutine->Hp->Prop} (hT:Shut Tryz.prog main T) {gm:Nat->Option Nat} {j off:Nat} {ob:AObj} {x:Int} {xs:List Int} (hI:∀ (i:Nat) (y:Int),xs[i]? =some y->takeO ob (off+(i:Int).toNat*1) 1=some [intA y]) (hl:xs.length<=1000) :
  CallK Tryz.prog T gm 134 [intA x,.sl j off xs.length] [(j,ob)] (fun r K'=>r=.agg [intA (spreadM (x::xs)).1,intA (spreadM (x::xs)).2]/\K'=[(j,ob)]):=by
 refine callK_in 27 hT Tryz.func134 fun Y hret=>?_
 refine au [4,5,22] ?_
 intro jr hjr
 refine au [3,4,5,1,1,2,2,3,4,4,5,1,28,1,3,13] ?_
 refine TK.maskL [4,5,6,11,12,13] ?_
 refine TK.kp [(j,_),(jr,_)] ?_
 refine TK.loopN (fun n env K=>∃ (i:Nat),n=xs.length - i/\i<=xs.length/\env=[.any,.any,.any,.any,.ptr jr 0,intA (spreadM (x::xs.take i)).1,intA (spreadM (x::xs.take i)).2,.any,.any,.any,.any,.sl j off xs.length,intA xs.length,intA i,.any,.any,.any,.any,.any,.any,.any,.any,.any,.any,.any,.any,.any]/\K=[(j,ob),(jr,.cells [intA 0,intA 0] 51 true)]) xs.length ⟨0,rfl,Nat.zero_le _,rfl,rfl⟩ fun n env K hI' hnext=>?_
 obtain ⟨i,rfl,hi,rfl,rfl⟩:=hI'
 refine au [4,5,6,3,4,20] ?_
 refine ⟨fun hc0=>?_,fun hc0=>?_⟩
 ·have hil:i<xs.length:=by simp at hc0; omega
  obtain ⟨y,hy⟩:∃ y,xs[i]? =some y:=⟨_,List.getElem?_eq_getElem hil⟩
  refine au [12,4,13,4,5,36] ?_
  refine TK.a rfl (q_load1 rfl rfl TySz.h mQ (hI i y hy)) ?_
  refine au [2,3,5,1,1] ?_
  refine TK.a rfl (q_minI rfl rfl rfl) ?_
  refine au [1,1] ?_
  refine TK.a rfl (q_maxI rfl rfl rfl) ?_
  refine au [2,2,3,14,5,23,1,3] ?_
  refine TK.maskL [4,5,6,11,12,13] ?_
  refine TK.kp [(j,_),(jr,_)] ?_
  exact hnext _ _ _ oQ ⟨i+1,rfl,by omega,by rw [take_snoc hy,spread_snoc]; rfl,rfl⟩
 obtain rfl:i=xs.length:=by simp at hc0; omega
 refine au [16,4,5,1,1,39,17,3] ?_
 refine TK.rt hret [(j,_)] ?_
 exact ⟨by rw [List.take_length]; rfl,rfl⟩
theorem squares_ok {main:Bool} {T:Goroutine->Hp->Prop} (hT:Shut Tryz.prog main T) {gm:Nat->Option Nat} {b:RBk} {s h e a j:Nat} {l:List Int} {all:List (List Int)} {et:TypeId} (hb:ROk b) (hl:CutsOk b l) (ha:okAll b all) (hn:all.length<=243) (h0:0<all.length) :
  CallK Tryz.prog T gm 135 [.agg (knownC b s h e a all.length),.sl j 0 l.length] [(j,.cells (l.map intA) et false),(s,seamO b),(a,allO all)] (fun r K'=>r=.tup [.agg [intA (sqLo b all l),intA (sqHi b all l)],boolA (sqOk b all l)]/\K'=[(j,.cells (l.map intA) et false),(s,seamO b),(a,allO all)]):=by
 refine callK_in 38 hT Tryz.func135 fun Y hret=>?_
 refine au [4,5,21] ?_
 intro jb hjb
 refine au [22] ?_
 intro jr0 hjr0
 refine au [2,3,4,5,8,1] ?_
 refine TK.cl rfl rfl rfl rfl (ways_ok hT hb hl ha hn) ?_
 rintro r1 K2 ⟨jr,ps,hps,rfl,rfl⟩
 refine au [] ?_
 have hpl:ps.length=(waysM b all l).length:=by have:=congrArg List.length hps; rwa [List.length_map,List.length_map] at this
 have hwl:=ways_le b all l
 refine au [2,3,4,4,5,1,28,7,9,28,6,3,20] ?_
 refine ⟨fun hc0=>?_,fun hc0=>?_⟩
 ·refine au [4,5,39,17,2,3] ?_
  refine TK.rt hret [(j,_),(s,_),(a,_)] ?_
  have hlt:(waysM b all l).length<all.length:=by rw [<- hpl]; simp at hc0; omega
  exact ⟨by unfold sqLo sqHi sqOk squaresM; rw [if_pos hlt]; rfl,rfl⟩
 have hge:¬ ps.length<all.length:=by simp at hc0; omega
 refine au [12,4,5,2] ?_
 refine TK.virt 7 3 1 rfl fun jt0 hjt0=>?_
 refine au [3,4,4,5,1,28,1,3,13] ?_
 refine TK.maskL [2,4,5,7,20,21,22] ?_
 refine TK.kp [(jr,_),(s,_),(a,_),(j,_),(jt0,_),(jb,_),(jr0,_)] ?_
 refine TK.loopN (fun n env K=>∃ (i jt:Nat),n=ps.length - i/\i<=ps.length/\env=[.any,.any,.ptr jb 0,.any,.ptr jr0 0,boolA false,.any,.row jt i,.any,.any,.any,.any,.any,.any,.any,.any,.any,.any,.any,.any,.row jr ps.length,intA ps.length,intA i,.any,.any,.any,.any,.any,.any,.any,.any,.any,.any,.any,.any,.any,.any,.any]/\K=[(jr,.row (ps.flatMap wayC) 125 2),(s,seamO b),(a,allO all),(j,.cells (l.map intA) et false),(jt,.row (((ps.map (·.2.2)).take i).map intA) 3 1),(jb,.cells (knownC b s h e a all.length) 139 true),(jr0,.cells [intA 0,intA 0] 51 true)]) ps.length ⟨0,jt0,rfl,Nat.zero_le _,rfl,rfl⟩ fun n env K hI hnext=>?_
 obtain ⟨i,jt,rfl,hi,rfl,rfl⟩:=hI
 refine au [4,5,6,3,4,20] ?_
 refine ⟨fun hc1=>?_,fun hc1=>?_⟩
 ·have hil:i<ps.length:=by simp at hc1; omega
  obtain ⟨p,hp⟩:∃ p,ps[i]? =some p:=⟨_,List.getElem?_eq_getElem hil⟩
  refine au [12,4,13,4,5,37] ?_
  refine TK.a rfl (q_load rfl rfl TySz.h mQ (rowf_at (c:=2) (f:=wayC) (fun _=>rfl) hp rfl dQ)) ?_
  refine au [22] ?_
  intro j9 hj9
  refine au [17,3,5,1,7,9] ?_
  refine TK.newR rfl rfl rfl (n_buildSlice (l:=[_]) rfl SlEl.h TyZ.h dQ dQ rfl) (fun _=>putS rfl (by simp only [List.set]; rfl)) fun j4 hj4=>?_
  refine TK.appR rfl rfl rfl (a_app rfl ApOf.h rfl mQ (by simp; omega) rfl (src_row (ln:=[_]) mQ dQ sQ rfl) oQ rfl (by unfold maxLen; omega) oQ) (fun _=>uQ) (fun _=>putS rfl (by simp only [List.set]; rfl)) fun jt2=>?_
  refine au [2,3,14,5,23,1,3] ?_
  refine TK.maskL [2,4,5,7,20,21,22] ?_
  refine TK.kp [(jr,_),(s,_),(a,_),(j,_),(jt2,_),(jb,_),(jr0,_)] ?_
  exact hnext _ _ _ oQ ⟨i+1,jt2,rfl,by omega,rfl,by rw [take_snoc (x:=p.2.2) (by rw [List.getElem?_map,hp]; rfl),List.map_append]; rfl⟩
 obtain rfl:i=ps.length:=by simp at hc1; omega
 obtain ⟨x,xs,hxs⟩:∃ x xs,ps.map (·.2.2)=x::xs:=by
  cases hh:ps with
  | nil=>rw [hh] at hge; exact absurd h0 hge
  | cons y r=>exact ⟨_,_,rfl⟩
 have hxl:ps.length=xs.length+1:=by have:=congrArg List.length hxs; simpa using this
 rw [List.take_of_length_le sQ,hxs,hxl]
 refine au [16,4] ?_
 refine TK.draw [0,1,2,3,4,5,6,7] [0,1,2,3,4,5,6,7] (by kernel_rfl) (by kernel_rfl) ?_
 refine TD.z [7] rfl (q_move rfl rfl) ?_
 refine TD.y [32] rfl (hq:=q_indexRow rfl rfl rfl SlEl.h (List.Mem.head _) oQ oQ) (h:=?_)
 refine TD.y [33] rfl (hq:=q_load1 rfl rfl TySz.h (List.Mem.head _) rfl) (h:=?_)
 refine TD.z [7] rfl (q_move rfl rfl) ?_
 refine TD.y [35] rfl (hq:=q_sliceRow rfl rfl SlEl.h (List.Mem.head _) rfl rfl oQ oQ rfl) (h:=?_)
 refine TD.cl (pend':=[⟨3,[7],[]⟩,⟨1,[32],[(_,_)]⟩,⟨0,[7],[]⟩]) [34,36] rfl rfl rfl rfl rfl (spread_ok hT (x:=x) (xs:=xs) (off:=1) (ob:=.row ((x::xs).map intA) 3 1) (fun i y hy=>rows_off (l:=x::xs) (i:=i+1) (by simpa using hy) oQ) oQ) (fun r5 K6 h7=>⟨?_,?_⟩)
 ·rcases h7 with ⟨rfl,rfl⟩
  all_goals simp
 obtain ⟨rfl,rfl⟩:=h7
 try simp only [List.cons_append,List.nil_append]
 refine TD.norm (by simp only [List.set]; rfl) ?_
 refine TD.s (pend':=[]) [4,37] rfl rfl (q_store rfl rfl TySz.h rfl rfl mQ rfl) ?_
 refine TD.as (pend':=[]) [] rfl rfl (q_assign rfl rfl) ?_
 refine TD.fin ?_
 refine au [] ?_
 refine TK.rt hret [(j,_),(s,_),(a,_)] ?_
 have hlt:¬ (waysM b all l).length<all.length:=by rw [<- hpl]; exact hge
 exact ⟨by unfold sqLo sqHi sqOk squaresM; rw [if_neg hlt,<- hps,hxs]; rfl,rfl⟩
theorem isNaN_ok {main:Bool} {T:Goroutine->Hp->Prop} (hT:Shut Tryz.prog main T) {gm:Nat->Option Nat} {x:Int} :
  CallK Tryz.prog T gm 216 [intA x] [] (fun r K'=>r=boolA false/\K'=[]):=by
 refine callK_in 6 hT Tryz.func216 fun Y hret=>?_
 refine au [4,5,2,3,4,5,1,1,6,2,3] ?_
 refine TK.rta hret ?_
 exact ⟨by simp,rfl⟩
theorem cmpInt_ok {main:Bool} {T:Goroutine->Hp->Prop} (hT:Shut Tryz.prog main T) {gm:Nat->Option Nat} {x y:Int} :
  CallK Tryz.prog T gm 185 [intA x,intA y] [] (fun r K'=>r=intA (if x<y then -1 else if y<x then 1 else 0)/\K'=[]):=by
 refine callK_in 20 hT Tryz.func185 fun Y hret=>?_
 refine au [4,5,2,3,4,5,1] ?_
 refine TK.cl rfl rfl rfl rfl (isNaN_ok hT) ?_
 rintro r1 K2 ⟨rfl,rfl⟩
 refine au [2,3,4,5,1] ?_
 refine TK.cl rfl rfl rfl rfl (isNaN_ok hT) ?_
 rintro r4 K5 ⟨rfl,rfl⟩
 refine au [2,3,4,4,5,1,3,20] ?_
 refine ⟨fun hc0=>?_,fun hc0=>?_⟩
 ·cases hc0
 skip
 refine au [12,4,4,5,1,3,20] ?_
 refine ⟨fun hc2=>?_,fun hc2=>?_⟩
 ·cases hc2
 refine au [12,4,4,5,1,1,6,3,20] ?_
 refine ⟨fun hc3=>?_,fun hc3=>?_⟩
 ·refine au [4,5,2,3] ?_
  refine TK.rta hret ?_
  exact ⟨by rw [if_pos (of_decide_eq_true hc3)],rfl⟩
 refine au [12,4,4,5,1,1,6,3,20] ?_
 refine ⟨fun hc4=>?_,fun hc4=>?_⟩
 ·refine au [4,5,2,3] ?_
  refine TK.rta hret ?_
  exact ⟨by rw [if_neg (of_decide_eq_false hc3),if_pos (of_decide_eq_true hc4)],rfl⟩
 refine au [12,4,5,2,3] ?_
 refine TK.rta hret ?_
 exact ⟨by rw [if_neg (of_decide_eq_false hc3),if_neg (of_decide_eq_false hc4)],rfl⟩
theorem compare_ok {main:Bool} {T:Goroutine->Hp->Prop} (hT:Shut Tryz.prog main T) {gm:Nat->Option Nat} {j j2:Nat} {xs ys:List Int} {e1 e2:TypeId} (hl:xs.length<=1000) :
  CallK Tryz.prog T gm 156 [.sl j 0 xs.length,.sl j2 0 ys.length] [(j,.cells (xs.map intA) e1 false),(j2,.cells (ys.map intA) e2 false)] (fun r K'=>r=intA (lexM xs ys)/\K'=[(j,.cells (xs.map intA) e1 false),(j2,.cells (ys.map intA) e2 false)]):=by
 refine callK_in 36 hT Tryz.func156 fun Y hret=>?_
 refine au [4,5,2,3,4,4,5,1,28,1,3,13] ?_
 refine TK.maskL [0,1,4,9,10,11] ?_
 refine TK.loopN (fun n env K=>∃ (i:Nat),n=xs.length - i/\i<=xs.length/\lexM (xs.drop i) (ys.drop i)=lexM xs ys/\env=[.sl j 0 xs.length,.sl j2 0 ys.length,.any,.any,intA 0,.any,.any,.any,.any,.sl j 0 xs.length,intA xs.length,intA i,.any,.any,.any,.any,.any,.any,.any,.any,.any,.any,.any,.any,.any,.any,.any,.any,.any,.any,.any,.any,.any,.any,.any,.any]/\K=[(j,.cells (xs.map intA) e1 false),(j2,.cells (ys.map intA) e2 false)]) xs.length ⟨0,rfl,Nat.zero_le _,rfl,rfl,rfl⟩ fun n env K hI hnext=>?_
 obtain ⟨i,rfl,hi,hinv,rfl,rfl⟩:=hI
 refine au [4,5,6,3,4,20] ?_
 refine ⟨fun hc0=>?_,fun hc0=>?_⟩
 ·have hil:i<xs.length:=by simp at hc0; omega
  refine au [12,4,13,4,5,1,36] ?_
  refine TK.a rfl (q_load1 rfl rfl TySz.h mQ (ints_at (i:=i) (cut_get hil) rfl)) ?_
  refine au [2,2,3,4,4,5,1,1,28,6,3,20] ?_
  refine ⟨fun hc1=>?_,fun hc1=>?_⟩
  ·refine au [4,5,2,3] ?_
   refine TK.rt hret [(j,_),(j2,_)] ?_
   exact ⟨by rw [<- hinv,drop_cons (cut_get hil),show ys.drop i=[] from List.drop_eq_nil_of_le (by simp at hc1; omega)]; rfl,rfl⟩
  have hjl:i<ys.length:=by simp at hc1; omega
  refine au [12,4,5,1,1,36] ?_
  refine TK.a rfl (q_load1 rfl rfl TySz.h mQ (ints_at (i:=i) (cut_get hjl) rfl)) ?_
  refine au [2,3,4,5,1,1] ?_
  refine TK.cl rfl rfl rfl rfl (cmpInt_ok hT) ?_
  rintro r1 K2 ⟨rfl,rfl⟩
  refine au [2,3,4,5,1,6,3,20] ?_
  refine ⟨fun hc2=>?_,fun hc2=>?_⟩
  ·refine au [4,5,1,2,3] ?_
   refine TK.rt hret [(j,_),(j2,_)] ?_
   exact ⟨by rw [<- hinv,drop_cons (cut_get hil),drop_cons (cut_get hjl)]; simp only [lexM]; split <;> (try rfl); split <;> (try rfl); simp_all,rfl⟩
  have hnl:¬ cutN xs i<cutN ys i:=fun hh=>by rw [if_pos hh] at hc2; simp at hc2
  have hng:¬ cutN ys i<cutN xs i:=fun hh=>by rw [if_neg hnl,if_pos hh] at hc2; simp at hc2
  refine au [12,14,5,23,1,3] ?_
  refine TK.maskL [0,1,4,9,10,11] ?_
  refine TK.kp [(j,_),(j2,_)] ?_
  exact hnext _ _ _ oQ ⟨i+1,rfl,by omega,by rw [<- hinv,drop_cons (cut_get hil),drop_cons (cut_get hjl)]; simp only [lexM]; rw [if_neg hnl,if_neg hng],rfl,rfl⟩
 obtain rfl:i=xs.length:=by simp at hc0; omega
 refine au [16,4,4,5,1,28,1,28,6,3,20] ?_
 refine ⟨fun hc3=>?_,fun hc3=>?_⟩
 ·refine au [4,5,2,3] ?_
  refine TK.rt hret [(j,_),(j2,_)] ?_
  exact ⟨by rw [<- hinv,List.drop_length]; simp at hc3; rw [drop_cons (cut_get (l:=ys) (k:=xs.length) oQ)]; rfl,rfl⟩
 refine au [12,4,5,2,3] ?_
 refine TK.rt hret [(j,_),(j2,_)] ?_
 exact ⟨by rw [<- hinv,List.drop_length]; simp at hc3; rw [List.drop_eq_nil_of_le oQ]; rfl,rfl⟩
theorem smaller_ok {main:Bool} {T:Goroutine->Hp->Prop} (hT:Shut Tryz.prog main T) {gm:Nat->Option Nat} {j j2:Nat} {xs ys:List Int} {e1 e2:TypeId} (hl:xs.length<=1000) :
  CallK Tryz.prog T gm 118 [.sl j 0 xs.length,.sl j2 0 ys.length] [(j,.cells (xs.map intA) e1 false),(j2,.cells (ys.map intA) e2 false)] (fun r K'=>r=boolA (smallerM xs ys)/\K'=[(j,.cells (xs.map intA) e1 false),(j2,.cells (ys.map intA) e2 false)]):=by
 refine callK_in 23 hT Tryz.func118 fun Y hret=>?_
 refine au [4,5,2,3,4,5,1,28,1,28,6,1] ?_
 refine TK.sp 10 (fun g1_6=>?_) (fun g1_6=>?_)
 ·refine au [11,11,11,11,11,11,11,11,11,11,11,26,2,3] ?_
  refine TK.rt hret [(j,_),(j2,_)] ?_
  exact ⟨by simp at g1_6; simp [smallerM,g1_6],rfl⟩
 refine au [1,28,1,28,6,1] ?_
 refine TK.sp 16 (fun g1_12=>?_) (fun g1_12=>?_)
 ·refine au [1,1] ?_
  refine TK.cl rfl rfl rfl rfl (compare_ok hT hl) ?_
  rintro r1 K2 ⟨rfl,rfl⟩
  refine au [6,26,25,2,3] ?_
  refine TK.rt hret [(j,_),(j2,_)] ?_
  exact ⟨by simp at g1_6 g1_12; unfold smallerM; rw [decide_eq_false (show ¬ xs.length<ys.length by omega),decide_eq_true (show xs.length=ys.length by omega)]; rfl,rfl⟩
 refine au [11,11,11,11,25,25,2,3] ?_
 refine TK.rt hret [(j,_),(j2,_)] ?_
 exact ⟨by simp at g1_6 g1_12; unfold smallerM; rw [decide_eq_false (show ¬ xs.length<ys.length by omega),decide_eq_false (show ¬ xs.length=ys.length by omega)]; rfl,rfl⟩
theorem cheaper_ok {main:Bool} {T:Goroutine->Hp->Prop} (hT:Shut Tryz.prog main T) {gm:Nat->Option Nat} {j j2:Nat} {xs ys:List Int} {e1 e2:TypeId} {p q:Int} (hl:xs.length<=1000) :
  CallK Tryz.prog T gm 109 [.agg [.sl j 0 xs.length,intA p],.agg [.sl j2 0 ys.length,intA q]] [(j,.cells (xs.map intA) e1 false),(j2,.cells (ys.map intA) e2 false)] (fun r K'=>r=boolA (cheaperM (xs,p) (ys,q))/\K'=[(j,.cells (xs.map intA) e1 false),(j2,.cells (ys.map intA) e2 false)]):=by
 refine callK_in 24 hT Tryz.func109 fun Y hret=>?_
 refine au [4,5,21] ?_
 intro jx1 hjx1
 refine au [21] ?_
 intro jx2 hjx2
 refine au [2,3,4,5,7,9,7,9,6,1] ?_
 refine TK.sp 10 (fun g1_6=>?_) (fun g1_6=>?_)
 ·refine au [11,11,11,11,11,11,11,11,11,11,11,11,26,2,3] ?_
  refine TK.rt hret [(j,_),(j2,_)] ?_
  exact ⟨by simp at g1_6; simp [cheaperM,g1_6],rfl⟩
 refine au [7,9,7,9,6,1] ?_
 refine TK.sp 16 (fun g1_12=>?_) (fun g1_12=>?_)
 ·refine au [7,9,7,9] ?_
  refine TK.cl rfl rfl rfl rfl (smaller_ok hT hl) ?_
  rintro r1 K2 ⟨rfl,rfl⟩
  refine au [26,25,2,3] ?_
  refine TK.rt hret [(j,_),(j2,_)] ?_
  exact ⟨by simp at g1_6 g1_12; simp [cheaperM,g1_12],rfl⟩
 refine au [11,11,11,11,11,25,25,2,3] ?_
 refine TK.rt hret [(j,_),(j2,_)] ?_
 exact ⟨by simp at g1_6 g1_12; simp [cheaperM,g1_12]; omega,rfl⟩
theorem shorter_ok {main:Bool} {T:Goroutine->Hp->Prop} (hT:Shut Tryz.prog main T) {gm:Nat->Option Nat} {j j2:Nat} {xs ys:List Int} {e1 e2:TypeId} {p q:Int} (hl:xs.length<=1000) :
  CallK Tryz.prog T gm 113 [.agg [.sl j 0 xs.length,intA p],.agg [.sl j2 0 ys.length,intA q]] [(j,.cells (xs.map intA) e1 false),(j2,.cells (ys.map intA) e2 false)] (fun r K'=>r=boolA (shorterM (xs,p) (ys,q))/\K'=[(j,.cells (xs.map intA) e1 false),(j2,.cells (ys.map intA) e2 false)]):=by
 refine callK_in 10 hT Tryz.func113 fun Y hret=>?_
 refine au [4,5,21] ?_
 intro jx1 hjx1
 refine au [21] ?_
 intro jx2 hjx2
 refine au [2,3,4,5,7,9,7,9] ?_
 refine TK.cl rfl rfl rfl rfl (smaller_ok hT hl) ?_
 rintro r1 K2 ⟨rfl,rfl⟩
 refine au [2,3] ?_
 refine TK.rt hret [(j,_),(j2,_)] ?_
 exact ⟨rfl,rfl⟩
end Go.Vel
namespace Go.Vel
open Go Go.Conc
theorem lex_anti:∀ (x y:List Int),lexM x y = -lexM y x
 | [],[]=>rfl
 | [],_::_=>rfl
 | _::_,[]=>rfl
 | a::x,b::y=>by
  have:=lex_anti x y
  simp only [lexM]
  by_cases h1:a<b
  ·rw [if_pos h1,if_neg oQ,if_pos h1]
  ·rw [if_neg h1]
   by_cases h2:b<a
   ·rw [if_pos h2,if_pos h2]; rfl
   ·rw [if_neg h2,if_neg h2,if_neg h1,this]
theorem lex_zero:∀ (x y:List Int),lexM x y=0->x=y
 | [],[],_=>rfl
 | [],_::_,h=>by cases h
 | _::_,[],h=>by cases h
 | a::x,b::y,h=>by
  simp only [lexM] at h
  split at h
  ·cases h
  ·split at h
   ·cases h
   ·rw [show a=b by omega,lex_zero x y h]
theorem lex_self:∀ x:List Int,lexM x x=0
 | []=>rfl
 | a::x=>by simp only [lexM]; rw [if_neg oQ,if_neg oQ]; exact lex_self x
theorem lex_trans:∀ (x y z:List Int),lexM x y<0->lexM y z<0->lexM x z<0
 | [],[],z,h,_=>by simp [lexM] at h
 | [],_::_,[],_,h=>by simp [lexM] at h
 | [],_::_,_::_,_,_=>by simp [lexM]
 | _::_,[],_,h,_=>by simp [lexM] at h
 | _::_,_::_,[],_,h=>by simp [lexM] at h
 | a::x,b::y,c::z,h1,h2=>by
  simp only [lexM] at h1 h2 ⊢
  by_cases q1:a<b
  ·by_cases q2:b<c
   ·rw [if_pos oQ]; omega
   ·rw [if_neg q2] at h2
    by_cases q3:c<b
    ·rw [if_pos q3] at h2; omega
    ·rw [if_pos oQ]; omega
  ·rw [if_neg q1] at h1
   by_cases q4:b<a
   ·rw [if_pos q4] at h1; omega
   ·rw [if_neg q4] at h1
    by_cases q2:b<c
    ·rw [if_pos oQ]; omega
    ·rw [if_neg q2] at h2
     by_cases q3:c<b
     ·rw [if_pos q3] at h2; omega
     ·rw [if_neg q3] at h2
      rw [if_neg oQ,if_neg oQ]
      exact lex_trans x y z h1 h2
theorem smaller_iff (x y:List Int):smallerM x y=true↔x.length<y.length\/(x.length=y.length/\lexM x y<0):=by
 unfold smallerM
 simp
theorem smaller_trans {x y z:List Int} (h1:smallerM x y=true) (h2:smallerM y z=true):smallerM x z=true:=by
 rw [smaller_iff] at *
 rcases h1 with h1 | ⟨h1,h3⟩ <;> rcases h2 with h2 | ⟨h2,h4⟩
 ·left; omega
 ·left; omega
 ·left; omega
 ·right; exact ⟨by omega,lex_trans x y z h3 h4⟩
theorem smaller_tot (x y:List Int):x=y\/smallerM x y=true\/smallerM y x=true:=by
 by_cases h1:x.length<y.length
 ·right; left; rw [smaller_iff]; exact .inl h1
 ·by_cases h2:y.length<x.length
  ·right; right; rw [smaller_iff]; exact .inl h2
  ·have e:x.length=y.length:=by omega
   have ha:=lex_anti x y
   by_cases h3:lexM x y=0
   ·exact .inl (lex_zero x y h3)
   ·by_cases h4:lexM x y<0
    ·right; left; rw [smaller_iff]; exact .inr ⟨e,h4⟩
    ·right; right; rw [smaller_iff]; exact .inr ⟨e.symm,by omega⟩
theorem smaller_anti {x y:List Int} (h:smallerM x y=true):smallerM y x=false:=by
 cases h2:smallerM y x with
 | false=>rfl
 | true =>
  rw [smaller_iff] at h h2
  have:=lex_anti x y
  omega
theorem cheaper_iff (p q:List Int×Int):cheaperM p q=true↔p.2<q.2\/(p.2=q.2/\smallerM p.1 q.1=true):=by
 unfold cheaperM
 simp
theorem cheaper_trans (p q r:List Int×Int) (h1:cheaperM p q=true) (h2:cheaperM q r=true):cheaperM p r=true:=by
 rw [cheaper_iff] at *
 rcases h1 with h1 | ⟨h1,h3⟩ <;> rcases h2 with h2 | ⟨h2,h4⟩
 ·left; omega
 ·left; omega
 ·left; omega
 ·right; exact ⟨by omega,smaller_trans h3 h4⟩
theorem cheaper_tot (p q:List Int×Int):p=q\/cheaperM p q=true\/cheaperM q p=true:=by
 by_cases h1:p.2<q.2
 ·right; left; rw [cheaper_iff]; exact .inl h1
 ·by_cases h2:q.2<p.2
  ·right; right; rw [cheaper_iff]; exact .inl h2
  ·rcases smaller_tot p.1 q.1 with h | h | h
   ·left; exact Prod.ext h oQ
   ·right; left; rw [cheaper_iff]; exact .inr ⟨by omega,h⟩
   ·right; right; rw [cheaper_iff]; exact .inr ⟨by omega,h⟩
theorem shorter_trans (p q r:List Int×Int) (h1:shorterM p q=true) (h2:shorterM q r=true):shorterM p r=true:=smaller_trans h1 h2
theorem alloc_bd {b:RBk} (hb:ROk b) {l:List Int} (hl:CutsOk b l):∀ (o:List Int) (z:Alloc),(∀ k∈o,0<=k/\k<l.length)->0<=z.left->(∀ k,0<=z.steps.getD k 0/\z.steps.getD k 0<=9)->∀ k,0<=(o.foldl (allocM b l) z).steps.getD k 0/\(o.foldl (allocM b l) z).steps.getD k 0<=9
 | [],z,_,_,h=>h
 | k0::o,z,ho,hz,h=>by
  rw [List.foldl_cons]
  have h0:=ho k0 sQ
  have hf:=hb.sms.fld _ (hl.lt (k:=k0.toNat) oQ).2.2
  have key:∀ (v:Int),0<=v->v<=9->∀ k,0<=(z.steps.set k0.toNat v).getD k 0/\(z.steps.set k0.toNat v).getD k 0<=9:=fun v h1 h2 k=>by
   have hk:=h k
   rw [List.getD_eq_getElem?_getD] at hk
   rw [List.getD_eq_getElem?_getD,List.getElem?_set]
   split
   ·split
    ·simp only [Option.getD_some]; omega
    ·simp
   ·exact hk
  refine alloc_bd hb hl o _ (fun k hk=>ho k (by simp [hk])) ?_ (key (min z.left (sm b (cutN l k0.toNat).toNat).most) oQ oQ)
  show 0<=z.left - min z.left (sm b (cutN l k0.toNat).toNat).most
  omega
end Go.Vel
namespace Go.Vel
open Go Go.Conc Go.Proofs
theorem bar2_0r {x y:Int} (h:bar2 x y=0):y=0:=by
 have:=bar2_0 h
 rwa [bar2_r this] at h
theorem bits_mem {c:Nat}:∀ (i:Nat) (x:Int),x∈bitsM c i->0<=x/\x<i
 | 0,x,h=>by cases h
 | i+1,x,h=>by
  unfold bitsM at h
  rcases List.mem_append.1 h with h | h
  ·have:=bits_mem i x h; omega
  ·split at h
   ·rw [List.mem_singleton.1 h]; omega
   ·cases h
theorem bits_asc {c:Nat}:∀ i,(bitsM c i).Pairwise (· < ·)
 | 0=>.nil
 | i+1=>by
  unfold bitsM
  refine List.pairwise_append.2 ⟨bits_asc i,?_,fun x hx y hy=>?_⟩
  ·split <;> simp
  ·have:=bits_mem i x hx
   split at hy
   ·rw [List.mem_singleton.1 hy]; omega
   ·cases hy
theorem bits_cuts {b:RBk} (hb:ROk b) {c:Nat} (h0:0<c) (hc:c<2 ^ b.seams.length):CutsOk b (bitsM c b.seams.length):=by
 have h5:=hb.sms.len
 refine ⟨?_,fun n hn=>bits_mem _ n hn,bits_asc _⟩
 rcases Nat.eq_zero_or_pos (bitsM c b.seams.length).length with h | h
 ·have:=bitsM_nil h5.2 hc (List.length_eq_zero_iff.1 h); omega
 ·exact h
theorem bits_inj {m c d:Nat} (hm:m<=5) (hc:c<2 ^ m) (hd:d<2 ^ m) (h:bitsM c m=bitsM d m):c=d:=by
 have key:∀ (m:Fin 6) (c d:Fin 32),c.1<2 ^ m.1->d.1<2 ^ m.1->bitsM c.1 m.1=bitsM d.1 m.1->c.1=d.1:=by decide +kernel
 have:2 ^ m<=2 ^ 5:=Nat.pow_le_pow_right dQ hm
 exact key ⟨m,by omega⟩ ⟨c,by omega⟩ ⟨d,by omega⟩ hc hd h
theorem plan_with {Ψ:Goroutine->World->Prop} {gm:Nat->Option Nat} {b:RBk} {s h e a:Nat} {all:List (List Int)} {gF:FuncId} {bt:List Int×Int->List Int×Int->Bool} (hb:ROk b) (ha:okAll b all) (hn:all.length<=243) (h0:0<all.length)
  (htr:∀ p q r,bt p q=true->bt q r=true->bt p r=true) (htot:∀ b1 c1,0<b1->b1<2 ^ b.seams.length->0<c1->c1<2 ^ b.seams.length->(bitsM b1 b.seams.length,sqHi b all (bitsM b1 b.seams.length))=(bitsM c1 b.seams.length,sqHi b all (bitsM c1 b.seams.length))\/bt (bitsM b1 b.seams.length,sqHi b all (bitsM b1 b.seams.length)) (bitsM c1 b.seams.length,sqHi b all (bitsM c1 b.seams.length))=true\/bt (bitsM c1 b.seams.length,sqHi b all (bitsM c1 b.seams.length)) (bitsM b1 b.seams.length,sqHi b all (bitsM b1 b.seams.length))=true)
  (hbt:∀ {T:Goroutine->Hp->Prop},Shut Tryz.prog false T->∀ (jr:Nat) (cs:List Int) (cost:Int) (cs0:List Int) (cost0:Int) (j0:Nat) (e0:TypeId),cs.length<=5->CallFK Tryz.prog T gm (.fn gF [] []) [.agg [.sl jr 0 cs.length,.v (.int .i64 cost)],.agg [.sl j0 0 cs0.length,.v (.int .i64 cost0)]] [(jr,.cells (cs.map fun a=>.v (.int .i64 a)) 3 false),(j0,.cells (cs0.map fun a=>.v (.int .i64 a)) e0 false)] (fun r K'=>r=.v (.bool (bt (cs,cost) (cs0,cost0)))/\K'=[(jr,.cells (cs.map fun a=>.v (.int .i64 a)) 3 false),(j0,.cells (cs0.map fun a=>.v (.int .i64 a)) e0 false)])) :
  CallK Tryz.prog (BT Tryz.prog Ψ) gm 108 [.agg (knownC b s h e a all.length),.fn gF [] []] [(s,seamO b),(a,allO all)] (fun r K'=>PlanR [(s,seamO b),(a,allO all)] b.seams.length bt (fun c=>sqHi b all (bitsM c b.seams.length)) (fun c=>sqOk b all (bitsM c b.seams.length)) r K'):=by
 refine plan_ok (lw:=fun c=>sqLo b all (bitsM c b.seams.length)) hb.sms.len (fun z hz=>?_) htr (fun b1 c1 h1 h2 h3 h4 _ _=>htot b1 c1 h1 h2 h3 h4) (fun c hc0 hc1 jr T hT=>?_) hbt
 ·simp only [List.mem_cons,List.not_mem_nil,or_false] at hz
  rcases hz with rfl | rfl
  ·refine ⟨_,_,fun e=>?_,rfl⟩
   have:=congrArg List.length e
   rw [flat_len seamC 5 (fun _=>rfl)] at this
   have h1:=hb.sms.len
   have:b.seams.length*5=0:=this
   omega
  ·refine ⟨_,_,fun e=>?_,rfl⟩
   have:=congrArg List.length e
   rw [flat_len stC 5 (fun _=>rfl)] at this
   have:all.length*5=0:=this
   omega
 ·exact squares_ok hT (j:=jr) (et:=3) hb (bits_cuts hb hc0 hc1) ha hn h0
def canM (b:RBk) (l:List Int):Int:=if (waysM b (statesM b) l).length=(statesM b).length then 1 else if (waysM b (statesM b) l).length=0 then 2 else 0
theorem sq_none {b:RBk} {all:List (List Int)} {l:List Int} (h:sqOk b all l=false):sqLo b all l=0/\sqHi b all l=0:=by
 unfold sqOk at h
 unfold sqLo sqHi
 cases hh:squaresM b all l with
 | none=>exact ⟨rfl,rfl⟩
 | some z=>rw [hh] at h; cases h
def newM (b:RBk):Int×Int:=spreadM ((statesM b).map (freshM b))
instance:Cal Tryz.prog 107:=⟨by kernel_rfl⟩
instance:Cal Tryz.prog 91:=⟨by kernel_rfl⟩
instance:TyZ Tryz.prog 116 [.nilFunc]:=⟨by kernel_rfl⟩
theorem cut_ok {main:Bool} {T:Goroutine->Hp->Prop} (hT:Shut Tryz.prog main T)  {b:RBk} {s h e j:Nat} {l:List Int} {et:TypeId} (hl:b.seams.length<=100) (hm:b.measures.length<=100) (hll:l.length<=1000) :
  CallK Tryz.prog T gmR 20 [.agg (rollC b s h e),.sl j 0 l.length] [(0,checksG),(s,seamO b),(h,shrO b),(e,measO b),(j,.cells (l.map intA) et false)] (fun r K'=>(bar2 (checkM b) (cutsM b l)≠0/\r=.tup [.v (.slice none 0 0),intA (bar2 (checkM b) (cutsM b l))]/\K'=[(0,checksG),(s,seamO b),(h,shrO b),(e,measO b),(j,.cells (l.map intA) et false)])\/(bar2 (checkM b) (cutsM b l)=0/\∃ jr,r=.tup [.row jr l.length,intA 0]/\K'=(jr,.row ((stripsM b l).flatMap pairC) 96 2)::[(0,checksG),(s,seamO b),(h,shrO b),(e,measO b),(j,.cells (l.map intA) et false)])):=by
 refine callK_in 22 hT Tryz.func20 fun Y hret=>?_
 refine au [4,5,21] ?_
 intro jb hjb
 refine au [2,2,3,4,5,8,1,32] ?_
 refine TK.newR rfl rfl rfl (n_buildSlice (l:=[_]) rfl SlEl.h TyZ.h dQ dQ rfl) (fun _=>putS rfl (by simp only [List.set]; rfl)) fun ja hja=>?_
 refine TK.cl rfl rfl rfl rfl (opened1_ok hT (Kx:=[(j,.cells (l.map intA) et false)]) (p1:=cutsM b l) hl hm (fun h0=>callFK_fn Cal.h ((cutsBar_ok hT (check_ok0 h0).sms.len.2 hll).frameP (R:=[(s,seamO b)]) (List.Perm.swap _ _ _)))) ?_
 rintro r1 K2 h3
 rcases h3 with ⟨⟨hbar,rfl⟩ | ⟨hbar,rfl⟩,rfl⟩
 ·refine au [1,10,10,22] ?_
  intro j6 hj6
  refine au [17,2,3,4,4,5,1,6,3,20] ?_
  refine ⟨fun hc0=>?_,fun hc0=>?_⟩
  ·exact absurd hc0 sQ
  have hbb:=check_ok0 (bar2_0 hbar)
  have hcc:=cuts_ok0 (bar2_0r hbar)
  refine au [12,4,5,8,1] ?_
  refine TK.cl rfl rfl rfl rfl (strips_ok hT hbb hcc) ?_
  rintro r4 K5 ⟨jr,rfl,rfl⟩
  refine au [2,2,3] ?_
  refine TK.rt hret [(jr,_),(0,_),(s,_),(h,_),(e,_),(j,_)] ?_
  exact .inr ⟨hbar,jr,rfl,rfl⟩
 ·refine au [1,10,10,22] ?_
  intro j6 hj6
  refine au [17,2,3,4,4,5,1,6,3,20] ?_
  refine ⟨fun hc0=>?_,fun hc0=>?_⟩
  ·
   refine au [4,5,1,2,2,3] ?_
   refine TK.rt hret [(0,_),(s,_),(h,_),(e,_),(j,_)] ?_
   exact .inl ⟨hbar,rfl,rfl⟩
  exact absurd hbar (by simpa using hc0)
theorem fitsApi_ok {main:Bool} {T:Goroutine->Hp->Prop} (hT:Shut Tryz.prog main T)  {b:RBk} {s h e j:Nat} {l:List Int} {et:TypeId} (hl:b.seams.length<=100) (hm:b.measures.length<=100) (hll:l.length<=1000) :
  CallK Tryz.prog T gmR 22 [.agg (rollC b s h e),.sl j 0 l.length] [(0,checksG),(s,seamO b),(h,shrO b),(e,measO b),(j,.cells (l.map intA) et false)] (fun r K'=>r=.tup [boolA (decide (bar2 (checkM b) (cutsM b l)=0)&&fitsM b l),intA (bar2 (checkM b) (cutsM b l))]/\K'=[(0,checksG),(s,seamO b),(h,shrO b),(e,measO b),(j,.cells (l.map intA) et false)]):=by
 refine callK_in 22 hT Tryz.func22 fun Y hret=>?_
 refine au [4,5,21] ?_
 intro jb hjb
 refine au [2,2,3,4,5,8,1,32] ?_
 refine TK.newR rfl rfl rfl (n_buildSlice (l:=[_]) rfl SlEl.h TyZ.h dQ dQ rfl) (fun _=>putS rfl (by simp only [List.set]; rfl)) fun ja hja=>?_
 refine TK.cl rfl rfl rfl rfl (opened1_ok hT (Kx:=[(j,.cells (l.map intA) et false)]) (p1:=cutsM b l) hl hm (fun h0=>callFK_fn Cal.h ((cutsBar_ok hT (check_ok0 h0).sms.len.2 hll).frameP (R:=[(s,seamO b)]) (List.Perm.swap _ _ _)))) ?_
 rintro r1 K2 h3
 rcases h3 with ⟨⟨hbar,rfl⟩ | ⟨hbar,rfl⟩,rfl⟩
 ·refine au [1,10,10,22] ?_
  intro j6 hj6
  refine au [17,2,3,4,4,5,1,6,3,20] ?_
  refine ⟨fun hc0=>?_,fun hc0=>?_⟩
  ·exact absurd hc0 sQ
  have hbb:=check_ok0 (bar2_0 hbar)
  have hcc:=cuts_ok0 (bar2_0r hbar)
  refine au [12,4,5,8,1] ?_
  refine TK.cl rfl rfl rfl rfl (fits_ok hT hbb hcc) ?_
  rintro r4 K5 ⟨rfl,rfl⟩
  refine au [2,2,3] ?_
  refine TK.rt hret [(0,_),(s,_),(h,_),(e,_),(j,_)] ?_
  exact ⟨by rw [hbar]; simp,rfl⟩
 ·refine au [1,10,10,22] ?_
  intro j6 hj6
  refine au [17,2,3,4,4,5,1,6,3,20] ?_
  refine ⟨fun hc0=>?_,fun hc0=>?_⟩
  ·
   refine au [4,5,1,2,2,3] ?_
   refine TK.rt hret [(0,_),(s,_),(h,_),(e,_),(j,_)] ?_
   exact ⟨by rw [decide_eq_false hbar]; rfl,rfl⟩
  exact absurd hbar (by simpa using hc0)
theorem can_ok {main:Bool} {T:Goroutine->Hp->Prop} (hT:Shut Tryz.prog main T)  {b:RBk} {s h e j:Nat} {l:List Int} {et:TypeId} (hl:b.seams.length<=100) (hm:b.measures.length<=100) (hll:l.length<=1000) :
  CallK Tryz.prog T gmR 70 [.agg (rollC b s h e),.sl j 0 l.length] [(0,checksG),(s,seamO b),(h,shrO b),(e,measO b),(j,.cells (l.map intA) et false)] (fun r K'=>(bar2 (checkM b) (cutsM b l)≠0/\r=.tup [intA 0,intA (bar2 (checkM b) (cutsM b l))]/\K'=[(0,checksG),(s,seamO b),(h,shrO b),(e,measO b),(j,.cells (l.map intA) et false)])\/(bar2 (checkM b) (cutsM b l)=0/\statesM b=[]/\r=.tup [intA 0,intA 9]/\K'=[(0,checksG),(s,seamO b),(h,shrO b),(e,measO b),(j,.cells (l.map intA) et false)])\/(bar2 (checkM b) (cutsM b l)=0/\statesM b≠[]/\r=.tup [intA (canM b l),intA 0]/\K'=[(0,checksG),(s,seamO b),(h,shrO b),(e,measO b),(j,.cells (l.map intA) et false)])):=by
 refine callK_in 30 hT Tryz.func70 fun Y hret=>?_
 refine au [4,5,21] ?_
 intro jb hjb
 refine au [2,2,3,4,5,8,1,32] ?_
 refine TK.newR rfl rfl rfl (n_buildSlice (l:=[_]) rfl SlEl.h TyZ.h dQ dQ rfl) (fun _=>putS rfl (by simp only [List.set]; rfl)) fun ja hja=>?_
 refine TK.cl rfl rfl rfl rfl (known1_ok hT (Kx:=[(j,.cells (l.map intA) et false)]) (p1:=cutsM b l) (fun h0=>callFK_fn Cal.h ((cutsBar_ok hT (check_ok0 h0).sms.len.2 hll).frameP (R:=[(s,seamO b)]) (List.Perm.swap _ _ _))) hl hm) ?_
 rintro r1 K2 h3
 rcases h3 with ⟨hbar,rfl,rfl⟩ | ⟨hbar,hnil,rfl,rfl⟩ | ⟨hbar,hne,a,rfl,rfl⟩
 ·refine au [1,10,10,22] ?_
  intro j6 hj6
  refine au [17,2,3,4,4,5,1,6,3,20] ?_
  refine ⟨fun hc0=>?_,fun hc0=>?_⟩
  ·
   refine au [4,5,1,2,2,3] ?_
   refine TK.rt hret [(0,_),(s,_),(h,_),(e,_),(j,_)] ?_
   exact .inl ⟨hbar,rfl,rfl⟩
  exact absurd hbar (by simpa using hc0)
 ·refine au [1,10,10,22] ?_
  intro j6 hj6
  refine au [17,2,3,4,4,5,1,6,3,20] ?_
  refine ⟨fun hc0=>?_,fun hc0=>?_⟩
  ·
   refine au [4,5,1,2,2,3] ?_
   refine TK.rt hret [(0,_),(s,_),(h,_),(e,_),(j,_)] ?_
   exact .inr (.inl ⟨hbar,hnil,rfl,rfl⟩)
  exact absurd hc0 dQ
 ·refine au [1,10,10,22] ?_
  intro j6 hj6
  refine au [17,2,3,4,4,5,1,6,3,20] ?_
  refine ⟨fun hc0=>?_,fun hc0=>?_⟩
  ·exact absurd hc0 sQ
  have hbb:=check_ok0 (bar2_0 hbar)
  have hcc:=cuts_ok0 (bar2_0r hbar)
  have hlen:=states_len hbb
  have hpos:0<(statesM b).length:=List.length_pos_iff.2 hne
  have hall:okAll b (statesM b):=fun st hst=>(states_mem hbb hst).1
  refine au [12,4,4,5,8,1] ?_
  refine TK.cl rfl rfl rfl rfl (ways_ok hT hbb hcc hall hlen) ?_
  rintro r4 K5 ⟨jr,ps,hps,rfl,rfl⟩
  refine au [] ?_
  have hpl:ps.length=(waysM b (statesM b) l).length:=by have:=congrArg List.length hps; rwa [List.length_map,List.length_map] at this
  refine au [28,3,13,4,5,7,9,28,6,2,3,20] ?_
  refine ⟨fun hc1=>?_,fun hc1=>?_⟩
  ·refine au [4,5,2,2,3] ?_
   refine TK.rt hret [(0,_),(s,_),(h,_),(e,_),(j,_)] ?_
   exact .inr (.inr ⟨hbar,hne,by unfold canM; rw [if_pos (by have:=eq_of_beq hc1; omega)],rfl⟩)
  refine au [4,5,6,2,3,20] ?_
  refine ⟨fun hc2=>?_,fun hc2=>?_⟩
  ·refine au [4,5,2,2,3] ?_
   refine TK.rt hret [(0,_),(s,_),(h,_),(e,_),(j,_)] ?_
   exact .inr (.inr ⟨hbar,hne,by unfold canM; rw [if_neg (by simp at hc1; omega),if_pos (by have:=eq_of_beq hc2; omega)],rfl⟩)
  refine au [12,14,4,5,2,2,3] ?_
  refine TK.rt hret [(0,_),(s,_),(h,_),(e,_),(j,_)] ?_
  exact .inr (.inr ⟨hbar,hne,by unfold canM; rw [if_neg (by simp at hc1; omega),if_neg (by rw [<- hpl]; simp at hc2; exact fun h=>hc2 (List.length_eq_zero_iff.1 h))],rfl⟩)
theorem squaresApi_ok {main:Bool} {T:Goroutine->Hp->Prop} (hT:Shut Tryz.prog main T)  {b:RBk} {s h e j:Nat} {l:List Int} {et:TypeId} (hl:b.seams.length<=100) (hm:b.measures.length<=100) (hll:l.length<=1000) :
  CallK Tryz.prog T gmR 54 [.agg (rollC b s h e),.sl j 0 l.length] [(0,checksG),(s,seamO b),(h,shrO b),(e,measO b),(j,.cells (l.map intA) et false)] (fun r K'=>(bar2 (checkM b) (cutsM b l)≠0/\r=.tup [.agg [intA 0,intA 0],intA (bar2 (checkM b) (cutsM b l))]/\K'=[(0,checksG),(s,seamO b),(h,shrO b),(e,measO b),(j,.cells (l.map intA) et false)])\/(bar2 (checkM b) (cutsM b l)=0/\statesM b=[]/\r=.tup [.agg [intA 0,intA 0],intA 9]/\K'=[(0,checksG),(s,seamO b),(h,shrO b),(e,measO b),(j,.cells (l.map intA) et false)])\/(bar2 (checkM b) (cutsM b l)=0/\statesM b≠[]/\r=.tup [.agg [intA (sqLo b (statesM b) l),intA (sqHi b (statesM b) l)],intA (if sqOk b (statesM b) l=true then 0 else 8)]/\K'=[(0,checksG),(s,seamO b),(h,shrO b),(e,measO b),(j,.cells (l.map intA) et false)])):=by
 refine callK_in 32 hT Tryz.func54 fun Y hret=>?_
 refine au [4,5,21] ?_
 intro jb hjb
 refine au [22] ?_
 intro jr hjr
 refine au [2,3,4,5,8,1,32] ?_
 refine TK.newR rfl rfl rfl (n_buildSlice (l:=[_]) rfl SlEl.h TyZ.h dQ dQ rfl) (fun _=>putS rfl (by simp only [List.set]; rfl)) fun ja hja=>?_
 refine TK.cl rfl rfl rfl rfl (known1_ok hT (Kx:=[(j,.cells (l.map intA) et false)]) (p1:=cutsM b l) (fun h0=>callFK_fn Cal.h ((cutsBar_ok hT (check_ok0 h0).sms.len.2 hll).frameP (R:=[(s,seamO b)]) (List.Perm.swap _ _ _))) hl hm) ?_
 rintro r1 K2 h3
 rcases h3 with ⟨hbar,rfl,rfl⟩ | ⟨hbar,hnil,rfl,rfl⟩ | ⟨hbar,hne,a,rfl,rfl⟩
 ·refine au [1,10,10,22] ?_
  intro j6 hj6
  refine au [17,2,3,4,4,5,1,6,3,20] ?_
  refine ⟨fun hc0=>?_,fun hc0=>?_⟩
  ·
   refine au [4,5,39,1,17,2,3] ?_
   refine TK.rt hret [(0,_),(s,_),(h,_),(e,_),(j,_)] ?_
   exact .inl ⟨hbar,rfl,rfl⟩
  exact absurd hbar (by simpa using hc0)
 ·refine au [1,10,10,22] ?_
  intro j6 hj6
  refine au [17,2,3,4,4,5,1,6,3,20] ?_
  refine ⟨fun hc0=>?_,fun hc0=>?_⟩
  ·
   refine au [4,5,39,1,17,2,3] ?_
   refine TK.rt hret [(0,_),(s,_),(h,_),(e,_),(j,_)] ?_
   exact .inr (.inl ⟨hbar,hnil,rfl,rfl⟩)
  exact absurd hc0 dQ
 ·refine au [1,10,10,22] ?_
  intro j6 hj6
  refine au [17,2,3,4,4,5,1,6,3,20] ?_
  refine ⟨fun hc0=>?_,fun hc0=>?_⟩
  ·exact absurd hc0 sQ
  have hbb:=check_ok0 (bar2_0 hbar)
  have hcc:=cuts_ok0 (bar2_0r hbar)
  have hlen:=states_len hbb
  have hpos:0<(statesM b).length:=List.length_pos_iff.2 hne
  have hall:okAll b (statesM b):=fun st hst=>(states_mem hbb hst).1
  refine au [12,4,5,8,1] ?_
  refine TK.cl rfl rfl rfl rfl (squares_ok hT hbb hcc hall hlen hpos) ?_
  rintro r4 K5 ⟨rfl,rfl⟩
  refine au [1,10,10,22] ?_
  intro j8 hj8
  refine au [17,2,3,4,4,5,1,30,3,20] ?_
  refine ⟨fun hc1=>?_,fun hc1=>?_⟩
  ·refine au [4,5,39,17,2,3] ?_
   refine TK.rt hret [(0,_),(s,_),(h,_),(e,_),(j,_)] ?_
   exact .inr (.inr ⟨hbar,hne,by obtain ⟨q1,q2⟩:=sq_none (b:=b) (all:=statesM b) (l:=l) (by simpa using hc1); rw [q1,q2,if_neg (by simpa using hc1)]; rfl,rfl⟩)
  refine au [12,4,5,8,17,2,3] ?_
  refine TK.rt hret [(0,_),(s,_),(h,_),(e,_),(j,_)] ?_
  exact .inr (.inr ⟨hbar,hne,by rw [if_pos (by simpa using hc1)]; rfl,rfl⟩)
theorem new_ok {main:Bool} {T:Goroutine->Hp->Prop} (hT:Shut Tryz.prog main T)  {b:RBk} {s h e:Nat} (hl:b.seams.length<=100) (hm:b.measures.length<=100) :
  CallK Tryz.prog T gmR 53 [.agg (rollC b s h e)] [(0,checksG),(s,seamO b),(h,shrO b),(e,measO b)] (fun r K'=>(checkM b≠0/\r=.tup [.agg [intA 0,intA 0],intA (checkM b)]/\K'=[(0,checksG),(s,seamO b),(h,shrO b),(e,measO b)])\/(checkM b=0/\statesM b=[]/\r=.tup [.agg [intA 0,intA 0],intA 9]/\K'=[(0,checksG),(s,seamO b),(h,shrO b),(e,measO b)])\/(checkM b=0/\statesM b≠[]/\r=.tup [.agg [intA (newM b).1,intA (newM b).2],intA 0]/\K'=[(0,checksG),(s,seamO b),(h,shrO b),(e,measO b)])):=by
 refine callK_in 39 hT Tryz.func53 fun Y hret=>?_
 refine au [4,5,21] ?_
 intro jb hjb
 refine au [22] ?_
 intro jr hjr
 refine au [2,3,4,5,8] ?_
 refine TK.cl rfl rfl rfl rfl (known0_ok hT (Kx:=[]) hl hm) ?_
 rintro r1 K2 h3
 rcases h3 with ⟨hbar,rfl,rfl⟩ | ⟨hbar,hnil,rfl,rfl⟩ | ⟨hbar,hne,a,rfl,rfl⟩
 ·refine au [1,10,10,22] ?_
  intro j4 hj4
  refine au [17,2,3,4,4,5,1,6,3,20] ?_
  refine ⟨fun hc0=>?_,fun hc0=>?_⟩
  ·
   refine au [4,5,39,1,17,2,3] ?_
   refine TK.rt hret [(0,_),(s,_),(h,_),(e,_)] ?_
   exact .inl ⟨hbar,rfl,rfl⟩
  exact absurd hbar (by simpa using hc0)
 ·refine au [1,10,10,22] ?_
  intro j4 hj4
  refine au [17,2,3,4,4,5,1,6,3,20] ?_
  refine ⟨fun hc0=>?_,fun hc0=>?_⟩
  ·
   refine au [4,5,39,1,17,2,3] ?_
   refine TK.rt hret [(0,_),(s,_),(h,_),(e,_)] ?_
   exact .inr (.inl ⟨hbar,hnil,rfl,rfl⟩)
  exact absurd hc0 dQ
 ·refine au [1,10,10,22] ?_
  intro j4 hj4
  refine au [17,2,3,4,4,5,1,6,3,20] ?_
  refine ⟨fun hc0=>?_,fun hc0=>?_⟩
  ·exact absurd hc0 sQ
  have hbb:=check_ok0 hbar
  have hlen:=states_len hbb
  have hpos:0<(statesM b).length:=List.length_pos_iff.2 hne
  have hall:okAll b (statesM b):=fun st hst=>(states_mem hbb hst).1
  refine au [12,4,5,2] ?_
  refine TK.virt 6 3 1 rfl fun jt0 hjt0=>?_
  refine au [3,4,4,5,7,9,28,1,3,13] ?_
  refine TK.maskL [2,3,4,6,19,20,21] ?_
  refine TK.kp [(a,_),(0,_),(s,_),(h,_),(e,_),(j4,_),(jr,_),(jt0,_)] ?_
  refine TK.loopN (fun n env K=>∃ (i jt:Nat),n=(statesM b).length - i/\i<=(statesM b).length/\env=[.any,.any,.ptr jr 0,intA 0,.ptr j4 0,.any,.row jt i,.any,.any,.any,.any,.any,.any,.any,.any,.any,.any,.any,.any,.sl a 0 (statesM b).length,intA (statesM b).length,intA i,.any,.any,.any,.any,.any,.any,.any,.any,.any,.any,.any,.any,.any,.any,.any,.any,.any]/\K=[(a,allO (statesM b)),(0,checksG),(s,seamO b),(h,shrO b),(e,measO b),(j4,.cells (knownC b s h e a (statesM b).length) 139 true),(jr,.cells [intA 0,intA 0] 51 true),(jt,.row ((((statesM b).take i).map (freshM b)).map intA) 3 1)]) (statesM b).length ⟨0,jt0,rfl,Nat.zero_le _,rfl,rfl⟩ fun n env K hI hnext=>?_
  obtain ⟨i,jt,rfl,hi,rfl,rfl⟩:=hI
  refine au [4,5,6,3,4,20] ?_
  refine ⟨fun hc1=>?_,fun hc1=>?_⟩
  ·have hil:i<(statesM b).length:=by simp at hc1; omega
   obtain ⟨st,hst⟩:∃ st,(statesM b)[i]? =some st:=⟨_,List.getElem?_eq_getElem hil⟩
   have hsk:=hall st (List.mem_of_getElem? hst)
   refine au [12,4,13,4,5,36] ?_
   refine TK.a rfl (q_load rfl rfl TySz.h mQ (all_at (i:=i) hst rfl)) ?_
   refine au [22] ?_
   intro j8 hj8
   refine au [17,3,5,1,7,8,8] ?_
   refine TK.cl rfl rfl rfl rfl (fresh_ok hT hbb hsk) ?_ (hs:=(.none _))
   rintro r4 K5 ⟨rfl,rfl⟩
   refine au [] ?_
   refine TK.newR rfl rfl rfl (n_buildSlice (l:=[_]) rfl SlEl.h TyZ.h dQ dQ rfl) (fun _=>putS rfl (by simp only [List.set]; rfl)) fun j7 hj7=>?_
   refine TK.appR rfl rfl rfl (a_app rfl ApOf.h rfl mQ (by simp; omega) rfl (src_row (ln:=[_]) mQ dQ sQ rfl) oQ rfl (by unfold maxLen; omega) oQ) (fun _=>uQ) (fun _=>putS rfl (by simp only [List.set]; rfl)) fun jt2=>?_
   refine au [2,3,14,5,23,1,3] ?_
   refine TK.maskL [2,3,4,6,19,20,21] ?_
   refine TK.kp [(a,_),(0,_),(s,_),(h,_),(e,_),(j4,_),(jr,_),(jt2,_)] ?_
   exact hnext _ _ _ oQ ⟨i+1,jt2,rfl,by omega,rfl,by rw [take_snoc hst,List.map_append,List.map_append]; rfl⟩
  obtain rfl:i=(statesM b).length:=by simp at hc1; omega
  obtain ⟨x,xs,hxs⟩:∃ x xs,(statesM b).map (freshM b)=x::xs:=by
   cases hh:statesM b with
   | nil=>exact absurd hh hne
   | cons y r=>exact ⟨_,_,rfl⟩
  have hxl:(statesM b).length=xs.length+1:=by have:=congrArg List.length hxs; simpa using this
  rw [List.take_of_length_le (Nat.le_refl _),hxs,hxl]
  refine au [16,4] ?_
  refine TK.draw [0,1,2,3,4,5,6,7] [0,1,2,3,4,5,6,7] (by kernel_rfl) (by kernel_rfl) ?_
  refine TD.z [6] rfl (q_move rfl rfl) ?_
  refine TD.y [33] rfl (hq:=q_indexRow rfl rfl rfl SlEl.h (List.Mem.head _) oQ oQ) (h:=?_)
  refine TD.y [34] rfl (hq:=q_load1 rfl rfl TySz.h (List.Mem.head _) rfl) (h:=?_)
  refine TD.z [6] rfl (q_move rfl rfl) ?_
  refine TD.y [36] rfl (hq:=q_sliceRow rfl rfl SlEl.h (List.Mem.head _) rfl rfl oQ oQ rfl) (h:=?_)
  refine TD.cl (pend':=[⟨3,[6],[]⟩,⟨1,[33],[(_,_)]⟩,⟨0,[6],[]⟩]) [35,37] rfl rfl rfl rfl rfl (spread_ok hT (x:=x) (xs:=xs) (off:=1) (ob:=.row ((x::xs).map intA) 3 1) (fun i y hy=>rows_off (l:=x::xs) (i:=i+1) (by simpa using hy) oQ) oQ) (fun r8 K9 h10=>⟨?_,?_⟩)
  ·rcases h10 with ⟨rfl,rfl⟩
   all_goals simp
  obtain ⟨rfl,rfl⟩:=h10
  try simp only [List.cons_append,List.nil_append]
  refine TD.norm (by simp only [List.set]; rfl) ?_
  refine TD.s (pend':=[]) [2,38] rfl rfl (q_store rfl rfl TySz.h rfl rfl mQ rfl) ?_
  refine TD.as (pend':=[]) [] rfl rfl (q_assign rfl rfl) ?_
  refine TD.fin ?_
  refine au [] ?_
  refine TK.rt hret [(0,_),(s,_),(h,_),(e,_)] ?_
  exact .inr (.inr ⟨hbar,hne,by unfold newM; rw [hxs]; rfl,rfl⟩)
def atM (b:RBk) (l s w:List Int):Nat->Int
 | 0=>0
 | k+1=>atM b l s w k+(togM b s (cutN l k).toNat (cutN l (k+1) - cutN l k).toNat+w.getD (k+1) 0)
def placesM (b:RBk) (l s w:List Int):List Int:=(List.range l.length).map (atM b l s w)
theorem hang_w {b:RBk} (hb:ROk b) {l s w:List Int} {q:Int} (hl:CutsOk b l) (hs:StOk b s) (h:hangM b l s=some (w,q)):w.length=l.length/\∀ k,0<=w.getD k 0/\w.getD k 0<=9:=by
 unfold hangM at h
 split at h
 ·cases h
 ·dsimp only at h
  split at h
  ·cases h
  ·cases h
   have h0:=(fresh_bd hb hs).1
   unfold allocA
   refine ⟨by rw [alloc_len]; simp [alloc0],alloc_bd hb hl _ _ (fun k hk=>ord_mem hk) h0 fun k=>?_⟩
   show 0<=(List.replicate l.length (0:Int)).getD k 0/\_
   have:(alloc0 b l (freshM b s)).steps=List.replicate l.length 0:=rfl
   rw [this,List.getD_eq_getElem?_getD,List.getElem?_replicate]
   split <;> simp
theorem cut_lt {b:RBk} {l:List Int} (hl:CutsOk b l) {k:Nat} (h:k+1<l.length):cutN l k<cutN l (k+1):=by
 have e1:=cut_get (l:=l) (k:=k) oQ
 have e2:=cut_get h
 have:=List.pairwise_iff_getElem.1 hl.asc k (k+1) oQ h oQ
 rw [List.getElem?_eq_getElem oQ] at e1
 rw [List.getElem?_eq_getElem h] at e2
 rw [Option.some.inj e1,Option.some.inj e2] at this
 exact this
theorem at_bd {b:RBk} (hb:ROk b) {l s w:List Int} (hl:CutsOk b l) (hs:StOk b s) (hw:∀ k,0<=w.getD k 0/\w.getD k 0<=9):∀ k,k<l.length->0<=atM b l s w k/\atM b l s w k<=129*k
 | 0,_=>by simp [atM]
 | k+1,h=>by
  have h1:=at_bd hb hl hs hw k oQ
  have h2:=hw (k+1)
  have h3:=tog_bd hb hs (c:=(cutN l k).toNat) (cutN l (k+1) - cutN l k).toNat
  have h4:=hl.lt (k:=k) oQ
  have h5:=hl.lt h
  have h6:=hb.sms.len
  unfold atM
  omega
theorem short_tot {b:RBk} (hb:ROk b) {all:List (List Int)} (b1 c1:Nat) (h1:0<b1) (h2:b1<2 ^ b.seams.length) (h3:0<c1) (h4:c1<2 ^ b.seams.length):(bitsM b1 b.seams.length,sqHi b all (bitsM b1 b.seams.length))=(bitsM c1 b.seams.length,sqHi b all (bitsM c1 b.seams.length))\/shorterM (bitsM b1 b.seams.length,sqHi b all (bitsM b1 b.seams.length)) (bitsM c1 b.seams.length,sqHi b all (bitsM c1 b.seams.length))=true\/shorterM (bitsM c1 b.seams.length,sqHi b all (bitsM c1 b.seams.length)) (bitsM b1 b.seams.length,sqHi b all (bitsM b1 b.seams.length))=true:=by
 rcases smaller_tot (bitsM b1 b.seams.length) (bitsM c1 b.seams.length) with h | h | h
 ·left
  rw [bits_inj hb.sms.len.2 h2 h4 h]
 ·exact .inr (.inl h)
 ·exact .inr (.inr h)
def PlanA (b:RBk) (all:List (List Int)) (bt:List Int×Int->List Int×Int->Bool) (c:Nat):Prop:=0<c/\c<2 ^ b.seams.length/\sqOk b all (bitsM c b.seams.length)=true/\∀ d,0<d->d<2 ^ b.seams.length->sqOk b all (bitsM d b.seams.length)=true->(bitsM d b.seams.length,sqHi b all (bitsM d b.seams.length))=(bitsM c b.seams.length,sqHi b all (bitsM c b.seams.length))\/bt (bitsM c b.seams.length,sqHi b all (bitsM c b.seams.length)) (bitsM d b.seams.length,sqHi b all (bitsM d b.seams.length))=true
def NoPlan (b:RBk) (all:List (List Int)):Prop:=∀ d,0<d->d<2 ^ b.seams.length->sqOk b all (bitsM d b.seams.length)=false
def atRound (b:RBk) (r:Int):RBk:={ b with round:=r }
theorem atR_ok {b:RBk} (hb:ROk b) {r:Int} (h1:b.steps<=r) (h2:r<=40):ROk (atRound b r):=⟨⟨hb.rnd.steps,⟨h1,h2⟩,hb.rnd.roll,hb.rnd.rolls⟩,⟨hb.sms.len,hb.sms.fld,hb.sms.asc⟩,⟨hb.cls.len,hb.cls.bnd⟩,⟨hb.mes.len,hb.mes.bnd⟩⟩
theorem atR_all {b:RBk} {all:List (List Int)} (h:okAll b all) (r:Int):okAll (atRound b r) all:=fun s hs=>⟨(h s hs).len,(h s hs).bnd⟩
def canAt (b:RBk) (all:List (List Int)) (r:Int):Bool:=(List.range (2 ^ b.seams.length)).any fun c=>decide (0<c)&&sqOk (atRound b r) all (bitsM c b.seams.length)
def widestL (b:RBk) (all:List (List Int)):Nat->Option Int
 | 0=>none
 | k+1=>if canAt b all (b.steps+k)=true then some (b.steps+k) else widestL b all k
def widestM (b:RBk) (all:List (List Int)):Option Int:=widestL b all (41 - b.steps).toNat
theorem canAt_t {b:RBk} {all:List (List Int)} {r:Int} {c:Nat} (h0:0<c) (h1:c<2 ^ b.seams.length) (h:sqOk (atRound b r) all (bitsM c b.seams.length)=true):canAt b all r=true:=by
 unfold canAt
 rw [List.any_eq_true]
 exact ⟨c,List.mem_range.2 h1,by simp [h0,h]⟩
theorem canAt_f {b:RBk} {all:List (List Int)} {r:Int} (h:∀ c,0<c->c<2 ^ b.seams.length->sqOk (atRound b r) all (bitsM c b.seams.length)=false):canAt b all r=false:=by
 unfold canAt
 rw [List.any_eq_false]
 intro c hc
 by_cases h0:0<c
 ·rw [h c h0 (List.mem_range.1 hc)]; simp
 ·simp [h0]
instance:Cal Tryz.prog 101:=⟨by kernel_rfl⟩
instance:Cal Tryz.prog 108:=⟨by kernel_rfl⟩
instance:Cal Tryz.prog 109:=⟨by kernel_rfl⟩
instance:Cal Tryz.prog 113:=⟨by kernel_rfl⟩
instance:Cal Tryz.prog 99:=⟨by kernel_rfl⟩
theorem hangApi_ok {main:Bool} {T:Goroutine->Hp->Prop} (hT:Shut Tryz.prog main T)  {b:RBk} {s h e j j2:Nat} {l st:List Int} {et et2:TypeId} (hl:b.seams.length<=100) (hm:b.measures.length<=100) (hll:l.length<=1000) :
  CallK Tryz.prog T gmR 27 [.agg (rollC b s h e),.sl j 0 l.length,.sl j2 0 st.length] [(0,checksG),(s,seamO b),(h,shrO b),(e,measO b),(j,.cells (l.map intA) et false),(j2,.cells (st.map intA) et2 false)] (fun r K'=>(bar2 (checkM b) (bar2 (cutsM b l) (shM b st))≠0/\r=.tup [.v (.slice none 0 0),intA 0,boolA false,intA (bar2 (checkM b) (bar2 (cutsM b l) (shM b st)))]/\K'=[(0,checksG),(s,seamO b),(h,shrO b),(e,measO b),(j,.cells (l.map intA) et false),(j2,.cells (st.map intA) et2 false)])\/(bar2 (checkM b) (bar2 (cutsM b l) (shM b st))=0/\hangM b l st=none/\r=.tup [.v (.slice none 0 0),intA 0,boolA false,intA 0]/\K'=[(0,checksG),(s,seamO b),(h,shrO b),(e,measO b),(j,.cells (l.map intA) et false),(j2,.cells (st.map intA) et2 false)])\/(bar2 (checkM b) (bar2 (cutsM b l) (shM b st))=0/\∃ w q jw,hangM b l st=some (w,q)/\r=.tup [.sl jw 0 w.length,intA q,boolA true,intA 0]/\K'=(jw,.cells (w.map intA) 3 false)::[(0,checksG),(s,seamO b),(h,shrO b),(e,measO b),(j,.cells (l.map intA) et false),(j2,.cells (st.map intA) et2 false)])):=by
 refine callK_in 38 hT Tryz.func27 fun Y hret=>?_
 refine au [4,5,21] ?_
 intro jb hjb
 refine au [2,2,2,2,3,4,5,8,1,32,1,32] ?_
 refine TK.newR rfl rfl rfl (n_buildSlice (l:=[_,_]) rfl SlEl.h TyZ.h dQ dQ rfl) (fun _=>putS rfl (by simp only [List.set]; rfl)) fun ja hja=>?_
 refine TK.cl rfl rfl rfl rfl (opened2_ok hT (Kx:=[(j,.cells (l.map intA) et false),(j2,.cells (st.map intA) et2 false)]) (p1:=cutsM b l) (p2:=shM b st) hl hm (fun h0=>callFK_fn Cal.h ((cutsBar_ok hT (check_ok0 h0).sms.len.2 hll).frameP (R:=[(s,seamO b),(j2,.cells (st.map intA) et2 false)]) (List.Perm.swap _ _ _))) (fun h0=>callFK_fn Cal.h ((shBar_ok hT (check_ok0 h0).rnd (check_ok0 h0).sms).frameP (R:=[(j,.cells (l.map intA) et false)]) ((List.Perm.swap _ _ _).cons _)))) ?_
 rintro r1 K2 h3
 rcases h3 with ⟨⟨hbar,rfl⟩ | ⟨hbar,rfl⟩,rfl⟩
 ·refine au [1,10,10,22] ?_
  intro j6 hj6
  refine au [17,2,3,4,4,5,1,6,3,20] ?_
  refine ⟨fun hc0=>?_,fun hc0=>?_⟩
  ·exact absurd hc0 sQ
  have hbb:=check_ok0 (bar2_0 hbar)
  have hcc:=cuts_ok0 (bar2_0 (bar2_0r hbar))
  have hss:=sh_ok0 (bar2_0r (bar2_0r hbar))
  have h5:=hbb.sms.len
  have hsl:=hss.len
  refine au [12,4] ?_
  refine TK.draw [0,1,2,3,4,5,6,7,8,9,10] [0,1,2,3,4,5,6,8,9,7,10] (by kernel_rfl) (by kernel_rfl) ?_
  refine TD.y [10] rfl (hq:=q_load rfl rfl TySz.h (List.Mem.head _) rfl) (h:=?_)
  refine TD.z [1] rfl (q_move rfl rfl) ?_
  refine TD.z [2] rfl (q_move rfl rfl) ?_
  refine TD.c2 (i1:=3) (i2:=8) (pend1:=[⟨1,[1],[]⟩,⟨0,[10],[(_,_)]⟩]) (pend2:=[⟨2,[2],[]⟩,⟨1,[1],[]⟩,⟨0,[10],[(_,_)]⟩]) (L1:=[4,5,6,7,8,9,10]) (L2:=[3,4,5,6,7,9,10]) [28] [] rfl rfl rfl rfl rfl rfl rfl ?_ ?_
  ·refine exK_callO rfl rfl Cal.h rfl (stateOf_ok hT oQ oQ) (by repeat (first | exact Split.none _ | exact Split.all _ | (apply Split.rem; repeat (first | exact Rem.head | apply Rem.tail)) | apply Split.right)) fun r4 K5 h6=>⟨?_,?_⟩
   ·rcases h6 with ⟨rfl,rfl⟩
    all_goals simp
   obtain ⟨rfl,rfl⟩:=h6
   try simp only [List.cons_append,List.nil_append]
   refine TD.norm (env':=[_,_,_,_,_,_,_,_,_,_,_,_,_,_,_,_,_,_,_,_,_,_,_,_,_,_,_,_,_,_,_,_,_,_,_,_,_,_]) rfl ?_
   refine TD.c2 (i1:=4) (i2:=8) (pend1:=[]) (pend2:=[⟨1,[1],[]⟩,⟨0,[10],[(_,_)]⟩]) (L1:=[5,6,7,8,9,10]) (L2:=[4,5,6,7,9,10]) [26,27,29] [] rfl rfl rfl rfl rfl rfl rfl ?_ ?_
   ·refine exK_callO rfl rfl Cal.h rfl ((hang_ok hT hbb hcc hss).mono (fun _ _ h=>hangR_or h)) (by repeat (first | exact Split.none _ | exact Split.all _ | (apply Split.rem; repeat (first | exact Rem.head | apply Rem.tail)) | apply Split.right)) fun r7 K8 h9=>⟨?_,?_⟩
    ·rcases h9 with ⟨hno,rfl,rfl⟩ | ⟨w,q,jw,hso,rfl,rfl⟩
     all_goals simp
    rcases h9 with ⟨hno,rfl,rfl⟩ | ⟨w,q,jw,hso,rfl,rfl⟩
    ·try simp only [List.cons_append,List.nil_append]
     refine TD.norm (env':=[_,_,_,_,_,_,_,_,_,_,_,_,_,_,_,_,_,_,_,_,_,_,_,_,_,_,_,_,_,_,_,_,_,_,_,_,_,_]) rfl ?_
     refine TD.z [30] rfl (q_move rfl rfl) ?_
     refine TD.z [25] rfl (q_extract rfl rfl rfl) ?_
     refine TD.z [25] rfl (q_extract rfl rfl rfl) ?_
     refine TD.cnewP (pend':=[⟨7,[25],[]⟩,⟨6,[25],[]⟩,⟨5,[30],[]⟩]) [] rfl rfl rfl rfl rfl (n_allocA rfl TyZA.h) (fun _=>putS rfl (by simp only [List.set]; rfl)) sQ fun j8 hj8=>?_
     refine TD.s (pend':=[⟨7,[25],[]⟩]) [11,31] rfl rfl (q_store rfl rfl TySz.h rfl rfl mQ rfl) ?_
     refine TD.as (pend':=[]) [32] rfl rfl (q_assign rfl rfl) ?_
     refine TD.fin ?_
     refine au [4] ?_
     refine TK.draw [0,1,2,3,4,5,6,7,8] [0,1,5,2,3,6,4,7,8] (by kernel_rfl) (by kernel_rfl) ?_
     refine TD.z [11] rfl (q_fieldAddr rfl rfl FldOf.h dQ) ?_
     refine TD.y [33] rfl (hq:=q_load1 rfl rfl TySz.h (List.Mem.head _) rfl) (h:=?_)
     refine TD.z [11] rfl (q_fieldAddr rfl rfl FldOf.h dQ) ?_
     refine TD.y [35] rfl (hq:=q_load1 rfl rfl TySz.h (List.Mem.head _) rfl) (h:=?_)
     refine TD.z [8] rfl (q_move rfl rfl) ?_
     refine TD.as (pend':=[⟨4,[8],[]⟩,⟨3,[35],[(_,_)]⟩,⟨2,[11],[]⟩]) [34] rfl rfl (q_assign rfl rfl) ?_
     refine TD.as (pend':=[⟨4,[8],[]⟩]) [36] rfl rfl (q_assign rfl rfl) ?_
     refine TD.as (pend':=[]) [37] rfl rfl (q_assign rfl rfl) ?_
     refine TD.as (pend':=[]) [] rfl rfl (q_assign rfl rfl) ?_
     refine TD.fin ?_
     refine au [] ?_
     refine TK.rt hret [(0,_),(s,_),(h,_),(e,_),(j,_),(j2,_)] ?_
     exact .inr (.inl ⟨hbar,hno,rfl,rfl⟩)
    ·try simp only [List.cons_append,List.nil_append]
     refine TD.norm (env':=[_,_,_,_,_,_,_,_,_,_,_,_,_,_,_,_,_,_,_,_,_,_,_,_,_,_,_,_,_,_,_,_,_,_,_,_,_,_]) rfl ?_
     refine TD.z [30] rfl (q_move rfl rfl) ?_
     refine TD.z [25] rfl (q_extract rfl rfl rfl) ?_
     refine TD.z [25] rfl (q_extract rfl rfl rfl) ?_
     refine TD.cnewP (pend':=[⟨7,[25],[]⟩,⟨6,[25],[]⟩,⟨5,[30],[]⟩]) [] rfl rfl rfl rfl rfl (n_allocA rfl TyZA.h) (fun _=>putS rfl (by simp only [List.set]; rfl)) sQ fun j8 hj8=>?_
     refine TD.s (pend':=[⟨7,[25],[]⟩]) [11,31] rfl rfl (q_store rfl rfl TySz.h rfl rfl mQ rfl) ?_
     refine TD.as (pend':=[]) [32] rfl rfl (q_assign rfl rfl) ?_
     refine TD.fin ?_
     refine au [4] ?_
     refine TK.draw [0,1,2,3,4,5,6,7,8] [0,1,5,2,3,6,4,7,8] (by kernel_rfl) (by kernel_rfl) ?_
     refine TD.z [11] rfl (q_fieldAddr rfl rfl FldOf.h dQ) ?_
     refine TD.y [33] rfl (hq:=q_load1 rfl rfl TySz.h (List.Mem.head _) rfl) (h:=?_)
     refine TD.z [11] rfl (q_fieldAddr rfl rfl FldOf.h dQ) ?_
     refine TD.y [35] rfl (hq:=q_load1 rfl rfl TySz.h (List.Mem.head _) rfl) (h:=?_)
     refine TD.z [8] rfl (q_move rfl rfl) ?_
     refine TD.as (pend':=[⟨4,[8],[]⟩,⟨3,[35],[(_,_)]⟩,⟨2,[11],[]⟩]) [34] rfl rfl (q_assign rfl rfl) ?_
     refine TD.as (pend':=[⟨4,[8],[]⟩]) [36] rfl rfl (q_assign rfl rfl) ?_
     refine TD.as (pend':=[]) [37] rfl rfl (q_assign rfl rfl) ?_
     refine TD.as (pend':=[]) [] rfl rfl (q_assign rfl rfl) ?_
     refine TD.fin ?_
     refine au [] ?_
     refine TK.rt hret [(jw,_),(0,_),(s,_),(h,_),(e,_),(j,_),(j2,_)] ?_
     exact .inr (.inr ⟨hbar,w,q,jw,hso,rfl,rfl⟩)
   ·refine exK_newP rfl (n_allocA rfl TyZA.h) (fun _=>putS rfl (by simp only [List.set]; rfl)) sQ fun j8 hj8=>?_
    refine TD.cl (pend':=[]) [26,27,29] rfl rfl rfl rfl rfl ((hang_ok hT hbb hcc hss).mono (fun _ _ h=>hangR_or h)) (fun r10 K11 h12=>⟨?_,?_⟩)
    ·rcases h12 with ⟨hno,rfl,rfl⟩ | ⟨w,q,jw,hso,rfl,rfl⟩
     all_goals simp
    rcases h12 with ⟨hno,rfl,rfl⟩ | ⟨w,q,jw,hso,rfl,rfl⟩
    ·try simp only [List.cons_append,List.nil_append]
     refine TD.norm (by simp only [List.set]; rfl) ?_
     refine TD.z [30] rfl (q_move rfl rfl) ?_
     refine TD.z [25] rfl (q_extract rfl rfl rfl) ?_
     refine TD.z [25] rfl (q_extract rfl rfl rfl) ?_
     refine TD.s (pend':=[⟨7,[25],[]⟩]) [11,31] rfl rfl (q_store rfl rfl TySz.h rfl rfl mQ rfl) ?_
     refine TD.as (pend':=[]) [32] rfl rfl (q_assign rfl rfl) ?_
     refine TD.fin ?_
     refine au [4] ?_
     refine TK.draw [0,1,2,3,4,5,6,7,8] [0,1,5,2,3,6,4,7,8] (by kernel_rfl) (by kernel_rfl) ?_
     refine TD.z [11] rfl (q_fieldAddr rfl rfl FldOf.h dQ) ?_
     refine TD.y [33] rfl (hq:=q_load1 rfl rfl TySz.h (List.Mem.head _) rfl) (h:=?_)
     refine TD.z [11] rfl (q_fieldAddr rfl rfl FldOf.h dQ) ?_
     refine TD.y [35] rfl (hq:=q_load1 rfl rfl TySz.h (List.Mem.head _) rfl) (h:=?_)
     refine TD.z [8] rfl (q_move rfl rfl) ?_
     refine TD.as (pend':=[⟨4,[8],[]⟩,⟨3,[35],[(_,_)]⟩,⟨2,[11],[]⟩]) [34] rfl rfl (q_assign rfl rfl) ?_
     refine TD.as (pend':=[⟨4,[8],[]⟩]) [36] rfl rfl (q_assign rfl rfl) ?_
     refine TD.as (pend':=[]) [37] rfl rfl (q_assign rfl rfl) ?_
     refine TD.as (pend':=[]) [] rfl rfl (q_assign rfl rfl) ?_
     refine TD.fin ?_
     refine au [] ?_
     refine TK.rt hret [(0,_),(s,_),(h,_),(e,_),(j,_),(j2,_)] ?_
     exact .inr (.inl ⟨hbar,hno,rfl,rfl⟩)
    ·try simp only [List.cons_append,List.nil_append]
     refine TD.norm (by simp only [List.set]; rfl) ?_
     refine TD.z [30] rfl (q_move rfl rfl) ?_
     refine TD.z [25] rfl (q_extract rfl rfl rfl) ?_
     refine TD.z [25] rfl (q_extract rfl rfl rfl) ?_
     refine TD.s (pend':=[⟨7,[25],[]⟩]) [11,31] rfl rfl (q_store rfl rfl TySz.h rfl rfl mQ rfl) ?_
     refine TD.as (pend':=[]) [32] rfl rfl (q_assign rfl rfl) ?_
     refine TD.fin ?_
     refine au [4] ?_
     refine TK.draw [0,1,2,3,4,5,6,7,8] [0,1,5,2,3,6,4,7,8] (by kernel_rfl) (by kernel_rfl) ?_
     refine TD.z [11] rfl (q_fieldAddr rfl rfl FldOf.h dQ) ?_
     refine TD.y [33] rfl (hq:=q_load1 rfl rfl TySz.h (List.Mem.head _) rfl) (h:=?_)
     refine TD.z [11] rfl (q_fieldAddr rfl rfl FldOf.h dQ) ?_
     refine TD.y [35] rfl (hq:=q_load1 rfl rfl TySz.h (List.Mem.head _) rfl) (h:=?_)
     refine TD.z [8] rfl (q_move rfl rfl) ?_
     refine TD.as (pend':=[⟨4,[8],[]⟩,⟨3,[35],[(_,_)]⟩,⟨2,[11],[]⟩]) [34] rfl rfl (q_assign rfl rfl) ?_
     refine TD.as (pend':=[⟨4,[8],[]⟩]) [36] rfl rfl (q_assign rfl rfl) ?_
     refine TD.as (pend':=[]) [37] rfl rfl (q_assign rfl rfl) ?_
     refine TD.as (pend':=[]) [] rfl rfl (q_assign rfl rfl) ?_
     refine TD.fin ?_
     refine au [] ?_
     refine TK.rt hret [(jw,_),(0,_),(s,_),(h,_),(e,_),(j,_),(j2,_)] ?_
     exact .inr (.inr ⟨hbar,w,q,jw,hso,rfl,rfl⟩)
  ·refine exK_newP rfl (n_allocA rfl TyZA.h) (fun _=>putS rfl (by simp only [List.set]; rfl)) sQ fun j8 hj8=>?_
   refine TD.cl (pend':=[⟨1,[1],[]⟩,⟨0,[10],[(_,_)]⟩]) [28] rfl rfl rfl rfl rfl (stateOf_ok hT oQ oQ) (fun r13 K14 h15=>⟨?_,?_⟩)
   ·rcases h15 with ⟨rfl,rfl⟩
    all_goals simp
   obtain ⟨rfl,rfl⟩:=h15
   try simp only [List.cons_append,List.nil_append]
   refine TD.norm (by simp only [List.set]; rfl) ?_
   refine TD.cl (pend':=[]) [26,27,29] rfl rfl rfl rfl rfl ((hang_ok hT hbb hcc hss).mono (fun _ _ h=>hangR_or h)) (fun r16 K17 h18=>⟨?_,?_⟩)
   ·rcases h18 with ⟨hno,rfl,rfl⟩ | ⟨w,q,jw,hso,rfl,rfl⟩
    all_goals simp
   rcases h18 with ⟨hno,rfl,rfl⟩ | ⟨w,q,jw,hso,rfl,rfl⟩
   ·try simp only [List.cons_append,List.nil_append]
    refine TD.norm (by simp only [List.set]; rfl) ?_
    refine TD.z [30] rfl (q_move rfl rfl) ?_
    refine TD.z [25] rfl (q_extract rfl rfl rfl) ?_
    refine TD.z [25] rfl (q_extract rfl rfl rfl) ?_
    refine TD.s (pend':=[⟨7,[25],[]⟩]) [11,31] rfl rfl (q_store rfl rfl TySz.h rfl rfl mQ rfl) ?_
    refine TD.as (pend':=[]) [32] rfl rfl (q_assign rfl rfl) ?_
    refine TD.fin ?_
    refine au [4] ?_
    refine TK.draw [0,1,2,3,4,5,6,7,8] [0,1,5,2,3,6,4,7,8] (by kernel_rfl) (by kernel_rfl) ?_
    refine TD.z [11] rfl (q_fieldAddr rfl rfl FldOf.h dQ) ?_
    refine TD.y [33] rfl (hq:=q_load1 rfl rfl TySz.h (List.Mem.head _) rfl) (h:=?_)
    refine TD.z [11] rfl (q_fieldAddr rfl rfl FldOf.h dQ) ?_
    refine TD.y [35] rfl (hq:=q_load1 rfl rfl TySz.h (List.Mem.head _) rfl) (h:=?_)
    refine TD.z [8] rfl (q_move rfl rfl) ?_
    refine TD.as (pend':=[⟨4,[8],[]⟩,⟨3,[35],[(_,_)]⟩,⟨2,[11],[]⟩]) [34] rfl rfl (q_assign rfl rfl) ?_
    refine TD.as (pend':=[⟨4,[8],[]⟩]) [36] rfl rfl (q_assign rfl rfl) ?_
    refine TD.as (pend':=[]) [37] rfl rfl (q_assign rfl rfl) ?_
    refine TD.as (pend':=[]) [] rfl rfl (q_assign rfl rfl) ?_
    refine TD.fin ?_
    refine au [] ?_
    refine TK.rt hret [(0,_),(s,_),(h,_),(e,_),(j,_),(j2,_)] ?_
    exact .inr (.inl ⟨hbar,hno,rfl,rfl⟩)
   ·try simp only [List.cons_append,List.nil_append]
    refine TD.norm (by simp only [List.set]; rfl) ?_
    refine TD.z [30] rfl (q_move rfl rfl) ?_
    refine TD.z [25] rfl (q_extract rfl rfl rfl) ?_
    refine TD.z [25] rfl (q_extract rfl rfl rfl) ?_
    refine TD.s (pend':=[⟨7,[25],[]⟩]) [11,31] rfl rfl (q_store rfl rfl TySz.h rfl rfl mQ rfl) ?_
    refine TD.as (pend':=[]) [32] rfl rfl (q_assign rfl rfl) ?_
    refine TD.fin ?_
    refine au [4] ?_
    refine TK.draw [0,1,2,3,4,5,6,7,8] [0,1,5,2,3,6,4,7,8] (by kernel_rfl) (by kernel_rfl) ?_
    refine TD.z [11] rfl (q_fieldAddr rfl rfl FldOf.h dQ) ?_
    refine TD.y [33] rfl (hq:=q_load1 rfl rfl TySz.h (List.Mem.head _) rfl) (h:=?_)
    refine TD.z [11] rfl (q_fieldAddr rfl rfl FldOf.h dQ) ?_
    refine TD.y [35] rfl (hq:=q_load1 rfl rfl TySz.h (List.Mem.head _) rfl) (h:=?_)
    refine TD.z [8] rfl (q_move rfl rfl) ?_
    refine TD.as (pend':=[⟨4,[8],[]⟩,⟨3,[35],[(_,_)]⟩,⟨2,[11],[]⟩]) [34] rfl rfl (q_assign rfl rfl) ?_
    refine TD.as (pend':=[⟨4,[8],[]⟩]) [36] rfl rfl (q_assign rfl rfl) ?_
    refine TD.as (pend':=[]) [37] rfl rfl (q_assign rfl rfl) ?_
    refine TD.as (pend':=[]) [] rfl rfl (q_assign rfl rfl) ?_
    refine TD.fin ?_
    refine au [] ?_
    refine TK.rt hret [(jw,_),(0,_),(s,_),(h,_),(e,_),(j,_),(j2,_)] ?_
    exact .inr (.inr ⟨hbar,w,q,jw,hso,rfl,rfl⟩)
 ·refine au [1,10,10,22] ?_
  intro j6 hj6
  refine au [17,2,3,4,4,5,1,6,3,20] ?_
  refine ⟨fun hc0=>?_,fun hc0=>?_⟩
  ·
   refine au [4,5,1,2,2,2,2,3] ?_
   refine TK.rt hret [(0,_),(s,_),(h,_),(e,_),(j,_),(j2,_)] ?_
   exact .inl ⟨hbar,rfl,rfl⟩
  exact absurd hbar (by simpa using hc0)
theorem placesApi_ok {main:Bool} {T:Goroutine->Hp->Prop} (hT:Shut Tryz.prog main T)  {b:RBk} {s h e j j2:Nat} {l st:List Int} {et et2:TypeId} (hl:b.seams.length<=100) (hm:b.measures.length<=100) (hll:l.length<=1000) :
  CallK Tryz.prog T gmR 30 [.agg (rollC b s h e),.sl j 0 l.length,.sl j2 0 st.length] [(0,checksG),(s,seamO b),(h,shrO b),(e,measO b),(j,.cells (l.map intA) et false),(j2,.cells (st.map intA) et2 false)] (fun r K'=>(bar2 (checkM b) (bar2 (cutsM b l) (shM b st))≠0/\r=.tup [.v (.slice none 0 0),boolA false,intA (bar2 (checkM b) (bar2 (cutsM b l) (shM b st)))]/\K'=[(0,checksG),(s,seamO b),(h,shrO b),(e,measO b),(j,.cells (l.map intA) et false),(j2,.cells (st.map intA) et2 false)])\/(bar2 (checkM b) (bar2 (cutsM b l) (shM b st))=0/\hangM b l st=none/\r=.tup [.v (.slice none 0 0),boolA false,intA 0]/\K'=[(0,checksG),(s,seamO b),(h,shrO b),(e,measO b),(j,.cells (l.map intA) et false),(j2,.cells (st.map intA) et2 false)])\/(bar2 (checkM b) (bar2 (cutsM b l) (shM b st))=0/\∃ w q jr,hangM b l st=some (w,q)/\r=.tup [.row jr l.length,boolA true,intA 0]/\K'=(jr,.row ((placesM b l st w).map intA) 3 1)::[(0,checksG),(s,seamO b),(h,shrO b),(e,measO b),(j,.cells (l.map intA) et false),(j2,.cells (st.map intA) et2 false)])):=by
 refine callK_in 77 hT Tryz.func30 fun Y hret=>?_
 refine au [4,5,21] ?_
 intro jb hjb
 refine au [2,2,2,3,4,5,8,1,32,1,32] ?_
 refine TK.newR rfl rfl rfl (n_buildSlice (l:=[_,_]) rfl SlEl.h TyZ.h dQ dQ rfl) (fun _=>putS rfl (by simp only [List.set]; rfl)) fun ja hja=>?_
 refine TK.cl rfl rfl rfl rfl (opened2_ok hT (Kx:=[(j,.cells (l.map intA) et false),(j2,.cells (st.map intA) et2 false)]) (p1:=cutsM b l) (p2:=shM b st) hl hm (fun h0=>callFK_fn Cal.h ((cutsBar_ok hT (check_ok0 h0).sms.len.2 hll).frameP (R:=[(s,seamO b),(j2,.cells (st.map intA) et2 false)]) (List.Perm.swap _ _ _))) (fun h0=>callFK_fn Cal.h ((shBar_ok hT (check_ok0 h0).rnd (check_ok0 h0).sms).frameP (R:=[(j,.cells (l.map intA) et false)]) ((List.Perm.swap _ _ _).cons _)))) ?_
 rintro r1 K2 h3
 rcases h3 with ⟨⟨hbar,rfl⟩ | ⟨hbar,rfl⟩,rfl⟩
 ·refine au [1,10,10,22] ?_
  intro j6 hj6
  refine au [17,2,3,4,4,5,1,6,3,20] ?_
  refine ⟨fun hc0=>?_,fun hc0=>?_⟩
  ·exact absurd hc0 sQ
  have hbb:=check_ok0 (bar2_0 hbar)
  have hcc:=cuts_ok0 (bar2_0 (bar2_0r hbar))
  have hss:=sh_ok0 (bar2_0r (bar2_0r hbar))
  have h5:=hbb.sms.len
  have hsl:=hss.len
  refine au [12,4,5,1] ?_
  refine TK.cl rfl rfl rfl rfl (stateOf_ok hT oQ oQ) ?_
  rintro r4 K5 ⟨rfl,rfl⟩
  refine au [22] ?_
  intro js hjs
  refine au [17,3,4,5,8,1,8] ?_
  refine TK.cl rfl rfl rfl rfl ((hang_ok hT hbb hcc hss).mono (fun _ _ h=>hangR_or h)) ?_
  rintro r7 K8 h9
  rcases h9 with ⟨hno,rfl,rfl⟩ | ⟨w,q,jw,hso,rfl,rfl⟩
  ·refine au [1,10,10,22] ?_
   intro jw8 hjw8
   refine au [17,2,3,4,4,5,1,30,3,20] ?_
   refine ⟨fun hc1=>?_,fun hc1=>?_⟩
   ·
    refine au [4,5,2,2,2,3] ?_
    refine TK.rt hret [(0,_),(s,_),(h,_),(e,_),(j,_),(j2,_)] ?_
    exact .inr (.inl ⟨hbar,hno,rfl,rfl⟩)
   exact absurd hc1 dQ
  ·refine au [1,10,10,22] ?_
   intro jw8 hjw8
   refine au [17,2,3,4,4,5,1,30,3,20] ?_
   refine ⟨fun hc1=>?_,fun hc1=>?_⟩
   ·exact absurd hc1 dQ
   obtain ⟨hwl,hwb⟩:=hang_w hbb hcc hss hso
   refine au [12,4,5,2] ?_
   refine TK.virt 6 3 1 rfl fun jr0 hjr0=>?_
   refine au [3,4,4,5,1,28,1,3,13] ?_
   refine TK.maskL [1,6,9,10,11,12,39,40,41] ?_
   refine TK.kp [(0,_),(s,_),(h,_),(e,_),(j,_),(j2,_),(jw,_),(jw8,_),(js,_),(j6,_),(jr0,_)] ?_
   refine TK.loopN (fun n env K=>∃ (i jr:Nat) (at0:Int),n=l.length - i/\i<=l.length/\(i<l.length->at0+(if i=0 then 0 else togM b st (cutN l (i - 1)).toNat (cutN l i - cutN l (i - 1)).toNat+cutN w i)=atM b l st w i)/\(0<=at0/\at0<=1000)/\env=[.any,.sl j 0 l.length,.any,.any,.any,.any,.row jr i,.any,.any,.ptr j6 0,.ptr js 0,.ptr jw8 0,intA at0,.any,.any,.any,.any,.any,.any,.any,.any,.any,.any,.any,.any,.any,.any,.any,.any,.any,.any,.any,.any,.any,.any,.any,.any,.any,.any,.sl j 0 l.length,intA l.length,intA i,.any,.any,.any,.any,.any,.any,.any,.any,.any,.any,.any,.any,.any,.any,.any,.any,.any,.any,.any,.any,.any,.any,.any,.any,.any,.any,.any,.any,.any,.any,.any,.any,.any,.any,.any]/\K=[(0,checksG),(s,seamO b),(h,shrO b),(e,measO b),(j,.cells (l.map intA) et false),(j2,.cells (st.map intA) et2 false),(jw,.cells (w.map intA) 3 false),(jw8,.cells [.sl jw 0 w.length,intA q] 125 true),(js,.cells (stC st) 129 true),(j6,.cells (rollC b s h e) 113 true),(jr,.row (((List.range i).map (atM b l st w)).map intA) 3 1)]) l.length ⟨0,jr0,0,rfl,Nat.zero_le _,fun _=>rfl,⟨Int.le_refl _,by decide⟩,rfl,rfl⟩ fun n env K hI hnext=>?_
   obtain ⟨i,jr,at0,rfl,hi,hat,hatb,rfl,rfl⟩:=hI
   refine au [4,5,6,3,4,20] ?_
   refine ⟨fun hc2=>?_,fun hc2=>?_⟩
   ·have hil:i<l.length:=by simp at hc2; omega
    have qi:=hcc.lt hil
    have hcl:=hcc.len
    refine au [12,4,13,4,5,1,36] ?_
    refine TK.a rfl (q_load1 rfl rfl TySz.h mQ (ints_at (i:=i) (cut_get hil) rfl)) ?_
    refine au [2,2,3,4,4,5,1,6,3,20] ?_
    refine ⟨fun hc3=>?_,fun hc3=>?_⟩
    ·have hi0:0<i:=by simp at hc3; omega
     have qp:=hcc.lt (k:=i - 1) oQ
     have hlt:=cut_lt hcc (k:=i - 1) oQ
     rw [show i - 1+1=i by omega] at hlt
     have htb:=tog_bd hbb hss (c:=(cutN l (i - 1)).toNat) (cutN l i - cutN l (i - 1)).toNat
     have hwi:0<=cutN w i/\cutN w i<=9:=hwb i
     have hnew:=hat hil
     rw [if_neg oQ] at hnew
     refine TK.draw [0,1,2,3,4,5,6,7,8,9,10,11,12,13,14,16,17,18,19,20,15,21,22,23] [0,1,2,3,4,5,6,7,8,9,10,11,12,13,14,15,16,17,18,19,20,21,22,23] (by kernel_rfl) (by kernel_rfl) ?_
     refine TD.z [12] rfl (q_move rfl rfl) ?_
     refine TD.y [9] rfl (hq:=q_load rfl rfl TySz.h (List.Mem.head _) rfl) (h:=?_)
     refine TD.z [1] rfl (q_move rfl rfl) ?_
     refine TD.z [13] rfl (q_move rfl rfl) ?_
     refine TD.z [51] rfl (q_sub rfl rfl rfl oQ) ?_
     refine TD.z [50,52] rfl (q_indexSl rfl rfl rfl SlEl.h oQ oQ) ?_
     refine TD.y [53] rfl (hq:=q_load1 rfl rfl TySz.h (List.Mem.head _) (ints_at (i:=i - 1) (cut_get oQ) oQ)) (h:=?_)
     refine TD.z [14] rfl (q_move rfl rfl) ?_
     refine TD.z [1] rfl (q_move rfl rfl) ?_
     refine TD.z [13] rfl (q_move rfl rfl) ?_
     refine TD.z [57] rfl (q_sub rfl rfl rfl oQ) ?_
     refine TD.z [56,58] rfl (q_indexSl rfl rfl rfl SlEl.h oQ oQ) ?_
     refine TD.y [59] rfl (hq:=q_load1 rfl rfl TySz.h (List.Mem.head _) (ints_at (i:=i - 1) (cut_get oQ) oQ)) (h:=?_)
     refine TD.z [55,60] rfl (q_sub rfl rfl rfl oQ) ?_
     refine TD.y [10] rfl (hq:=q_load rfl rfl TySz.h (List.Mem.head _) rfl) (h:=?_)
     refine TD.z [11] rfl (q_fieldAddr rfl rfl FldOf.h dQ) ?_
     refine TD.y [64] rfl (hq:=q_load1 rfl rfl TySz.h (List.Mem.head _) rfl) (h:=?_)
     refine TD.z [13] rfl (q_move rfl rfl) ?_
     refine TD.z [65,66] rfl (q_indexSl rfl rfl rfl SlEl.h oQ oQ) ?_
     refine TD.y [67] rfl (hq:=q_load1 rfl rfl TySz.h (List.Mem.head _) (ints_at (i:=i) (cut_get (l:=w) oQ) rfl)) (h:=?_)
     refine TD.cl (pend':=[⟨20,[67],[(_,_)]⟩,⟨19,[65,66],[]⟩,⟨18,[13],[]⟩,⟨17,[64],[(_,_)]⟩,⟨16,[11],[]⟩,⟨12,[59],[(_,_)]⟩,⟨11,[56,58],[]⟩,⟨10,[57],[]⟩,⟨9,[13],[]⟩,⟨8,[1],[]⟩,⟨7,[14],[]⟩,⟨5,[50,52],[]⟩,⟨4,[51],[]⟩,⟨3,[13],[]⟩,⟨2,[1],[]⟩,⟨0,[12],[]⟩]) [49,54,61,62] rfl rfl rfl rfl rfl (tog_ok hT (c:=cutN l (i - 1)) (k:=cutN l i - cutN l (i - 1)) hbb hss oQ oQ) (fun r10 K11 h12=>⟨?_,?_⟩)
     ·rcases h12 with ⟨rfl,rfl⟩
      all_goals simp
     obtain ⟨rfl,rfl⟩:=h12
     try simp only [List.cons_append,List.nil_append]
     refine TD.norm (by simp only [List.set]; rfl) ?_
     refine TD.z [63,68] rfl (q_add rfl rfl rfl oQ) ?_
     refine TD.z [48,69] rfl (q_add rfl rfl rfl oQ) ?_
     refine TD.as (pend':=[]) [70] rfl rfl (q_assign rfl rfl) ?_
     refine TD.fin ?_
     refine au [5,1,1] ?_
     refine TK.newR rfl rfl rfl (n_buildSlice (l:=[_]) rfl SlEl.h TyZ.h dQ dQ rfl) (fun _=>putS rfl (by simp only [List.set]; rfl)) fun j13 hj13=>?_
     refine TK.appR rfl rfl rfl (a_app rfl ApOf.h rfl mQ sQ rfl (src_row (ln:=[_]) mQ dQ sQ rfl) oQ rfl (by unfold maxLen; omega) oQ) (fun _=>uQ) (fun _=>putS rfl (by simp only [List.set]; rfl)) fun jr2=>?_
     refine au [2,3,14,5,23,1,3] ?_
     refine TK.maskL [1,6,9,10,11,12,39,40,41] ?_
     refine TK.kp [(0,_),(s,_),(h,_),(e,_),(j,_),(j2,_),(jw,_),(jw8,_),(js,_),(j6,_),(jr2,_)] ?_
     exact hnext _ _ _ oQ ⟨i+1,jr2,atM b l st w i,rfl,by omega,fun hh=>by rw [if_neg oQ]; rfl,by have:=at_bd hbb hcc hss hwb i hil; omega,by rw [hnew]; rfl,by rw [hnew,List.range_succ,List.map_append,List.map_append]; rfl⟩
    obtain rfl:i=0:=by simp at hc3; omega
    have hnew:at0=atM b l st w 0:=by have:=hat hil; rw [if_pos rfl,Int.add_zero] at this; exact this
    refine au [12,5,1,1] ?_
    refine TK.newR rfl rfl rfl (n_buildSlice (l:=[_]) rfl SlEl.h TyZ.h dQ dQ rfl) (fun _=>putS rfl (by simp only [List.set]; rfl)) fun j14 hj14=>?_
    refine TK.appR rfl rfl rfl (a_app rfl ApOf.h rfl mQ sQ rfl (src_row (ln:=[_]) mQ dQ sQ rfl) oQ rfl (by unfold maxLen; omega) oQ) (fun _=>uQ) (fun _=>putS rfl (by simp only [List.set]; rfl)) fun jr2=>?_
    refine au [2,3,14,5,23,1,3] ?_
    refine TK.maskL [1,6,9,10,11,12,39,40,41] ?_
    refine TK.kp [(0,_),(s,_),(h,_),(e,_),(j,_),(j2,_),(jw,_),(jw8,_),(js,_),(j6,_),(jr2,_)] ?_
    exact hnext _ _ _ oQ ⟨0+1,jr2,atM b l st w 0,rfl,by omega,fun hh=>by rw [if_neg oQ]; rfl,by have:=at_bd hbb hcc hss hwb 0 hil; omega,by rw [hnew]; rfl,by rw [hnew,List.range_succ,List.map_append,List.map_append]; rfl⟩
   obtain rfl:i=l.length:=by simp at hc2; omega
   refine au [16,4,5,1,2,2,2,3] ?_
   refine TK.rt hret [(jr,_),(0,_),(s,_),(h,_),(e,_),(j,_),(j2,_)] ?_
   exact .inr (.inr ⟨hbar,w,q,jr,hso,rfl,rfl⟩)
 ·refine au [1,10,10,22] ?_
  intro j6 hj6
  refine au [17,2,3,4,4,5,1,6,3,20] ?_
  refine ⟨fun hc0=>?_,fun hc0=>?_⟩
  ·
   refine au [4,5,1,2,2,2,3] ?_
   refine TK.rt hret [(0,_),(s,_),(h,_),(e,_),(j,_),(j2,_)] ?_
   exact .inl ⟨hbar,rfl,rfl⟩
  exact absurd hbar (by simpa using hc0)
theorem best_ok {Ψ:Goroutine->World->Prop} {b:RBk} {s h e:Nat} (hl:b.seams.length<=100) (hm:b.measures.length<=100) :
  CallK Tryz.prog (BT Tryz.prog Ψ) gmR 32 [.agg (rollC b s h e)] [(0,checksG),(s,seamO b),(h,shrO b),(e,measO b)] (fun r K'=>(checkM b≠0/\r=.tup [.v (.slice none 0 0),intA 0,boolA false,intA (checkM b)]/\K'=[(0,checksG),(s,seamO b),(h,shrO b),(e,measO b)])\/(checkM b=0/\statesM b=[]/\r=.tup [.v (.slice none 0 0),intA 0,boolA false,intA 9]/\K'=[(0,checksG),(s,seamO b),(h,shrO b),(e,measO b)])\/(checkM b=0/\statesM b≠[]/\((NoPlan b (statesM b)/\r=.tup [.v (.slice none 0 0),intA 0,boolA false,intA 0]/\K'=[(0,checksG),(s,seamO b),(h,shrO b),(e,measO b)])\/∃ c jc ec,PlanA b (statesM b) cheaperM c/\r=.tup [.sl jc 0 (bitsM c b.seams.length).length,intA (sqHi b (statesM b) (bitsM c b.seams.length)),boolA true,intA 0]/\K'=(jc,.cells ((bitsM c b.seams.length).map intA) ec false)::[(0,checksG),(s,seamO b),(h,shrO b),(e,measO b)]))):=by
 have hT:=shut_BT (P:=Tryz.prog) Ψ
 refine callK_in 26 hT Tryz.func32 fun Y hret=>?_
 refine au [4,5,21] ?_
 intro jb hjb
 refine au [2,2,2,2,3,4,5,8] ?_
 refine TK.cl rfl rfl rfl rfl (known0_ok hT (Kx:=[]) hl hm) ?_
 rintro r1 K2 h3
 rcases h3 with ⟨hbar,rfl,rfl⟩ | ⟨hbar,hnil,rfl,rfl⟩ | ⟨hbar,hne,a,rfl,rfl⟩
 ·refine au [1,10,10,22] ?_
  intro j6 hj6
  refine au [17,2,3,4,4,5,1,6,3,20] ?_
  refine ⟨fun hc0=>?_,fun hc0=>?_⟩
  ·
   refine au [4,5,1,2,2,2,2,3] ?_
   refine TK.rt hret [(0,_),(s,_),(h,_),(e,_)] ?_
   exact .inl ⟨hbar,rfl,rfl⟩
  exact absurd hbar (by simpa using hc0)
 ·refine au [1,10,10,22] ?_
  intro j6 hj6
  refine au [17,2,3,4,4,5,1,6,3,20] ?_
  refine ⟨fun hc0=>?_,fun hc0=>?_⟩
  ·
   refine au [4,5,1,2,2,2,2,3] ?_
   refine TK.rt hret [(0,_),(s,_),(h,_),(e,_)] ?_
   exact .inr (.inl ⟨hbar,hnil,rfl,rfl⟩)
  exact absurd hc0 dQ
 ·refine au [1,10,10,22] ?_
  intro j6 hj6
  refine au [17,2,3,4,4,5,1,6,3,20] ?_
  refine ⟨fun hc0=>?_,fun hc0=>?_⟩
  ·exact absurd hc0 sQ
  have hbb:=check_ok0 hbar
  have hlen:=states_len hbb
  have hpos:0<(statesM b).length:=List.length_pos_iff.2 hne
  have hall:okAll b (statesM b):=fun st hst=>(states_mem hbb hst).1
  refine au [12,4,5,8] ?_
  refine TK.cl rfl rfl rfl rfl (plan_with (bt:=cheaperM) hbb hall hlen hpos cheaper_trans (fun _ _ _ _ _ _=>cheaper_tot _ _) (fun hT1 jr cs cost cs0 cost0 j0 e0 hlen=>callFK_fn Cal.h (cheaper_ok hT1 oQ))) ?_
  rintro r4 K5 h6
  rcases h6 with ⟨rfl,rfl,hno⟩ | ⟨c,jc,ec,hq0,hq1,hok,hbest,rfl,rfl⟩
  ·refine au [1,10,10,22] ?_
   intro j7 hj7
   refine au [17,2,3,4] ?_
   refine TK.draw [0,1,2,3,4,5,6,7,8] [0,1,5,2,3,6,4,7,8] (by kernel_rfl) (by kernel_rfl) ?_
   refine TD.z [7] rfl (q_fieldAddr rfl rfl FldOf.h dQ) ?_
   refine TD.y [21] rfl (hq:=q_load1 rfl rfl TySz.h (List.Mem.head _) rfl) (h:=?_)
   refine TD.z [7] rfl (q_fieldAddr rfl rfl FldOf.h dQ) ?_
   refine TD.y [23] rfl (hq:=q_load1 rfl rfl TySz.h (List.Mem.head _) rfl) (h:=?_)
   refine TD.z [4] rfl (q_move rfl rfl) ?_
   refine TD.as (pend':=[⟨4,[4],[]⟩,⟨3,[23],[(_,_)]⟩,⟨2,[7],[]⟩]) [22] rfl rfl (q_assign rfl rfl) ?_
   refine TD.as (pend':=[⟨4,[4],[]⟩]) [24] rfl rfl (q_assign rfl rfl) ?_
   refine TD.as (pend':=[]) [25] rfl rfl (q_assign rfl rfl) ?_
   refine TD.as (pend':=[]) [] rfl rfl (q_assign rfl rfl) ?_
   refine TD.fin ?_
   refine au [] ?_
   refine TK.rt hret [(0,_),(s,_),(h,_),(e,_)] ?_
   exact .inr (.inr ⟨hbar,hne,.inl ⟨hno,rfl,rfl⟩⟩)
  ·refine au [1,10,10,22] ?_
   intro j7 hj7
   refine au [17,2,3,4] ?_
   refine TK.draw [0,1,2,3,4,5,6,7,8] [0,1,5,2,3,6,4,7,8] (by kernel_rfl) (by kernel_rfl) ?_
   refine TD.z [7] rfl (q_fieldAddr rfl rfl FldOf.h dQ) ?_
   refine TD.y [21] rfl (hq:=q_load1 rfl rfl TySz.h (List.Mem.head _) rfl) (h:=?_)
   refine TD.z [7] rfl (q_fieldAddr rfl rfl FldOf.h dQ) ?_
   refine TD.y [23] rfl (hq:=q_load1 rfl rfl TySz.h (List.Mem.head _) rfl) (h:=?_)
   refine TD.z [4] rfl (q_move rfl rfl) ?_
   refine TD.as (pend':=[⟨4,[4],[]⟩,⟨3,[23],[(_,_)]⟩,⟨2,[7],[]⟩]) [22] rfl rfl (q_assign rfl rfl) ?_
   refine TD.as (pend':=[⟨4,[4],[]⟩]) [24] rfl rfl (q_assign rfl rfl) ?_
   refine TD.as (pend':=[]) [25] rfl rfl (q_assign rfl rfl) ?_
   refine TD.as (pend':=[]) [] rfl rfl (q_assign rfl rfl) ?_
   refine TD.fin ?_
   refine au [] ?_
   refine TK.rt hret [(jc,_),(0,_),(s,_),(h,_),(e,_)] ?_
   exact .inr (.inr ⟨hbar,hne,.inr ⟨c,jc,ec,⟨hq0,hq1,hok,hbest⟩,rfl,rfl⟩⟩)
theorem fewest_ok {Ψ:Goroutine->World->Prop} {b:RBk} {s h e:Nat} (hl:b.seams.length<=100) (hm:b.measures.length<=100) :
  CallK Tryz.prog (BT Tryz.prog Ψ) gmR 34 [.agg (rollC b s h e)] [(0,checksG),(s,seamO b),(h,shrO b),(e,measO b)] (fun r K'=>(checkM b≠0/\r=.tup [.v (.slice none 0 0),boolA false,intA (checkM b)]/\K'=[(0,checksG),(s,seamO b),(h,shrO b),(e,measO b)])\/(checkM b=0/\statesM b=[]/\r=.tup [.v (.slice none 0 0),boolA false,intA 9]/\K'=[(0,checksG),(s,seamO b),(h,shrO b),(e,measO b)])\/(checkM b=0/\statesM b≠[]/\((NoPlan b (statesM b)/\r=.tup [.v (.slice none 0 0),boolA false,intA 0]/\K'=[(0,checksG),(s,seamO b),(h,shrO b),(e,measO b)])\/∃ c jc ec,PlanA b (statesM b) shorterM c/\r=.tup [.sl jc 0 (bitsM c b.seams.length).length,boolA true,intA 0]/\K'=(jc,.cells ((bitsM c b.seams.length).map intA) ec false)::[(0,checksG),(s,seamO b),(h,shrO b),(e,measO b)]))):=by
 have hT:=shut_BT (P:=Tryz.prog) Ψ
 refine callK_in 23 hT Tryz.func34 fun Y hret=>?_
 refine au [4,5,21] ?_
 intro jb hjb
 refine au [2,2,2,3,4,5,8] ?_
 refine TK.cl rfl rfl rfl rfl (known0_ok hT (Kx:=[]) hl hm) ?_
 rintro r1 K2 h3
 rcases h3 with ⟨hbar,rfl,rfl⟩ | ⟨hbar,hnil,rfl,rfl⟩ | ⟨hbar,hne,a,rfl,rfl⟩
 ·refine au [1,10,10,22] ?_
  intro j6 hj6
  refine au [17,2,3,4,4,5,1,6,3,20] ?_
  refine ⟨fun hc0=>?_,fun hc0=>?_⟩
  ·
   refine au [4,5,1,2,2,2,3] ?_
   refine TK.rt hret [(0,_),(s,_),(h,_),(e,_)] ?_
   exact .inl ⟨hbar,rfl,rfl⟩
  exact absurd hbar (by simpa using hc0)
 ·refine au [1,10,10,22] ?_
  intro j6 hj6
  refine au [17,2,3,4,4,5,1,6,3,20] ?_
  refine ⟨fun hc0=>?_,fun hc0=>?_⟩
  ·
   refine au [4,5,1,2,2,2,3] ?_
   refine TK.rt hret [(0,_),(s,_),(h,_),(e,_)] ?_
   exact .inr (.inl ⟨hbar,hnil,rfl,rfl⟩)
  exact absurd hc0 dQ
 ·refine au [1,10,10,22] ?_
  intro j6 hj6
  refine au [17,2,3,4,4,5,1,6,3,20] ?_
  refine ⟨fun hc0=>?_,fun hc0=>?_⟩
  ·exact absurd hc0 sQ
  have hbb:=check_ok0 hbar
  have hlen:=states_len hbb
  have hpos:0<(statesM b).length:=List.length_pos_iff.2 hne
  have hall:okAll b (statesM b):=fun st hst=>(states_mem hbb hst).1
  refine au [12,4,5,8] ?_
  refine TK.cl rfl rfl rfl rfl (plan_with (bt:=shorterM) hbb hall hlen hpos shorter_trans (short_tot hbb) (fun hT1 jr cs cost cs0 cost0 j0 e0 hlen=>callFK_fn Cal.h (shorter_ok hT1 oQ))) ?_
  rintro r4 K5 h6
  rcases h6 with ⟨rfl,rfl,hno⟩ | ⟨c,jc,ec,hq0,hq1,hok,hbest,rfl,rfl⟩
  ·refine au [1,10,10,22] ?_
   intro j7 hj7
   refine au [17,2,3,4,5,7,9,1,2,2,2,3] ?_
   refine TK.rt hret [(0,_),(s,_),(h,_),(e,_)] ?_
   exact .inr (.inr ⟨hbar,hne,.inl ⟨hno,rfl,rfl⟩⟩)
  ·refine au [1,10,10,22] ?_
   intro j7 hj7
   refine au [17,2,3,4,5,7,9,1,2,2,2,3] ?_
   refine TK.rt hret [(jc,_),(0,_),(s,_),(h,_),(e,_)] ?_
   exact .inr (.inr ⟨hbar,hne,.inr ⟨c,jc,ec,⟨hq0,hq1,hok,hbest⟩,rfl,rfl⟩⟩)
theorem widest_ok {Ψ:Goroutine->World->Prop} {b:RBk} {s h e:Nat} (hl:b.seams.length<=100) (hm:b.measures.length<=100) :
  CallK Tryz.prog (BT Tryz.prog Ψ) gmR 36 [.agg (rollC b s h e)] [(0,checksG),(s,seamO b),(h,shrO b),(e,measO b)] (fun r K'=>(checkM b≠0/\r=.tup [intA 0,boolA false,intA (checkM b)]/\K'=[(0,checksG),(s,seamO b),(h,shrO b),(e,measO b)])\/(checkM b=0/\statesM b=[]/\r=.tup [intA 0,boolA false,intA 9]/\K'=[(0,checksG),(s,seamO b),(h,shrO b),(e,measO b)])\/(checkM b=0/\statesM b≠[]/\r=.tup [intA ((widestM b (statesM b)).getD 0),boolA (widestM b (statesM b)).isSome,intA 0]/\K'=[(0,checksG),(s,seamO b),(h,shrO b),(e,measO b)])):=by
 have hT:=shut_BT (P:=Tryz.prog) Ψ
 refine callK_in 33 hT Tryz.func36 fun Y hret=>?_
 refine au [4,5,21] ?_
 intro jb hjb
 refine au [2,2,2,3,4,5,8] ?_
 refine TK.cl rfl rfl rfl rfl (known0_ok hT (Kx:=[]) hl hm) ?_
 rintro r1 K2 h3
 rcases h3 with ⟨hbar,rfl,rfl⟩ | ⟨hbar,hnil,rfl,rfl⟩ | ⟨hbar,hne,a,rfl,rfl⟩
 ·refine au [1,10,10,22] ?_
  intro j5 hj5
  refine au [17,2,3,4,4,5,1,6,3,20] ?_
  refine ⟨fun hc0=>?_,fun hc0=>?_⟩
  ·
   refine au [4,5,1,2,2,2,3] ?_
   refine TK.rt hret [(0,_),(s,_),(h,_),(e,_)] ?_
   exact .inl ⟨hbar,rfl,rfl⟩
  exact absurd hbar (by simpa using hc0)
 ·refine au [1,10,10,22] ?_
  intro j5 hj5
  refine au [17,2,3,4,4,5,1,6,3,20] ?_
  refine ⟨fun hc0=>?_,fun hc0=>?_⟩
  ·
   refine au [4,5,1,2,2,2,3] ?_
   refine TK.rt hret [(0,_),(s,_),(h,_),(e,_)] ?_
   exact .inr (.inl ⟨hbar,hnil,rfl,rfl⟩)
  exact absurd hc0 dQ
 ·refine au [1,10,10,22] ?_
  intro j5 hj5
  refine au [17,2,3,4,4,5,1,6,3,20] ?_
  refine ⟨fun hc0=>?_,fun hc0=>?_⟩
  ·exact absurd hc0 sQ
  have hbb:=check_ok0 hbar
  have hlen:=states_len hbb
  have hpos:0<(statesM b).length:=List.length_pos_iff.2 hne
  have hall:okAll b (statesM b):=fun st hst=>(states_mem hbb hst).1
  have hst:=hbb.rnd.steps
  refine au [12,4,4,5,2,3,13] ?_
  refine TK.maskL [1,2,3,4,5] ?_
  refine TK.kp [(a,_),(0,_),(s,_),(h,_),(e,_),(jb,_),(j5,_)] ?_
  refine TK.loopN (fun n env K=>∃ (k:Nat) (r0:Int),n=k/\b.steps+k<=41/\widestL b (statesM b) k=widestM b (statesM b)/\env=[.any,.ptr jb 0,intA (b.steps+(k:Int) - 1),boolA false,intA 0,.ptr j5 0,.any,.any,.any,.any,.any,.any,.any,.any,.any,.any,.any,.any,.any,.any,.any,.any,.any,.any,.any,.any,.any,.any,.any,.any,.any,.any,.any]/\K=[(a,allO (statesM b)),(0,checksG),(s,seamO b),(h,shrO b),(e,measO b),(jb,.cells (rollC b s h e) 26 true),(j5,.cells (knownC (atRound b r0) s h e a (statesM b).length) 139 true)]) (41 - b.steps).toNat ⟨(41 - b.steps).toNat,b.round,rfl,by omega,rfl,by rw [show b.steps+((41 - b.steps).toNat:Int) - 1=40 by omega]; rfl,rfl⟩ fun n env K hI hnext=>?_
  obtain ⟨k1,r0,hn1,hk,hw,rfl,rfl⟩:=hI
  subst n
  refine au [4,4,5,1,7,9,6,3,20] ?_
  refine ⟨fun hc1=>?_,fun hc1=>?_⟩
  ·obtain ⟨k,rfl⟩:∃ k,k1=k+1:=⟨k1 - 1,by simp at hc1; omega⟩
   have hkk:b.steps+((k+1:Nat):Int) - 1=b.steps+(k:Int):=by omega
   rw [hkk]
   refine au [12,4,13,4,5,1,7,7,7,17,3,4,5,8] ?_
   refine TK.cl rfl rfl rfl rfl (plan_with (b:=atRound b (b.steps+k)) (bt:=shorterM) (atR_ok hbb oQ oQ) (atR_all hall _) hlen hpos shorter_trans (short_tot (atR_ok hbb oQ oQ)) (fun hT1 jr cs cost cs0 cost0 j0 e0 hlen=>callFK_fn Cal.h (shorter_ok hT1 oQ))) ?_
   rintro r4 K5 h6
   rcases h6 with ⟨rfl,rfl,hno⟩ | ⟨c,jc,ec,hq0,hq1,hok,hbest,rfl,rfl⟩
   ·refine au [1,10,10,22] ?_
    intro j7 hj7
    refine au [17,2,3,4,5,1,3,20] ?_
    refine ⟨fun hc2=>?_,fun hc2=>?_⟩
    ·cases hc2
    refine au [12,14,5,1,24,2,3] ?_
    refine TK.maskL [1,2,3,4,5] ?_
    refine TK.kp [(a,_),(0,_),(s,_),(h,_),(e,_),(jb,_),(j5,_)] ?_
    exact hnext _ _ _ oQ ⟨k,b.steps+(k:Int),rfl,by omega,by rw [<- hw,show widestL b (statesM b) (k+1)=widestL b (statesM b) k from if_neg (by rw [canAt_f (b:=b) hno]; decide)],rfl,rfl⟩
   ·refine au [1,10,10,22] ?_
    intro j7 hj7
    refine au [17,2,3,4,5,1,3,20] ?_
    refine ⟨fun hc2=>?_,fun hc2=>?_⟩
    ·
     refine au [4,5,1,2,2,2,3] ?_
     refine TK.rt hret [(0,_),(s,_),(h,_),(e,_)] ?_
     exact .inr (.inr ⟨hbar,hne,by rw [<- hw,show widestL b (statesM b) (k+1)=some (b.steps+k) from if_pos (canAt_t hq0 hq1 hok)]; rfl,rfl⟩)
    cases hc2
  obtain rfl:k1=0:=by simp at hc1; omega
  refine au [16,4,5,2,2,2,3] ?_
  refine TK.rt hret [(0,_),(s,_),(h,_),(e,_)] ?_
  exact .inr (.inr ⟨hbar,hne,by rw [<- hw]; rfl,rfl⟩)
end Go.Vel
end
