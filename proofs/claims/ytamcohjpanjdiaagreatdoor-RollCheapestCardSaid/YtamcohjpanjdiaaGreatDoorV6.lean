/- Texts for the statements of chapter 8: what all of them need, part 7. It holds of every program, tape and world that the statements name, as each theorem says. -/
import Derived.Test.YtamcohjpanjdiaaGreatDoorV3
import Derived.Test.YtamcohjpanjdiaaGreatDoorV5
section
set_option linter.all false
set_option maxRecDepth 20000
set_option maxHeartbeats 60000000
namespace Go.Vel
open Go Go.Conc Go.Proofs
open Go.ConcN (sumTo upd upd_ne upd_same)
open Go.ConcM (OsLater MuAt muA msA)
open Go.ConcR (KK wgBlock WgAt stA smA mk rd wr)
open Mx (TT Th Mn S4 auto Mv4 ok4 bl4 kd dl MPc Pc okW okM Mv nx4 cnt newOf)
section
variable {P:Program} {gm:Nat->Option Nat} {T:Goroutine->Hp->Prop} {Y:KX P gm T} {ds:List Nat} {k:List Item} {env:List AV} {K:KV}
theorem TK.nd (h:(keys K).Nodup->TK Y ds k env K):TK Y ds k env K:=fun A hA=>h hA.nd A hA
end
def bitsM (b:Nat):Nat->List Int
 | 0=>[]
 | i+1=>bitsM b i++(if b / 2 ^ i % 2=1 then [(i:Int)] else [])
theorem bitsM_le (b:Nat):∀ i,(bitsM b i).length<=i
 | 0=>Nat.le_refl _
 | i+1=>by
  have:=bitsM_le b i
  unfold bitsM
  rw [List.length_append]
  split <;> simp <;> omega
theorem bitsM_nil {m b:Nat} (hm:m<=5) (hb:b<2 ^ m) (h:bitsM b m=[]):b=0:=by
 have key:∀ m,m<=5->∀ b,b<32->b<2 ^ m->bitsM b m=[]->b=0:=by decide +kernel
 have:2 ^ m<=2 ^ 5:=Nat.pow_le_pow_right dQ hm
 exact key m hm b oQ hb h
def PlanR (Sq:KV) (m:Nat) (bt:List Int×Int->List Int×Int->Bool) (hi:Nat->Int) (ok:Nat->Bool) (r:AV) (K':KV):Prop :=
 (r=.tup [.agg [.v (.slice none 0 0),.v (.int .i64 0)],.v (.bool false)]/\K'=Sq/\∀ b,0<b->b<2 ^ m->ok b=false) \/
 ∃ b j e,0<b/\b<2 ^ m/\ok b=true/\(∀ c,0<c->c<2 ^ m->ok c=true->(bitsM c m,hi c)=(bitsM b m,hi b)\/bt (bitsM b m,hi b) (bitsM c m,hi c)=true) /\
  r=.tup [.agg [.sl j 0 (bitsM b m).length,.v (.int .i64 (hi b))],.v (.bool true)]/\K'=(j,.cells ((bitsM b m).map fun a=>.v (.int .i64 a)) e false)::Sq
theorem bits_zero (m:Nat):bitsM 0 m=[]:=by
 induction m with
 | zero=>rfl
 | succ m ih=>unfold bitsM; rw [ih,Nat.zero_div,if_neg dQ]; rfl
theorem sh_nat (b i:Nat):((b:Nat):Int) / 2 ^ ((i:Nat):Int).toNat=((b / 2 ^ i:Nat):Int):=by
 rw [Int.toNat_natCast]
 simp
theorem plan_ok {Ψ:Goroutine->World->Prop} {gm:Nat->Option Nat} {m s:Nat} {a0 a1 a2 a3 a5 a6 a7:AV} {gF:FuncId} {Sq:KV} {bt:List Int×Int->List Int×Int->Bool} {lw hi:Nat->Int} {ok:Nat->Bool} (hm:1<=m/\m<=5) (hSq:∀ z∈Sq,∃ l e,l≠[]/\z.2=.cells l e false)
  (htr:∀ p q r,bt p q=true->bt q r=true->bt p r=true) (htot:∀ b c,0<b->b<2 ^ m->0<c->c<2 ^ m->ok b=true->ok c=true->(bitsM b m,hi b)=(bitsM c m,hi c)\/bt (bitsM b m,hi b) (bitsM c m,hi c)=true\/bt (bitsM c m,hi c) (bitsM b m,hi b)=true)
  (hsq:∀ b,0<b->b<2 ^ m->∀ (jr:Nat) {T:Goroutine->Hp->Prop},Shut Tryz.prog false T->CallK Tryz.prog T gm 135 [.agg [a0,a1,a2,a3,.sl s 0 m,a5,a6,a7],.sl jr 0 (bitsM b m).length] ((jr,.cells ((bitsM b m).map fun a=>.v (.int .i64 a)) 3 false)::Sq) (fun r K'=>r=.tup [.agg [.v (.int .i64 (lw b)),.v (.int .i64 (hi b))],.v (.bool (ok b))]/\K'=(jr,.cells ((bitsM b m).map fun a=>.v (.int .i64 a)) 3 false)::Sq))
  (hbt:∀ {T:Goroutine->Hp->Prop},Shut Tryz.prog false T->∀ (jr:Nat) (cs:List Int) (cost:Int) (cs0:List Int) (cost0:Int) (j0:Nat) (e0:TypeId),cs.length<=5->CallFK Tryz.prog T gm (.fn gF [] []) [.agg [.sl jr 0 cs.length,.v (.int .i64 cost)],.agg [.sl j0 0 cs0.length,.v (.int .i64 cost0)]] [(jr,.cells (cs.map fun a=>.v (.int .i64 a)) 3 false),(j0,.cells (cs0.map fun a=>.v (.int .i64 a)) e0 false)] (fun r K'=>r=.v (.bool (bt (cs,cost) (cs0,cost0)))/\K'=[(jr,.cells (cs.map fun a=>.v (.int .i64 a)) 3 false),(j0,.cells (cs0.map fun a=>.v (.int .i64 a)) e0 false)])) :
  CallK Tryz.prog (BT Tryz.prog Ψ) gm 108 [.agg [a0,a1,a2,a3,.sl s 0 m,a5,a6,a7],.fn gF [] []] Sq (fun r K'=>PlanR Sq m bt hi ok r K'):=by
 obtain ⟨n,hn⟩:∃ n,n=2 ^ m - 1:=⟨_,rfl⟩
 obtain ⟨lkr,hlk⟩:∃ lkr:Nat->Bool,lkr=fun i=>decide (i<2 ^ m - 1)&&ok (i+1):=⟨_,rfl⟩
 obtain ⟨off,hof⟩:∃ off:Nat->List Int×Int,off=fun i=>(bitsM (i+1) m,hi (i+1)):=⟨_,rfl⟩
 refine callK_in3 50 (shut_BT Ψ) Tryz.func108 fun Y hro hret3=>?_
 have hret:RetK Y Tryz.f108.results.toList (fun r K'=>PlanR Sq m bt hi ok r K'):=fun j env K' K'' D r hj hs hres hp A' hA'=>hret3 j [] env K' K' K'' [] D r hj (.all _) List.nodup_nil sQ hs hres hp A' hA'
 have hn1:1<=n/\n<=31:=by
  obtain ⟨h1,h2⟩:=hm
  have:m=1\/m=2\/m=3\/m=4\/m=5:=by omega
  rcases this with rfl | rfl | rfl | rfl | rfl <;> subst hn <;> decide
 have hsh:IntKind.i64.wrap (1*2 ^ ((m:Nat):Int).toNat)=((2 ^ m:Nat):Int):=by
  obtain ⟨h1,h2⟩:=hm
  have:m=1\/m=2\/m=3\/m=4\/m=5:=by omega
  rcases this with rfl | rfl | rfl | rfl | rfl <;> decide
 have hm2:2 ^ m<=32:=by omega
 have hlk1:∀ i,lkr i=true->i+1<2 ^ m/\ok (i+1)=true:=fun i h=>by
  rw [hlk] at h
  simp only [Bool.and_eq_true,decide_eq_true_eq] at h
  exact ⟨by omega,h.2⟩
 have hnee:∀ i,lkr i=true->(off i).1≠[]:=fun i h=>by
  rw [hof]
  exact fun e=>by have:=bitsM_nil hm.2 (hlk1 i h).1 e; omega
 refine au [4,5,21] ?_
 intro jk hjk
 refine au [21] ?_
 intro jf hjf
 refine au [22] ?_
 intro jres hjres
 refine au [2,3,4,5,22] ?_
 intro jo hjo
 refine au [3,4,5,22] ?_
 intro jm hjm
 refine au [3,4,5,22] ?_
 intro jw hjw
 refine au [3,4,4] ?_
 refine TK.kp ((jm,_)::(jw,_)::(jo,_)::(jk,_)::(jf,_)::(jres,_)::Sq) ?_
 refine TK.into (n:=n) (lkr:=lkr) (tM:=194) (tW:=201) (tO:=187) (d7:=7) (d8:=8) (vs9:=z9) (GIo lkr off bt 187) hn1 hro rfl rfl dQ sQ (fun lo hlo=>gio_zero lo) ?_
 intro y φ0 A0 hyn hyl hyS hyG hyb hjo hback k
 refine TK.frz (j:=jk) ?_
 refine TK.frz (j:=jf) ?_
 refine au [5,7,7,7,9,28] ?_
 refine TK.a rfl (q_shL rfl rfl rfl ⟨by omega,by show ((m:Nat):Int)<=64; omega⟩ (r:=((2 ^ m:Nat):Int)) hsh) ?_
 refine au [1,3,13] ?_
 refine TK.maskL [2,3,4,5,6,7,8,17,18] ?_
 refine TK.loopR (ι:=Nat) (fun b=>.m { pc:=if b - 1<n then .a0 else .w0,j:=b - 1 }) (fun r b env K=>b<=2 ^ m/\r=2 ^ m - b/\K=(jo,AObj.gone)::(jk,AObj.cells [a0,a1,a2,a3,.sl s 0 m,a5,a6,a7] 139 false)::(jf,AObj.cells [.fn gF [] []] 146 false)::(jres,AObj.cells [.v (.slice none 0 0),.v (.int .i64 0)] 143 true)::Sq/\env=[.any,.any,.ptr jk 0,.ptr jf 0,.ptr jres 0,.v (.bool false),.ptr jo 0,.v (.pointer (some ⟨y.Mu,0,none⟩)),.v (.pointer (some ⟨y.Wg,0,none⟩)),.any,.any,.any,.any,.any,.any,.any,.any,.v (.int .i64 ((2 ^ m:Nat):Int)),.v (.int .i64 ((b:Nat):Int)),.any,.any,.any,.any,.any,.any,.any,.any,.any,.any,.any,.any,.any,.any,.any,.any,.any,.any,.any,.any,.any,.any,.any,.any,.any,.any,.any,.any,.any,.any,.any]) (2 ^ m) 0 ⟨Nat.zero_le _,rfl,rfl,rfl⟩ (by rw [if_pos oQ]) ?_
 rintro r k b env K ⟨hb,hr,rfl,rfl⟩ ih
 refine au [4,5,6,3,4,20] ?_
 refine ⟨fun hc0=>?_,fun hc0=>?_⟩
 ·have hbn:b<2 ^ m:=Int.ofNat_lt.1 (of_decide_eq_true hc0)
  refine au [12,4,13,4,5,1,2,3,4,5,22] ?_
  intro jc hjc
  refine TK.virtAt (i:=0) (e:=3) (size:=1) rfl (fun _=>uQ) fun jn0 hjn0=>?_
  refine au [3,4,4,5,7,7,7,9,28,1,3,13] ?_
  refine TK.maskL [2,3,4,5,6,7,8,9,10,17,18,25,26] ?_
  refine TK.kp ((jc,_)::(jn0,_)::(jo,AObj.gone)::(jk,AObj.cells [a0,a1,a2,a3,.sl s 0 m,a5,a6,a7] 139 false)::(jf,AObj.cells [.fn gF [] []] 146 false)::(jres,AObj.cells [.v (.slice none 0 0),.v (.int .i64 0)] 143 true)::Sq) ?_
  refine TK.loopN (fun n1 env K=>∃ (i jr:Nat),n1=m - i/\i<=m/\env=[.any,.any,.ptr jk 0,.ptr jf 0,.ptr jres 0,.v (.bool false),.ptr jo 0,.v (.pointer (some ⟨y.Mu,0,none⟩)),.v (.pointer (some ⟨y.Wg,0,none⟩)),.v (.int .i64 ((b:Nat):Int)),.ptr jc 0,.any,.any,.any,.any,.any,.any,.v (.int .i64 ((2 ^ m:Nat):Int)),.v (.int .i64 ((b:Nat):Int)),.any,.any,.any,.any,.any,.any,.v (.int .i64 ((m:Nat):Int)),.v (.int .i64 ((i:Nat):Int)),.any,.any,.any,.any,.any,.any,.any,.any,.any,.any,.any,.any,.any,.any,.any,.any,.any,.any,.any,.any,.any,.any,.any]/\K=(jc,AObj.cells [.row jr (bitsM b i).length] 27 true)::(jr,AObj.row ((bitsM b i).map fun a=>.v (.int .i64 a)) 3 1)::(jo,AObj.gone)::(jk,AObj.cells [a0,a1,a2,a3,.sl s 0 m,a5,a6,a7] 139 false)::(jf,AObj.cells [.fn gF [] []] 146 false)::(jres,AObj.cells [.v (.slice none 0 0),.v (.int .i64 0)] 143 true)::Sq) m ⟨0,jn0,rfl,Nat.zero_le _,rfl,rfl⟩ fun n1 env K hI hnext=>?_
  obtain ⟨i,jr,rfl,him,rfl,rfl⟩:=hI
  have hbl:=bitsM_le b i
  refine au [4,5,6,3,4,20] ?_
  refine ⟨fun hc1=>?_,fun hc1=>?_⟩
  ·have hlt:i<m:=by simp at hc1; omega
   refine au [12,4,13,4,5,1,2,3,4,5,1,1] ?_
   refine TK.a rfl (q_sh rfl rfl rfl ⟨by omega,by show ((i:Nat):Int)<=64; omega⟩ (sh_nat b i)) ?_
   refine TK.a rfl (q_and1 rfl rfl rfl (by have:=Nat.div_le_self b (2 ^ i); omega)) ?_
   refine au [6,3,20] ?_
   refine ⟨fun hc2=>?_,fun hc2=>?_⟩
   ·have hbit:b / 2 ^ i % 2=1:=by have h:=eq_of_beq hc2; omega
    refine au [5,9,1] ?_
    refine TK.newR rfl rfl rfl (n_buildSlice (l:=[_]) rfl SlEl.h TyZ.h dQ dQ rfl) (fun _=>putS rfl (by simp only [List.set]; rfl)) fun j1 hj1=>?_
    refine TK.appR rfl rfl rfl (a_app rfl ApOf.h rfl mQ sQ rfl (src_row (ln:=[_]) mQ dQ sQ rfl) oQ rfl (by unfold maxLen; omega) oQ) (fun _=>uQ) (fun _=>putS rfl (by simp only [List.set]; rfl)) fun jr2=>?_
    refine au [17,3,14,5,23,1,3] ?_
    refine TK.maskL [2,3,4,5,6,7,8,9,10,17,18,25,26] ?_
    refine TK.kp ((jc,_)::(jr2,_)::(jo,AObj.gone)::(jk,AObj.cells [a0,a1,a2,a3,.sl s 0 m,a5,a6,a7] 139 false)::(jf,AObj.cells [.fn gF [] []] 146 false)::(jres,AObj.cells [.v (.slice none 0 0),.v (.int .i64 0)] 143 true)::Sq) ?_
    have hk:bitsM b (i+1)=bitsM b i++[(i:Int)]:=by show bitsM b i++_=_; rw [if_pos hbit]
    have hl:(bitsM b (i+1)).length=(bitsM b i).length+1:=by rw [hk]; simp
    exact hnext (m - (i+1)) _ _ oQ ⟨i+1,jr2,rfl,by omega,rfl,by rw [hl,hk,List.map_append]; rfl⟩
   have hbit:¬ b / 2 ^ i % 2=1:=fun h=>by rw [h] at hc2; simp at hc2
   refine au [12,14,5,23,1,3] ?_
   refine TK.maskL [2,3,4,5,6,7,8,9,10,17,18,25,26] ?_
   exact hnext (m - (i+1)) _ _ oQ ⟨i+1,jr,rfl,by omega,rfl,by rw [show bitsM b (i+1)=bitsM b i from by show bitsM b i++_=_; rw [if_neg hbit,List.append_nil]]⟩
  obtain rfl:m=i:=by simp at hc1; omega
  refine au [16,4,4,5,9,28,6,3,20] ?_
  refine ⟨fun hc3=>?_,fun hc3=>?_⟩
  ·have hb0:b=0:=bitsM_nil hm.2 hbn (List.length_eq_zero_iff.1 (by have:=eq_of_beq hc3; omega))
   refine au [16,5,23,1,3] ?_
   refine TK.maskL [2,3,4,5,6,7,8,17,18] ?_
   refine TK.kp ((jo,AObj.gone)::(jk,AObj.cells [a0,a1,a2,a3,.sl s 0 m,a5,a6,a7] 139 false)::(jf,AObj.cells [.fn gF [] []] 146 false)::(jres,AObj.cells [.v (.slice none 0 0),.v (.int .i64 0)] 143 true)::Sq) ?_
   refine TK.castT (T':=.m { pc:=if b+1 - 1<n then .a0 else .w0,j:=b+1 - 1 }) rfl (by subst hb0; rfl) ?_
   exact ih (2 ^ m - (b+1)) _ (b+1) _ _ oQ ⟨by omega,rfl,rfl,rfl⟩
  have hb1:0<b:=Nat.pos_of_ne_zero fun e=>by subst e; rw [bits_zero] at hc3; simp at hc3
  refine au [12,4,5] ?_
  refine TK.castT (T':=.m { pc:=.a0,j:=b - 1 }) rfl (by show TT.m { pc:=if b - 1<n then .a0 else .w0,j:=b - 1 }=_; rw [if_pos oQ]) ?_
  refine TK.callS rfl rfl rfl rfl (wgAdd_ok (lo:=(jo,φ0 jo)) y) hjo rfl ?_
  rintro r2 K2 T2 ⟨rfl,rfl,k2,hk2,rfl⟩
  refine ⟨y.shutF _ _ _ _ _ _,?_⟩
  refine au [3] ?_
  refine TK.kp ((jc,_)::(jr,_)::(jo,AObj.gone)::(jk,AObj.cells [a0,a1,a2,a3,.sl s 0 m,a5,a6,a7] 139 false)::(jf,AObj.cells [.fn gF [] []] 146 false)::(jres,AObj.cells [.v (.slice none 0 0),.v (.int .i64 0)] 143 true)::Sq) ?_
  refine TK.unrowAt (c:=jc) (i:=0) (j:=jr) rfl mQ uQ ?_
  refine TK.frz (j:=jc) ?_
  refine TK.frzRow (j:=jr) ?_
  refine TK.nd fun hnd=>?_
  refine au [5,32] ?_
  have hlb:lkr (b - 1)=ok b:=by rw [hlk]; show (decide (b - 1<2 ^ m - 1)&&ok (b - 1+1))=ok b; rw [show b - 1+1=b by omega,decide_eq_true oQ,Bool.true_and]
  have hob:off (b - 1)=(bitsM b m,hi b):=by rw [hof]; show (bitsM (b - 1+1) m,hi (b - 1+1))=_; rw [show b - 1+1=b by omega]
  have hnd:(jc::jr::jo::jk::jf::jres::keys Sq).Nodup:=hnd
  simp only [List.nodup_cons,List.mem_cons,not_or] at hnd
  refine TK.fork (S:=(jk,AObj.cells [a0,a1,a2,a3,.sl s 0 m,a5,a6,a7] 139 false)::(jc,AObj.cells [.sl jr 0 (bitsM b m).length] 27 false)::(jr,AObj.cells ((bitsM b m).map fun a=>.v (.int .i64 a)) 3 false)::(jf,AObj.cells [.fn gF [] []] 146 false)::Sq) (lo:=(jo,φ0 jo)) rfl rfl rfl rfl rfl (by kernel_rfl) (fun z hz=>by
   simp only [List.mem_cons] at hz
   rcases hz with rfl | rfl | rfl | rfl | hz
   ·exact ⟨by simp,_,_,List.cons_ne_nil _ _,rfl⟩
   ·exact ⟨by simp,_,_,List.cons_ne_nil _ _,rfl⟩
   ·exact ⟨by simp,_,_,fun e=>by rw [List.map_eq_nil_iff] at e; have:=bitsM_nil hm.2 hbn e; omega,rfl⟩
   ·exact ⟨by simp,_,_,List.cons_ne_nil _ _,rfl⟩
   ·exact ⟨by simp [hz],hSq z hz⟩)
   (by show (jk::jc::jr::jf::keys Sq).Nodup; simp only [List.nodup_cons,List.mem_cons,not_or]; grind)
   hjo rfl (by show jo∉jk::jc::jr::jf::keys Sq; simp only [List.mem_cons,not_or]; grind)
   (fun k3 x3 φ3 A3 Hc3 vs3 hv3 hd3 hl3 hl4 hg3 hH3 hvs3=>worker_ok (lo:=(jo,φ0 jo)) (i:=b - 1) (cs:=bitsM b m) (a:=lw b) (cost:=hi b) (off:=off) (bt:=bt) y (by rw [hyl]; exact hyG) hyb (fun _=>hob) (by rw [hyl]; exact hnee) htr
    (by rw [hyl]; intro i1 i2 h1 h2; rw [hof]; exact htot (i1+1) (i2+1) oQ (hlk1 i1 h1).1 oQ (hlk1 i2 h2).1 (hlk1 i1 h1).2 (hlk1 i2 h2).2)
    (fun hT=>by rw [hyl,hlb]; exact hsq b hb1 hbn jr hT) (fun hT cs0 cost0 j0 e0=>hbt hT jr _ _ cs0 cost0 j0 e0 (by have:=bitsM_le b m; omega)) hv3 hd3 hl3 hl4 hg3 hH3 hvs3) (fun k3 hk3=>?_)
  refine au [3,14,5,23,1,3] ?_
  refine TK.maskL [2,3,4,5,6,7,8,17,18] ?_
  refine TK.kp ((jo,AObj.gone)::(jk,AObj.cells [a0,a1,a2,a3,.sl s 0 m,a5,a6,a7] 139 false)::(jf,AObj.cells [.fn gF [] []] 146 false)::(jres,AObj.cells [.v (.slice none 0 0),.v (.int .i64 0)] 143 true)::Sq) ?_
  refine TK.castT (T':=.m { pc:=if b+1 - 1<n then .a0 else .w0,j:=b+1 - 1 }) rfl (by show TT.m { pc:=if b - 1+1<y.n then .a0 else .w0,j:=b - 1+1 }=_; rw [hyn,show b - 1+1=b by omega,Nat.add_sub_cancel]) ?_
  exact ih (2 ^ m - (b+1)) _ (b+1) _ _ oQ ⟨by omega,rfl,rfl,rfl⟩
 have hbn:¬ b<2 ^ m:=fun h=>of_decide_eq_false hc0 (Int.ofNat_lt.2 h)
 obtain rfl:b=2 ^ m:=by omega
 refine au [16,4,5] ?_
 refine TK.castT (T':=.m { pc:=.w0,j:=2 ^ m - 1 }) rfl (by show TT.m { pc:=if 2 ^ m - 1<n then .a0 else .w0,j:=2 ^ m - 1 }=_; rw [if_neg oQ]) ?_
 refine TK.callS rfl rfl rfl rfl (wgWait_ok (lo:=(jo,φ0 jo)) (PW:=PLo lkr off bt 187 jo y.all) y (hyS ▸ shut_BT Ψ) (giw_of hyG hyb)) hjo rfl ?_
 rintro r2 K2 T2 ⟨rfl,⟨best,hbest,hpl⟩,hT2⟩
 obtain rfl:T2=BT Tryz.prog Ψ:=hT2.trans hyS
 refine ⟨shut_BT Ψ,?_⟩
 refine hback ?_
 have hall:∀ c,0<c->c<2 ^ m->ok c=true->lkr (c - 1)=true/\y.all (c - 1)=true/\off (c - 1)=(bitsM c m,hi c):=fun c h1 h2 h3=>by
  have e:lkr (c - 1)=true:=by rw [hlk]; show (decide (c - 1<2 ^ m - 1)&&ok (c - 1+1))=true; rw [show c - 1+1=c by omega,decide_eq_true oQ,h3]; rfl
  refine ⟨e,?_,?_⟩
  ·show (y.lkr (c - 1)&&decide (c - 1<y.n))=true
   rw [hyl,e,hyn,decide_eq_true oQ]; rfl
  ·rw [hof]; show (bitsM (c - 1+1) m,hi (c - 1+1))=_; rw [show c - 1+1=c by omega]
 rcases best with _ | ⟨cs0,cost0⟩
 ·have hpl:K2=[(jo,.cells (z9.map AV.v) 187 true)]:=hpl
  subst hpl
  refine au [3,4] ?_
  refine TK.draw [0,1,2,3,4,5] [0,1,4,2,3,5] (by kernel_rfl) (by kernel_rfl) ?_
  refine TD.z [6] rfl (q_fieldAddr rfl rfl FldOf.h dQ) ?_
  refine TD.y [46] rfl (hq:=q_load rfl rfl TySz.h (List.Mem.head _) rfl) (h:=?_)
  refine TD.z [6] rfl (q_fieldAddr rfl rfl FldOf.h dQ) ?_
  refine TD.y [48] rfl (hq:=q_load1 rfl rfl TySz.h (List.Mem.head _) rfl) (h:=?_)
  refine TD.s (pend':=[⟨3,[48],[(_,_)]⟩,⟨2,[6],[]⟩]) [4,47] rfl rfl (q_store rfl rfl TySz.h rfl rfl mQ rfl) ?_
  refine TD.as (pend':=[]) [49] rfl rfl (q_assign rfl rfl) ?_
  refine TD.fin ?_
  refine au [] ?_
  refine TK.rt hret (Sq) ?_
  refine .inl ⟨rfl,rfl,fun c h1 h2=>?_⟩
  cases h3:ok c with
  | false=>rfl
  | true =>
   obtain ⟨q1,q2,q3⟩:=hall c h1 h2 h3
   have:=hbest (c - 1) q1
   rw [q2] at this
   cases this
 ·obtain ⟨j0,e0,rfl⟩:=hpl
  refine au [3,4] ?_
  refine TK.draw [0,1,2,3,4,5] [0,1,4,2,3,5] (by kernel_rfl) (by kernel_rfl) ?_
  refine TD.z [6] rfl (q_fieldAddr rfl rfl FldOf.h dQ) ?_
  refine TD.y [46] rfl (hq:=q_load rfl rfl TySz.h (List.Mem.head _) rfl) (h:=?_)
  refine TD.z [6] rfl (q_fieldAddr rfl rfl FldOf.h dQ) ?_
  refine TD.y [48] rfl (hq:=q_load1 rfl rfl TySz.h (List.Mem.head _) rfl) (h:=?_)
  refine TD.s (pend':=[⟨3,[48],[(_,_)]⟩,⟨2,[6],[]⟩]) [4,47] rfl rfl (q_store rfl rfl TySz.h rfl rfl mQ rfl) ?_
  refine TD.as (pend':=[]) [49] rfl rfl (q_assign rfl rfl) ?_
  refine TD.fin ?_
  refine au [] ?_
  refine TK.rt hret ((j0,_)::Sq) ?_
  obtain ⟨⟨i0,h1,h2,h3⟩,h4⟩:=hbest
  obtain ⟨q1,q2⟩:=hlk1 i0 h1
  rw [hof] at h3
  cases h3
  refine .inr ⟨i0+1,j0,e0,by omega,q1,q2,fun c g1 g2 g3=>?_,rfl,rfl⟩
  obtain ⟨p1,p2,p3⟩:=hall c g1 g2 g3
  have:=h4 (c - 1) p1 p2
  rw [p3] at this
  exact this
end Go.Vel
namespace Go.Vel
open Go Go.Conc
structure RSeam where
 step:Int
 most:Int
 busy:Int
 spoil:Int
 whole:Bool
deriving DecidableEq
structure RBand where
 low:Int
 high:Int
deriving DecidableEq
structure RMeas where
 cloth:Int
 many:Int
 wide:Int
deriving DecidableEq
structure RBk where
 steps:Int
 round:Int
 roll:Int
 rolls:Int
 seams:List RSeam
 shrinks:List RBand
 measures:List RMeas
deriving DecidableEq
instance:Inhabited RSeam:=⟨⟨0,0,0,0,false⟩⟩
instance:Inhabited RBand:=⟨⟨0,0⟩⟩
instance:Inhabited RMeas:=⟨⟨0,0,0⟩⟩
abbrev intA (n:Int):AV:=.v (.int .i64 n)
abbrev boolA (t:Bool):AV:=.v (.bool t)
def seamC (x:RSeam):List AV:=[intA x.step,intA x.most,intA x.busy,intA x.spoil,boolA x.whole]
def bandC (x:RBand):List AV:=[intA x.low,intA x.high]
def measC (x:RMeas):List AV:=[intA x.cloth,intA x.many,intA x.wide]
def rollC (b:RBk) (s h e:Nat):List AV:=[intA b.steps,intA b.round,intA b.roll,intA b.rolls,.sl s 0 b.seams.length,.sl h 0 b.shrinks.length,.sl e 0 b.measures.length]
abbrev seamO (b:RBk):AObj:=.cells (b.seams.flatMap seamC) 94 false
abbrev shrO (b:RBk):AObj:=.cells (b.shrinks.flatMap bandC) 51 false
abbrev measO (b:RBk):AObj:=.cells (b.measures.flatMap measC) 49 false
abbrev intsO (l:List Int):AObj:=.cells (l.map intA) 3 false
def slotR (s:List Int) (i:Nat):AV:=intA (s.getD i 0)
def stC (s:List Int):List AV:=[slotR s 0,slotR s 1,slotR s 2,slotR s 3,slotR s 4]
theorem flat_take {α:Type} (f:α->List AV) (c:Nat) (hc:∀ x,(f x).length=c):∀ (xs:List α) (i:Nat) (h:i<xs.length),((xs.flatMap f).drop (i*c)).take c=f xs[i]
 | x::xs,0,_=>by
  rw [Nat.zero_mul,List.drop_zero,List.flatMap_cons,List.take_left' (hc x)]; rfl
 | x::xs,i+1,h=>by
  rw [List.flatMap_cons,Nat.succ_mul,Nat.add_comm,<- List.drop_drop,List.drop_left' (hc x)]
  exact flat_take f c hc xs i (by simpa using h)
theorem flat_len {α:Type} (f:α->List AV) (c:Nat) (hc:∀ x,(f x).length=c) (xs:List α):(xs.flatMap f).length=xs.length*c:=by
 induction xs with
 | nil=>simp
 | cons x xs ih=>rw [List.flatMap_cons,List.length_append,ih,hc,List.length_cons,Nat.succ_mul,Nat.add_comm]
theorem flat_at {α:Type} {f:α->List AV} {c:Nat} (hc:∀ x,(f x).length=c) {xs:List α} {x:α} {i:Nat} {n:Int} {e:TypeId} {rw':Bool} (h:xs[i]? =some x) (hn:n=(i:Int)) (h0:0<c):takeO (.cells (xs.flatMap f) e rw') (0+n.toNat*c) c=some (f x):=by
 subst hn
 obtain ⟨h1,h2⟩:=List.getElem?_eq_some_iff.1 h
 have hle:(i+1)*c<=xs.length*c:=Nat.mul_le_mul_right _ h1
 have:(i+1)*c=i*c+c:=Nat.succ_mul ..
 simp only [takeO,AObj.look,Int.toNat_natCast,Nat.zero_add]
 rw [if_pos ⟨by omega,by rw [flat_len f c hc]; omega⟩,flat_take f c hc _ _ h1,h2]
theorem ints_at {l:List Int} {i:Nat} {n x:Int} {e:TypeId} {rw':Bool} (h:l[i]? =some x) (hn:n=(i:Int)):takeO (.cells (l.map intA) e rw') (0+n.toNat*1) 1=some [intA x]:=by
 subst hn
 obtain ⟨h1,h2⟩:=List.getElem?_eq_some_iff.1 h
 simp only [takeO,AObj.look,Int.toNat_natCast,Nat.zero_add,Nat.mul_one]
 rw [if_pos ⟨by omega,by rw [List.length_map]; omega⟩,List.take_one,List.head?_drop,List.getElem?_map,h]
 rfl
theorem rows_at {l:List Int} {i:Nat} {n x:Int} {e:TypeId} {s:Nat} (h:l[i]? =some x) (hn:n=(i:Int)):takeO (.row (l.map intA) e s) (n.toNat*1) 1=some [intA x]:=by
 subst hn
 obtain ⟨h1,h2⟩:=List.getElem?_eq_some_iff.1 h
 simp only [takeO,AObj.look,Int.toNat_natCast,Nat.mul_one]
 rw [if_pos ⟨by omega,by rw [List.length_map]; omega⟩,List.take_one,List.head?_drop,List.getElem?_map,h]
 rfl
theorem take_fld {ob:AObj} {p n c:Nat} {l:List AV} {v:AV} (h:takeO ob p n=some l) (hc:c<n) (hl:l[c]? =some v):takeO ob (p+c) 1=some [v]:=by
 unfold takeO at h ⊢
 cases hk:ob.look with
 | none=>rw [hk] at h; cases h
 | some q =>
  rw [hk] at h
  dsimp only at h ⊢
  split at h
  ·rename_i hb
   cases h
   rw [if_pos ⟨by omega,by omega⟩]
   rw [List.getElem?_take,if_pos hc,List.getElem?_drop] at hl
   obtain ⟨h1,h2⟩:=List.getElem?_eq_some_iff.1 hl
   rw [List.take_one,List.head?_drop,hl]
   rfl
  ·cases h
theorem drop_cons {α:Type} {l:List α} {i:Nat} {x:α} (h:l[i]? =some x):l.drop i=x::l.drop (i+1):=by
 obtain ⟨h1,rfl⟩:=List.getElem?_eq_some_iff.1 h
 exact List.drop_eq_getElem_cons h1
theorem take_snoc {α:Type} {l:List α} {i:Nat} {x:α} (h:l[i]? =some x):l.take (i+1)=l.take i++[x]:=by
 rw [List.take_add_one,h]; rfl
def sm (b:RBk) (i:Nat):RSeam:=b.seams.getD i default
theorem sm_get {b:RBk} {i:Nat} (h:i<b.seams.length):b.seams[i]? =some (sm b i):=by
 unfold sm
 rw [List.getD_eq_getElem?_getD,List.getElem?_eq_getElem h]; rfl
theorem sm_mem {b:RBk} {i:Nat} (h:i<b.seams.length):sm b i∈b.seams:=List.mem_of_getElem? (sm_get h)
def bd (b:RBk) (i:Nat):RBand:=b.shrinks.getD i default
theorem bd_get {b:RBk} {i:Nat} (h:i<b.shrinks.length):b.shrinks[i]? =some (bd b i):=by
 unfold bd
 rw [List.getD_eq_getElem?_getD,List.getElem?_eq_getElem h]; rfl
theorem sm_at (b:RBk) {i:Nat} {n:Int} {e:TypeId} {rw':Bool} (h:i<b.seams.length) (hn:n=(i:Int)):takeO (.cells (b.seams.flatMap seamC) e rw') (0+n.toNat*5) 5=some (seamC (sm b i)):=flat_at (c:=5) (fun _=>rfl) (sm_get h) hn dQ
theorem bd_at (b:RBk) {i:Nat} {n:Int} {e:TypeId} {rw':Bool} (h:i<b.shrinks.length) (hn:n=(i:Int)):takeO (.cells (b.shrinks.flatMap bandC) e rw') (0+n.toNat*2) 2=some (bandC (bd b i)):=flat_at (c:=2) (fun _=>rfl) (bd_get h) hn dQ
def wideM (b:RBk) (i:Nat):Int:=(if i+1<b.seams.length then (sm b (i+1)).step else (sm b 0).step+b.steps) - (sm b i).step
def betw (n lo hi:Int):Bool:=decide (lo<=n)&&decide (n<=hi)
theorem betw_t {n lo hi:Int} (h:betw n lo hi=true):lo<=n/\n<=hi:=by simpa [betw] using h
def isBd (x:RBand) (lo hi:Int):Bool:=decide (lo<=x.low)&&decide (x.low<=x.high)&&decide (x.high<=hi)
def roundsM (b:RBk):Int:=if (betw b.steps 2 24&&betw b.round b.steps 40&&betw b.roll 1 24&&betw b.rolls 1 5)=true then 0 else 1
def seamB (b:RBk) (s:RSeam):Bool:=betw s.step 0 (b.steps - 1)&&betw s.most 0 9&&betw s.busy 0 9&&betw s.spoil 0 9
def seamsL (b:RBk):Int->List RSeam->Int
 | _,[]=>0
 | last,s::r=>if seamB b s=false then 1 else if s.step<=last then 7 else seamsL b s.step r
def seamsM (b:RBk):Int:=if betw b.seams.length 1 5=false then 2 else seamsL b (-1) b.seams
def bandB (x:RBand):Bool:=isBd x 0 5&&decide (x.high - x.low<3)
def clothsL (b:RBk):Nat->List RBand->Int
 | _,[]=>0
 | i,x::r=>if bandB x=false then 1 else if wideM b i<=x.high then 8 else clothsL b (i+1) r
def clothsM (b:RBk):Int:=if b.shrinks.length≠b.seams.length then 2 else clothsL b 0 b.shrinks
def thereM (b:RBk) (n:Int):Int:=if betw n 0 (b.seams.length - 1)=true then 0 else 6
def measB (b:RBk) (m:RMeas):Bool:=betw m.many 1 b.seams.length&&betw m.wide 0 24
def measL (b:RBk):List RMeas->Int
 | []=>0
 | m::r=>if thereM b m.cloth≠0 then thereM b m.cloth else if measB b m=false then 1 else measL b r
def measM (b:RBk):Int:=if 3<b.measures.length then 2 else measL b b.measures
def checkM (b:RBk):Int:=if roundsM b≠0 then roundsM b else if seamsM b≠0 then seamsM b else if clothsM b≠0 then clothsM b else measM b
structure RndOk (b:RBk):Prop where
 steps:2<=b.steps/\b.steps<=24
 round:b.steps<=b.round/\b.round<=40
 roll:1<=b.roll/\b.roll<=24
 rolls:1<=b.rolls/\b.rolls<=5
theorem rounds_ok0 {b:RBk} (h:roundsM b=0):RndOk b:=by
 unfold roundsM at h
 split at h
 ·rename_i h1
  simp only [betw,Bool.and_eq_true,decide_eq_true_eq] at h1
  obtain ⟨⟨⟨⟨h1,h2⟩,h3,h4⟩,h5,h6⟩,h7,h8⟩:=h1
  exact ⟨⟨h1,h2⟩,⟨h3,h4⟩,⟨h5,h6⟩,⟨h7,h8⟩⟩
 ·cases h
structure SmOk (b:RBk):Prop where
 len:1<=b.seams.length/\b.seams.length<=5
 fld:∀ i,i<b.seams.length->0<=(sm b i).step/\(sm b i).step<b.steps/\0<=(sm b i).most/\(sm b i).most<=9/\0<=(sm b i).busy/\(sm b i).busy<=9/\0<=(sm b i).spoil/\(sm b i).spoil<=9
 asc:∀ i j,i<j->j<b.seams.length->(sm b i).step<(sm b j).step
theorem seamB_t {b:RBk} {s:RSeam} (h:seamB b s=true):0<=s.step/\s.step<b.steps/\0<=s.most/\s.most<=9/\0<=s.busy/\s.busy<=9/\0<=s.spoil/\s.spoil<=9:=by
 simp only [seamB,betw,Bool.and_eq_true,decide_eq_true_eq] at h
 omega
theorem seamsL_0 {b:RBk}:∀ (l:List RSeam) (last:Int),seamsL b last l=0->(∀ s∈l,seamB b s=true/\last<s.step)/\l.Pairwise fun s t=>s.step<t.step
 | [],last,_=>⟨fun s hs=>by simp at hs,.nil⟩
 | s::r,last,h=>by
  unfold seamsL at h
  split at h
  ·cases h
  ·rename_i h1
   split at h
   ·cases h
   ·rename_i h2
    obtain ⟨q1,q2⟩:=seamsL_0 r _ h
    refine ⟨fun t ht=>?_,.cons (fun t ht=>(q1 t ht).2) q2⟩
    rcases List.mem_cons.1 ht with rfl | ht
    ·exact ⟨by simpa using h1,by omega⟩
    ·have:=(q1 t ht).2
     exact ⟨(q1 t ht).1,by omega⟩
theorem seams_ok0 {b:RBk} (h:seamsM b=0):SmOk b:=by
 unfold seamsM at h
 split at h
 ·cases h
 ·rename_i h1
  have h1:betw b.seams.length 1 5=true:=by simpa using h1
  have hl:=betw_t h1
  obtain ⟨q1,q2⟩:=seamsL_0 _ _ h
  refine ⟨by omega,fun i hi=>seamB_t (q1 _ (sm_mem hi)).1,fun i j hij hj=>?_⟩
  have hi:i<b.seams.length:=by omega
  have:=List.pairwise_iff_getElem.1 q2 i j hi hj hij
  have e1:b.seams[i]=sm b i:=by have:=sm_get hi; rw [List.getElem?_eq_getElem hi] at this; exact Option.some.inj this
  have e2:b.seams[j]=sm b j:=by have:=sm_get hj; rw [List.getElem?_eq_getElem hj] at this; exact Option.some.inj this
  rwa [e1,e2] at this
theorem wide_bd {b:RBk} (hr:RndOk b) (hs:SmOk b) {i:Nat} (hi:i<b.seams.length):1<=wideM b i/\wideM b i<=b.steps:=by
 unfold wideM
 have h1:=hs.fld i hi
 have h0:=hs.fld 0 oQ
 split
 ·rename_i h
  have:=hs.asc i (i+1) oQ h
  have:=hs.fld (i+1) h
  omega
 ·rcases Nat.eq_zero_or_pos i with rfl | hp
  ·have:=hr.steps; omega
  ·have:=hs.asc 0 i hp hi
   omega
structure ClOk (b:RBk):Prop where
 len:b.shrinks.length=b.seams.length
 bnd:∀ i,i<b.seams.length->0<=(bd b i).low/\(bd b i).low<=(bd b i).high/\(bd b i).high<=5/\(bd b i).high - (bd b i).low<3/\(bd b i).high<wideM b i
theorem bandB_t {x:RBand} (h:bandB x=true):0<=x.low/\x.low<=x.high/\x.high<=5/\x.high - x.low<3:=by
 simp only [bandB,isBd,Bool.and_eq_true,decide_eq_true_eq] at h
 omega
theorem clothsL_0 {b:RBk}:∀ (l:List RBand) (i:Nat),clothsL b i l=0->∀ k x,l[k]? =some x->bandB x=true/\x.high<wideM b (i+k)
 | [],i,_,k,x,hx=>by simp at hx
 | y::r,i,h,k,x,hx=>by
  unfold clothsL at h
  split at h
  ·cases h
  ·rename_i h1
   split at h
   ·cases h
   ·rename_i h2
    cases k with
    | zero=>simp at hx; subst hx; exact ⟨by simpa using h1,by simpa using h2⟩
    | succ k =>
     have:=clothsL_0 r (i+1) h k x (by simpa using hx)
     rw [show i+(k+1)=i+1+k by omega]
     exact this
theorem cloths_ok0 {b:RBk} (h:clothsM b=0):ClOk b:=by
 unfold clothsM at h
 split at h
 ·cases h
 ·rename_i h1
  have hl:b.shrinks.length=b.seams.length:=by simpa using h1
  refine ⟨hl,fun i hi=>?_⟩
  obtain ⟨q1,q2⟩:=clothsL_0 _ _ h i _ (bd_get oQ)
  have:=bandB_t q1
  rw [Nat.zero_add] at q2
  omega
structure MeOk (b:RBk):Prop where
 len:b.measures.length<=3
 bnd:∀ m∈b.measures,0<=m.cloth/\m.cloth<b.seams.length/\1<=m.many/\m.many<=b.seams.length/\0<=m.wide/\m.wide<=24
theorem there_0 {b:RBk} {n:Int} (h:thereM b n=0):0<=n/\n<b.seams.length:=by
 unfold thereM at h
 split at h
 ·rename_i h1; have:=betw_t h1; omega
 ·cases h
theorem measL_0 {b:RBk}:∀ (l:List RMeas),measL b l=0->∀ m∈l,0<=m.cloth/\m.cloth<b.seams.length/\1<=m.many/\m.many<=b.seams.length/\0<=m.wide/\m.wide<=24
 | [],_,m,hm=>by simp at hm
 | y::r,h,m,hm=>by
  unfold measL at h
  split at h
  ·rename_i h1; exact absurd h h1
  ·rename_i h1
   split at h
   ·cases h
   ·rename_i h2
    rcases List.mem_cons.1 hm with rfl | hm
    ·have h3:=there_0 (b:=b) (n:=m.cloth) (by simpa using h1)
     have h2:measB b m=true:=by simpa using h2
     simp only [measB,betw,Bool.and_eq_true,decide_eq_true_eq] at h2
     omega
    ·exact measL_0 r h m hm
theorem meas_ok0 {b:RBk} (h:measM b=0):MeOk b:=by
 unfold measM at h
 split at h
 ·cases h
 ·exact ⟨by omega,measL_0 _ h⟩
structure ROk (b:RBk):Prop where
 rnd:RndOk b
 sms:SmOk b
 cls:ClOk b
 mes:MeOk b
theorem check_ok0 {b:RBk} (h:checkM b=0):ROk b:=by
 unfold checkM at h
 split at h
 ·rename_i h1; exact absurd h h1
 ·rename_i h1
  split at h
  ·rename_i h2; exact absurd h h2
  ·rename_i h2
   split at h
   ·rename_i h3; exact absurd h h3
   ·rename_i h3
    exact ⟨rounds_ok0 (by simpa using h1),seams_ok0 (by simpa using h2),cloths_ok0 (by simpa using h3),meas_ok0 h⟩
theorem ROk.wide {b:RBk} (h:ROk b) {i:Nat} (hi:i<b.seams.length):1<=wideM b i/\wideM b i<=24:=by
 have:=wide_bd h.rnd h.sms hi
 have:=h.rnd.steps
 omega
def notAft:Option Int->Int->Bool
 | some k,n=>decide (n<=k)
 | none,_=>false
def cutsL (b:RBk):Option Int->List Int->Int
 | _,[]=>0
 | last,n::r=>if thereM b n≠0 then thereM b n else if notAft last n=true then 7 else cutsL b (some n) r
def cutsM (b:RBk) (l:List Int):Int:=if l.length=0 then 2 else cutsL b none l
structure CutsOk (b:RBk) (l:List Int):Prop where
 pos:0<l.length
 bnd:∀ n∈l,0<=n/\n<b.seams.length
 asc:l.Pairwise (· < ·)
theorem cutsL_0 {b:RBk}:∀ (l:List Int) (last:Option Int),cutsL b last l=0->(∀ n∈l,0<=n/\n<b.seams.length/\∀ k,last=some k->k<n)/\l.Pairwise (· < ·)
 | [],_,_=>⟨fun n hn=>by simp at hn,.nil⟩
 | n::r,last,h=>by
  unfold cutsL at h
  split at h
  ·rename_i h1; exact absurd h h1
  ·rename_i h1
   split at h
   ·cases h
   ·rename_i h2
    obtain ⟨q1,q2⟩:=cutsL_0 r _ h
    have ht:=there_0 (b:=b) (n:=n) (by simpa using h1)
    have hk:∀ k,last=some k->k<n:=fun k hk=>by subst hk; simp [notAft] at h2; exact h2
    refine ⟨fun t ht'=>?_,.cons (fun t ht'=>(q1 t ht').2.2 n rfl) q2⟩
    rcases List.mem_cons.1 ht' with rfl | ht'
    ·exact ⟨ht.1,ht.2,hk⟩
    ·obtain ⟨a1,a2,a3⟩:=q1 t ht'
     exact ⟨a1,a2,fun k e=>by have:=hk k e; have:=a3 n rfl; omega⟩
theorem cuts_ok0 {b:RBk} {l:List Int} (h:cutsM b l=0):CutsOk b l:=by
 unfold cutsM at h
 split at h
 ·cases h
 ·obtain ⟨q1,q2⟩:=cutsL_0 _ _ h
  exact ⟨by omega,fun n hn=>⟨(q1 n hn).1,(q1 n hn).2.1⟩,q2⟩
theorem pw_len:∀ (l:List Int) (a m:Int),(∀ n∈l,a<=n/\n<m)->l.Pairwise (· < ·)->a+l.length<=m\/l=[]
 | [],_,_,_,_=>.inr rfl
 | x::r,a,m,h,hp=>by
  left
  obtain ⟨h1,h2⟩:=List.pairwise_cons.1 hp
  have hx:=h x sQ
  rcases pw_len r (x+1) m (fun n hn=>⟨by have:=h1 n hn; omega,(h n (by simp [hn])).2⟩) h2 with h3 | rfl
  ·simp only [List.length_cons]; omega
  ·simp; omega
theorem CutsOk.len {b:RBk} {l:List Int} (h:CutsOk b l):l.length<=b.seams.length:=by
 rcases pw_len l 0 b.seams.length (fun n hn=>h.bnd n hn) h.asc with h1 | h1
 ·omega
 ·subst h1; simp
def cutN (l:List Int) (k:Nat):Int:=l.getD k 0
theorem cut_get {l:List Int} {k:Nat} (h:k<l.length):l[k]? =some (cutN l k):=by
 unfold cutN
 rw [List.getD_eq_getElem?_getD,List.getElem?_eq_getElem h]; rfl
theorem cut_mem {l:List Int} {k:Nat} (h:k<l.length):cutN l k∈l:=List.mem_of_getElem? (cut_get h)
def cutS (b:RBk) (l:List Int) (k:Nat):RSeam:=sm b (cutN l k).toNat
theorem CutsOk.lt {b:RBk} {l:List Int} (h:CutsOk b l) {k:Nat} (hk:k<l.length):0<=cutN l k/\cutN l k<b.seams.length/\(cutN l k).toNat<b.seams.length:=by
 have:=h.bnd _ (cut_mem hk)
 omega
def shL (b:RBk):Nat->List Int->Int
 | _,[]=>0
 | i,n::r=>if betw n 0 5=false then 1 else if wideM b i<=n then 8 else shL b (i+1) r
def shM (b:RBk) (l:List Int):Int:=if l.length≠b.seams.length then 2 else shL b 0 l
structure StOk (b:RBk) (s:List Int):Prop where
 len:s.length=b.seams.length
 bnd:∀ i,i<b.seams.length->0<=s.getD i 0/\s.getD i 0<=5/\s.getD i 0<wideM b i
theorem shL_0 {b:RBk}:∀ (l:List Int) (i:Nat),shL b i l=0->∀ k x,l[k]? =some x->0<=x/\x<=5/\x<wideM b (i+k)
 | [],i,_,k,x,hx=>by simp at hx
 | y::r,i,h,k,x,hx=>by
  unfold shL at h
  split at h
  ·cases h
  ·rename_i h1
   split at h
   ·cases h
   ·rename_i h2
    cases k with
    | zero =>
     simp at hx; subst hx
     have h1:betw y 0 5=true:=by simpa using h1
     have:=betw_t h1
     rw [Nat.add_zero]; omega
    | succ k =>
     have:=shL_0 r (i+1) h k x (by simpa using hx)
     rw [show i+(k+1)=i+1+k by omega]
     exact this
theorem sh_ok0 {b:RBk} {l:List Int} (h:shM b l=0):StOk b l:=by
 unfold shM at h
 split at h
 ·cases h
 ·rename_i h1
  have hl:l.length=b.seams.length:=by simpa using h1
  refine ⟨hl,fun i hi=>?_⟩
  have hg:l[i]? =some (l.getD i 0):=by rw [List.getD_eq_getElem?_getD,List.getElem?_eq_getElem oQ]; rfl
  have:=shL_0 _ _ h i _ hg
  rw [Nat.zero_add] at this
  exact this
def endM (b:RBk) (l:List Int) (k:Nat):Int:=if k+1<l.length then (cutS b l (k+1)).step else (cutS b l 0).step+b.steps
def stripM (b:RBk) (l:List Int) (k:Nat):Int×Int:=(cutN l k,endM b l k - (cutS b l k).step)
def stripsM (b:RBk) (l:List Int):List (Int×Int):=(List.range l.length).map (stripM b l)
def pairC (x:Int×Int):List AV:=[intA x.1,intA x.2]
def fitsM (b:RBk) (l:List Int):Bool:=decide ((l.length:Int)<=b.rolls)&&(List.range l.length).all fun k => !(cutS b l k).whole&&decide ((stripM b l k).2<=b.roll)
section
variable {α:Type} (lt:α->α->Bool)
def insJ (x:α) (S:List α):Nat->List α
 | 0=>x::S
 | j+1=>match S[j]? with
  | some y=>if lt x y=true then insJ x S j else S.take (j+1)++x::S.drop (j+1)
  | none=>S++[x]
def insR (x:α) (S:List α):List α:=insJ lt x S S.length
def sortN (l:List α):Nat->List α
 | 0=>[]
 | i+1=>match l[i]? with
  | some x=>insR lt x (sortN l i)
  | none=>sortN l i
def sortR (l:List α):List α:=sortN lt l l.length
variable {lt}
theorem insJ_len (x:α) (S:List α):∀ j,(insJ lt x S j).length=S.length+1
 | 0=>rfl
 | j+1=>by
  unfold insJ
  split
  ·rename_i y hy
   split
   ·exact insJ_len x S j
   ·have:=(List.getElem?_eq_some_iff.1 hy).1
    simp; omega
  ·simp
theorem sortN_len (l:List α):∀ i,i<=l.length->(sortN lt l i).length=i
 | 0,_=>rfl
 | i+1,h=>by
  unfold sortN
  rw [List.getElem?_eq_getElem oQ]
  dsimp only
  unfold insR
  rw [insJ_len,sortN_len l i oQ]
end
def freshM (b:RBk) (s:List Int):Int:=b.round - b.steps+(s.getD 0 0+s.getD 1 0+s.getD 2 0+s.getD 3 0+s.getD 4 0)
theorem StOk.slot {b:RBk} {s:List Int} (hb:ROk b) (h:StOk b s) (i:Nat):0<=s.getD i 0/\s.getD i 0<=5:=by
 by_cases hi:i<b.seams.length
 ·have:=h.bnd i hi; omega
 ·rw [List.getD_eq_getElem?_getD,List.getElem?_eq_none (by have:=h.len; omega)]
  exact ⟨Int.le_refl _,by decide⟩
theorem fresh_bd {b:RBk} (hb:ROk b) {s:List Int} (h:StOk b s):0<=freshM b s/\freshM b s<=65:=by
 have h0:=h.slot hb 0
 have h1:=h.slot hb 1
 have h2:=h.slot hb 2
 have h3:=h.slot hb 3
 have h4:=h.slot hb 4
 have:=hb.rnd.round
 have:=hb.rnd.steps
 unfold freshM
 omega
def busyLt (b:RBk) (l:List Int) (x y:Int):Bool:=decide ((cutS b l x.toNat).busy<(cutS b l y.toNat).busy)||(decide ((cutS b l x.toNat).busy=(cutS b l y.toNat).busy)&&decide (y<x))
def idxM (n:Nat):List Int:=(List.range n).map fun (k:Nat)=>(k:Int)
def ordM (b:RBk) (l:List Int):List Int:=sortR (busyLt b l) (idxM l.length)
def spoilM (b:RBk) (l:List Int):Nat->Int
 | 0=>0
 | k+1=>spoilM b l k+(cutS b l k).spoil
structure Alloc where
 steps:List Int
 squares:Int
 left:Int
def allocM (b:RBk) (l:List Int) (z:Alloc) (k:Int):Alloc :=
 let n:=min z.left (cutS b l k.toNat).most
 ⟨z.steps.set k.toNat n,z.squares+n*(cutS b l k.toNat).busy,z.left - n⟩
def alloc0 (b:RBk) (l:List Int) (n:Int):Alloc:=⟨List.replicate l.length 0,spoilM b l l.length,n⟩
def allocA (b:RBk) (l:List Int) (n:Int):Alloc:=(ordM b l).foldl (allocM b l) (alloc0 b l n)
def hangM (b:RBk) (l s:List Int):Option (List Int×Int) :=
 if fitsM b l=false then none else
 let z:=allocA b l (freshM b s)
 if 0<z.left then none else some (z.steps,z.squares)
def nowM (b:RBk) (s:List Int) (i:Nat):Int:=wideM b i - s.getD i 0
def togM (b:RBk) (s:List Int) (c:Nat):Nat->Int
 | 0=>0
 | k+1=>togM b s c k+nowM b s ((c+k) % b.seams.length)
def rightM (b:RBk) (s:List Int):Bool:=b.measures.all fun m=>decide (togM b s m.cloth.toNat m.many.toNat=m.wide)
def numsF (n:Int):Nat->List Int
 | 0=>[]
 | k+1=>n::numsF (n+1) k
def numsM (x:RBand):List Int:=numsF x.low (x.high+1 - x.low).toNat
def fromM (b:RBk):List Int->List RBand->List (List Int)
 | p,[]=>if rightM b p=true then [p] else []
 | p,x::r=>(numsM x).flatMap fun n=>fromM b (p++[n]) r
def statesM (b:RBk):List (List Int):=fromM b [] b.shrinks
theorem tog_bd {b:RBk} (hb:ROk b) {s:List Int} (hs:StOk b s) {c:Nat}:∀ k,0<=togM b s c k/\togM b s c k<=24*k
 | 0=>by simp [togM]
 | k+1=>by
  have:=tog_bd hb hs (c:=c) k
  have hi:(c+k) % b.seams.length<b.seams.length:=Nat.mod_lt _ (by have:=hb.sms.len; omega)
  have h1:=hb.wide hi
  have h2:=hs.bnd _ hi
  unfold togM nowM
  omega
theorem numsF_mem:∀ (k:Nat) (n x:Int),x∈numsF n k↔n<=x/\x<n+k
 | 0,n,x=>by simp [numsF]
 | k+1,n,x=>by
  unfold numsF
  rw [List.mem_cons,numsF_mem k]
  omega
theorem nums_mem {x:RBand} (h:x.low<=x.high) {n:Int}:n∈numsM x↔x.low<=n/\n<=x.high:=by
 unfold numsM
 rw [numsF_mem]
 omega
def InB (b:RBk) (s:List Int):Prop:=s.length=b.shrinks.length/\∀ i,i<b.shrinks.length->(bd b i).low<=s.getD i 0/\s.getD i 0<=(bd b i).high
theorem inb_st {b:RBk} (hb:ROk b) {s:List Int} (h:InB b s):StOk b s:=by
 have hl:=hb.cls.len
 refine ⟨by rw [h.1,hl],fun i hi=>?_⟩
 have h1:=h.2 i oQ
 have h2:=hb.cls.bnd i hi
 omega
def PreB (b:RBk) (p:List Int):Prop:=p.length<=b.shrinks.length/\∀ i,i<p.length->(bd b i).low<=p.getD i 0/\p.getD i 0<=(bd b i).high
theorem pre_nil (b:RBk):PreB b []:=⟨Nat.zero_le _,fun i hi=>by simp at hi⟩
theorem getD_app_l {p:List Int} {n:Int} {i:Nat} (h:i<p.length):(p++[n]).getD i 0=p.getD i 0:=by
 rw [List.getD_eq_getElem?_getD,List.getD_eq_getElem?_getD,List.getElem?_append_left h]
theorem getD_app_at {p:List Int} {n:Int}:(p++[n]).getD p.length 0=n:=by
 rw [List.getD_eq_getElem?_getD]; simp
theorem pre_snoc {b:RBk} {p:List Int} {n:Int} (h:PreB b p) (hl:p.length<b.shrinks.length) (h1:(bd b p.length).low<=n) (h2:n<=(bd b p.length).high):PreB b (p++[n]):=by
 refine ⟨by simp; omega,fun i hi=>?_⟩
 rw [List.length_append,List.length_singleton] at hi
 by_cases e:i<p.length
 ·rw [getD_app_l e]; exact h.2 i e
 ·have:i=p.length:=by omega
  subst this
  rw [getD_app_at]; exact ⟨h1,h2⟩
theorem from_mem {b:RBk} (hb:ROk b):∀ (r:List RBand) (p:List Int),PreB b p->r=b.shrinks.drop p.length->∀ s∈fromM b p r,InB b s/\rightM b s=true
 | [],p,hp,hr,s,hs=>by
  unfold fromM at hs
  split at hs
  ·rename_i h1
   rw [List.mem_singleton.1 hs]
   have:p.length=b.shrinks.length:=by
    have:=congrArg List.length hr
    simp at this
    have:=hp.1
    omega
   exact ⟨⟨this,fun i hi=>hp.2 i oQ⟩,h1⟩
  ·cases hs
 | x::r,p,hp,hr,s,hs=>by
  unfold fromM at hs
  obtain ⟨n,hn,hs1⟩:=List.mem_flatMap.1 hs
  have hlt:p.length<b.shrinks.length:=by
   have:=congrArg List.length hr
   simp at this
   omega
  have hx:b.shrinks.drop p.length=bd b p.length::b.shrinks.drop (p.length+1):=drop_cons (bd_get hlt)
  rw [hx] at hr
  cases hr
  have hb2:=hb.cls.bnd p.length (by have:=hb.cls.len; omega)
  rw [nums_mem oQ] at hn
  exact from_mem hb _ (p++[n]) (pre_snoc hp hlt hn.1 hn.2) sQ s hs1
theorem states_mem {b:RBk} (hb:ROk b) {s:List Int} (h:s∈statesM b):StOk b s/\rightM b s=true:=by
 obtain ⟨h1,h2⟩:=from_mem hb _ [] (pre_nil b) rfl s h
 exact ⟨inb_st hb h1,h2⟩
def okAll (b:RBk) (all:List (List Int)):Prop:=∀ s∈all,StOk b s
def spreadM:List Int->Int×Int
 | []=>(0,0)
 | x::r=>(r.foldl min x,r.foldl max x)
def waysM (b:RBk) (all:List (List Int)) (l:List Int):List (List Int×Int):=all.filterMap (hangM b l)
def squaresM (b:RBk) (all:List (List Int)) (l:List Int):Option (Int×Int) :=
 if (waysM b all l).length<all.length then none else some (spreadM ((waysM b all l).map (·.2)))
def lexM:List Int->List Int->Int
 | [],[]=>0
 | [],_::_ => -1
 | _::_,[]=>1
 | x::r,y::t=>if x<y then -1 else if y<x then 1 else lexM r t
def smallerM (x y:List Int):Bool:=decide (x.length<y.length)||(decide (x.length=y.length)&&decide (lexM x y<0))
def cheaperM (x y:List Int×Int):Bool:=decide (x.2<y.2)||(decide (x.2=y.2)&&smallerM x.1 y.1)
def shorterM (x y:List Int×Int):Bool:=smallerM x.1 y.1
end Go.Vel
namespace Go.Vel
open Go Go.Conc Go.Proofs
instance:Cal Tryz.prog 123:=⟨by kernel_rfl⟩
instance:Cal Tryz.prog 124:=⟨by kernel_rfl⟩
instance:Cal Tryz.prog 128:=⟨by kernel_rfl⟩
instance:Cal Tryz.prog 144:=⟨by kernel_rfl⟩
instance:FldOf Tryz.prog 26 0 0 false 1:=⟨by kernel_rfl⟩
instance:FldOf Tryz.prog 26 1 1 false 1:=⟨by kernel_rfl⟩
instance:FldOf Tryz.prog 26 2 2 false 1:=⟨by kernel_rfl⟩
instance:FldOf Tryz.prog 26 3 3 false 1:=⟨by kernel_rfl⟩
instance:FldOf Tryz.prog 26 5 5 false 1:=⟨by kernel_rfl⟩
instance:FldOf Tryz.prog 26 6 6 false 1:=⟨by kernel_rfl⟩
instance:FldOf Tryz.prog 49 0 0 false 1:=⟨by kernel_rfl⟩
instance:FldOf Tryz.prog 49 1 1 false 1:=⟨by kernel_rfl⟩
instance:FldOf Tryz.prog 49 2 2 false 1:=⟨by kernel_rfl⟩
instance:FldOf Tryz.prog 51 0 0 false 1:=⟨by kernel_rfl⟩
instance:FldOf Tryz.prog 94 0 0 false 1:=⟨by kernel_rfl⟩
instance:FldOf Tryz.prog 94 1 1 false 1:=⟨by kernel_rfl⟩
instance:FldOf Tryz.prog 94 2 2 false 1:=⟨by kernel_rfl⟩
instance:FldOf Tryz.prog 94 3 3 false 1:=⟨by kernel_rfl⟩
instance {a0 a1 a2 a3 a4 a5 a6 a7 a8 a9 a10 a11 a12 a13 a14 a15 a16 a17 a18 a19 a20 a21 a22 a23 a24 a25 a26 a27 a28:Oper}:RgL #[a0,a1,a2,a3,a4,a5,a6,a7,a8,a9,a10,a11,a12,a13,a14,a15,a16,a17,a18,a19,a20,a21,a22,a23,a24,a25,a26,a27,a28] [0,1,2,3,4,5,6,7,8,9,10,11,12,13,14,15,16,17,18,19,20,21,22,23,24,25,26,27,28]:=⟨rfl⟩
instance:SlEl Tryz.prog 22 94 5:=⟨by kernel_rfl⟩
instance:SlEl Tryz.prog 23 51 2:=⟨by kernel_rfl⟩
instance:SlEl Tryz.prog 24 49 3:=⟨by kernel_rfl⟩
instance:TySz Tryz.prog 113 true 7:=⟨by kernel_rfl⟩
instance:TySz Tryz.prog 23 false 1:=⟨by kernel_rfl⟩
instance:TySz Tryz.prog 24 false 1:=⟨by kernel_rfl⟩
instance:TySz Tryz.prog 49 true 3:=⟨by kernel_rfl⟩
instance:TySz Tryz.prog 94 true 5:=⟨by kernel_rfl⟩
instance:TyZA Tryz.prog 49 [.v (.int .i64 0),.v (.int .i64 0),.v (.int .i64 0)]:=⟨by kernel_rfl⟩
instance:TyZA Tryz.prog 94 [.v (.int .i64 0),.v (.int .i64 0),.v (.int .i64 0),.v (.int .i64 0),.v (.bool false)]:=⟨by kernel_rfl⟩
instance:Und Tryz.prog 23 (.slice 51):=⟨by kernel_rfl⟩
instance:Und Tryz.prog 24 (.slice 49):=⟨by kernel_rfl⟩
theorem between_ok {main:Bool} {T:Goroutine->Hp->Prop} (hT:Shut Tryz.prog main T) {gm:Nat->Option Nat} {n lo hi:Int} :
  CallK Tryz.prog T gm 128 [intA n,intA lo,intA hi] [] (fun r K'=>r=boolA (betw n lo hi)/\K'=[]):=by
 refine callK_in 15 hT Tryz.func128 fun Y hret=>?_
 refine au [4,5,2,3,4,5,1,1,6,1] ?_
 refine TK.sp 10 (fun g1_4=>?_) (fun g1_4=>?_)
 ·refine au [1,1,6,26,2,3] ?_
  refine TK.rta hret ?_
  exact ⟨by simp [boolA,betw,g1_4],rfl⟩
 refine au [11,11,11,25,2,3] ?_
 refine TK.rta hret ?_
 exact ⟨by simp [boolA,betw,g1_4],rfl⟩
theorem isBand_ok {main:Bool} {T:Goroutine->Hp->Prop} (hT:Shut Tryz.prog main T) {gm:Nat->Option Nat} {x:RBand} {lo hi:Int} :
  CallK Tryz.prog T gm 124 [.agg (bandC x),intA lo,intA hi] [] (fun r K'=>r=boolA (isBd x lo hi)/\K'=[]):=by
 refine callK_in 24 hT Tryz.func124 fun Y hret=>?_
 refine au [4,5,21] ?_
 intro j1 hj1
 refine au [2,3,4,5,1,7,9,6,1] ?_
 refine TK.sp 11 (fun g1_5=>?_) (fun g1_5=>?_)
 ·refine au [7,9,7,9,6,26,1] ?_
  refine TK.sp 18 (fun g1_12=>?_) (fun g1_12=>?_)
  ·refine au [7,9,1,6,26,2,3] ?_
   refine TK.rt hret [] ?_
   exact ⟨by simp_all [isBd,bandC] <;> (intros; omega),rfl⟩
  refine au [11,11,11,11,25,2,3] ?_
  refine TK.rt hret [] ?_
  exact ⟨by simp_all [isBd,bandC] <;> (intros; omega),rfl⟩
 refine au [11,11,11,11,11,25,1,11,11,11,11,25,2,3] ?_
 refine TK.rt hret [] ?_
 exact ⟨by simp_all [isBd,bandC] <;> (intros; omega),rfl⟩
theorem wide_ok {main:Bool} {T:Goroutine->Hp->Prop} (hT:Shut Tryz.prog main T) {gm:Nat->Option Nat} {b:RBk} {s h e i:Nat} (hr:RndOk b) (hs:SmOk b) (hi:i<b.seams.length) :
  CallK Tryz.prog T gm 144 [.agg (rollC b s h e),intA i] [(s,seamO b)] (fun r K'=>r=intA (wideM b i)/\K'=[(s,seamO b)]):=by
 refine callK_in 40 hT Tryz.func144 fun Y hret=>?_
 refine au [] ?_
 have h5:=hs.len
 have hst:=hr.steps
 have f0:=hs.fld 0 oQ
 have fi:=hs.fld i hi
 refine au [4,5,21] ?_
 intro jb hjb
 refine au [2,3,4] ?_
 refine TK.draw [0,1,2,3,4,5,6,7,8,9,10] [0,1,2,3,4,5,6,7,8,9,10] (by kernel_rfl) (by kernel_rfl) ?_
 refine TD.z [2] rfl (q_fieldAddr rfl rfl FldOf.h dQ) ?_
 refine TD.z [6] rfl (q_fieldAddr rfl rfl FldOf.h dQ) ?_
 refine TD.y [7] rfl (hq:=q_load1 rfl rfl TySz.h (List.Mem.head _) rfl) (h:=?_)
 refine TD.z [8] rfl (q_indexSl rfl rfl rfl SlEl.h oQ oQ) ?_
 refine TD.z [9] rfl (q_fieldAddr rfl rfl FldOf.h dQ) ?_
 refine TD.y [10] rfl (hq:=q_load1 rfl rfl TySz.h (List.Mem.head _) (take_fld (c:=0) (sm_at (i:=0) b oQ rfl) dQ rfl)) (h:=?_)
 refine TD.z [2] rfl (q_fieldAddr rfl rfl FldOf.h dQ) ?_
 refine TD.z [12] rfl (q_fieldAddr rfl rfl FldOf.h dQ) ?_
 refine TD.y [13] rfl (hq:=q_load1 rfl rfl TySz.h (List.Mem.head _) rfl) (h:=?_)
 refine TD.z [11,14] rfl (q_add rfl rfl rfl oQ) ?_
 refine TD.as (pend':=[]) [15] rfl rfl (q_assign rfl rfl) ?_
 refine TD.fin ?_
 refine au [4,4,5,1,23,7,7,9,28,6,3,20] ?_
 refine ⟨fun hc0=>?_,fun hc0=>?_⟩
 ·have hlt:i+1<b.seams.length:=by simp at hc0; omega
  have fn:=hs.fld (i+1) hlt
  refine au [5,7,7,9,1,23,36,7] ?_
  refine TK.a rfl (q_load1 rfl rfl TySz.h mQ (take_fld (c:=0) (sm_at (i:=i+1) b hlt rfl) dQ rfl)) ?_
  refine au [2,3,4,5,1,7,7,9,1,36,7] ?_
  refine TK.a rfl (q_load1 rfl rfl TySz.h mQ (take_fld (c:=0) (sm_at (i:=i) b hi rfl) dQ rfl)) ?_
  refine au [24,2,3] ?_
  refine TK.rt hret [(s,_)] ?_
  exact ⟨by unfold wideM; rw [if_pos hlt],rfl⟩
 have hlt:¬ i+1<b.seams.length:=by simp at hc0; omega
 refine au [12,4,5,1,7,7,9,1,36,7] ?_
 refine TK.a rfl (q_load1 rfl rfl TySz.h mQ (take_fld (c:=0) (sm_at (i:=i) b hi rfl) dQ rfl)) ?_
 refine au [24,2,3] ?_
 refine TK.rt hret [(s,_)] ?_
 exact ⟨by unfold wideM; rw [if_neg hlt],rfl⟩
theorem there_ok {main:Bool} {T:Goroutine->Hp->Prop} (hT:Shut Tryz.prog main T) {gm:Nat->Option Nat} {b:RBk} {s h e:Nat} {n:Int} (hs:b.seams.length<=5) :
  CallK Tryz.prog T gm 123 [intA n,.agg (rollC b s h e)] [] (fun r K'=>r=intA (thereM b n)/\K'=[]):=by
 refine callK_in 13 hT Tryz.func123 fun Y hret=>?_
 refine au [4,5,21] ?_
 intro j1 hj1
 refine au [2,3,4,4,5,1,7,7,9,28,24] ?_
 refine TK.cl rfl rfl rfl rfl (between_ok hT) ?_
 rintro r2 K3 ⟨rfl,rfl⟩
 refine au [30,3,20] ?_
 refine ⟨fun hc0=>?_,fun hc0=>?_⟩
 ·refine au [4,5,2,3] ?_
  refine TK.rt hret [] ?_
  exact ⟨by simp at hc0; simp [thereM,hc0],rfl⟩
 refine au [12,4,5,2,3] ?_
 refine TK.rt hret [] ?_
 exact ⟨by simp at hc0; simp [thereM,hc0],rfl⟩
theorem rounds_ok {main:Bool} {T:Goroutine->Hp->Prop} (hT:Shut Tryz.prog main T) {gm:Nat->Option Nat} {b:RBk} {s h e:Nat} :
  CallK Tryz.prog T gm 251 [.agg (rollC b s h e)] [] (fun r K'=>r=intA (roundsM b)/\K'=[]):=by
 refine callK_in 32 hT Tryz.func251 fun Y hret=>?_
 refine au [4,5,21] ?_
 intro j1 hj1
 refine au [2,3,4,4,5,7,7,9] ?_
 refine TK.cl rfl rfl rfl rfl (between_ok hT) ?_
 rintro r2 K3 ⟨rfl,rfl⟩
 refine au [30,1] ?_
 refine TK.sp 8 (fun g1_6=>?_) (fun g1_6=>?_)
 ·refine au [11,11,11,11,11,11,11,11,26,1,11,11,11,11,11,26,1,11,11,11,11,11,26,3,18,4,5,2,3] ?_
  refine TK.rt hret [] ?_
  simp only [Bool.not_eq_true',Bool.not_eq_false'] at g1_6
  exact ⟨by simp [roundsM,g1_6],rfl⟩
 refine au [7,7,9,7,7,9] ?_
 refine TK.cl rfl rfl rfl rfl (between_ok hT) ?_
 rintro r5 K6 ⟨rfl,rfl⟩
 refine au [30,25,1] ?_
 refine TK.sp 18 (fun g1_16=>?_) (fun g1_16=>?_)
 ·refine au [11,11,11,11,11,26,1,11,11,11,11,11,26,3,18,4,5,2,3] ?_
  refine TK.rt hret [] ?_
  simp only [Bool.not_eq_true',Bool.not_eq_false'] at g1_6 g1_16
  exact ⟨by simp [roundsM,g1_6,g1_16],rfl⟩
 refine au [7,7,9] ?_
 refine TK.cl rfl rfl rfl rfl (between_ok hT) ?_
 rintro r8 K9 ⟨rfl,rfl⟩
 refine au [30,25,1] ?_
 refine TK.sp 25 (fun g1_23=>?_) (fun g1_23=>?_)
 ·refine au [11,11,11,11,11,26,3,18,4,5,2,3] ?_
  refine TK.rt hret [] ?_
  simp only [Bool.not_eq_true',Bool.not_eq_false'] at g1_6 g1_16 g1_23
  exact ⟨by simp [roundsM,g1_6,g1_16,g1_23],rfl⟩
 refine au [7,7,9] ?_
 refine TK.cl rfl rfl rfl rfl (between_ok hT) ?_
 rintro r11 K12 ⟨rfl,rfl⟩
 refine au [30,25,3,20] ?_
 refine ⟨fun hc0=>?_,fun hc0=>?_⟩
 ·refine au [4,5,2,3] ?_
  refine TK.rt hret [] ?_
  simp only [Bool.not_eq_true',Bool.not_eq_false'] at g1_6 g1_16 g1_23 hc0
  exact ⟨by simp [roundsM,g1_6,g1_16,g1_23,hc0],rfl⟩
 refine au [12,4,5,2,3] ?_
 refine TK.rt hret [] ?_
 simp only [Bool.not_eq_true',Bool.not_eq_false'] at g1_6 g1_16 g1_23 hc0
 exact ⟨by simp [roundsM,g1_6,g1_16,g1_23,hc0],rfl⟩
theorem seams_ok {main:Bool} {T:Goroutine->Hp->Prop} (hT:Shut Tryz.prog main T) {gm:Nat->Option Nat} {b:RBk} {s h e:Nat} (hr:RndOk b) (hl:b.seams.length<=100) :
  CallK Tryz.prog T gm 252 [.agg (rollC b s h e)] [(s,seamO b)] (fun r K'=>r=intA (seamsM b)/\K'=[(s,seamO b)]):=by
 refine callK_in 49 hT Tryz.func252 fun Y hret=>?_
 refine au [] ?_
 have hst:=hr.steps
 refine au [4,5,21] ?_
 intro jb hjb
 refine au [2,3,4,4,5,7,7,9,28] ?_
 refine TK.cl rfl rfl rfl rfl (between_ok hT) ?_
 rintro r1 K2 ⟨rfl,rfl⟩
 refine au [30,3,20] ?_
 refine ⟨fun hc0=>?_,fun hc0=>?_⟩
 ·refine au [4,5,2,3] ?_
  refine TK.rt hret [(s,_)] ?_
  simp only [Bool.not_eq_true',Bool.not_eq_false'] at hc0
  exact ⟨by simp [seamsM,hc0],rfl⟩
 simp only [Bool.not_eq_true',Bool.not_eq_false'] at hc0
 have hl5:=betw_t hc0
 refine au [12,4,5,2,3,4,4,5,7,7,9,28,1,3,13] ?_
 refine TK.maskL [1,2,3,14,15,16] ?_
 refine TK.loopN (fun n env K=>∃ (i:Nat) (last:Int),n=b.seams.length - i/\i<=b.seams.length/\seamsL b last (b.seams.drop i)=seamsM b/\env=[.any,.ptr jb 0,intA 0,intA last,.any,.any,.any,.any,.any,.any,.any,.any,.any,.any,.sl s 0 b.seams.length,intA b.seams.length,intA i,.any,.any,.any,.any,.any,.any,.any,.any,.any,.any,.any,.any,.any,.any,.any,.any,.any,.any,.any,.any,.any,.any,.any,.any,.any,.any,.any,.any,.any,.any,.any,.any]/\K=[(jb,.cells (rollC b s h e) 113 true),(s,seamO b)]) b.seams.length ⟨0,-1,rfl,Nat.zero_le _,by unfold seamsM; rw [if_neg (by rw [hc0]; decide)]; rfl,rfl,rfl⟩ fun n env K hI hnext=>?_
 obtain ⟨i,last,rfl,hi,hinv,rfl,rfl⟩:=hI
 refine au [4,5,6,3,4,20] ?_
 refine ⟨fun hc1=>?_,fun hc1=>?_⟩
 ·have hil:i<b.seams.length:=by simp at hc1; omega
  refine au [12,4,13,4,5,36] ?_
  refine TK.a rfl (q_load rfl rfl TySz.h mQ (sm_at (i:=i) b hil rfl)) ?_
  refine au [22] ?_
  intro jx hjx
  refine au [17,3,4,13,4,4,5,7,9,7,7,9,24] ?_
  refine TK.cl rfl rfl rfl rfl (between_ok hT) ?_
  rintro r4 K5 ⟨rfl,rfl⟩
  refine au [30,2,3,20] ?_
  refine ⟨fun hc2=>?_,fun hc2=>?_⟩
  ·refine au [12,20] ?_
   refine ⟨fun hc5=>?_,fun hc5=>?_⟩
   ·refine au [4,5,2,3] ?_
    refine TK.rt hret [(s,_)] ?_
    exact ⟨by rw [<- hinv,drop_cons (sm_get hil),seamsL,if_pos (by simp only [Bool.not_eq_true',Bool.not_eq_false'] at hc2; simp [seamB,hc2])],rfl⟩
   exact absurd hc2 (by rw [hc5]; decide)
  refine au [4,5,7,9] ?_
  refine TK.cl rfl rfl rfl rfl (between_ok hT) ?_
  rintro r7 K8 ⟨rfl,rfl⟩
  refine au [30,2,3,20] ?_
  refine ⟨fun hc3=>?_,fun hc3=>?_⟩
  ·refine au [12,20] ?_
   refine ⟨fun hc5=>?_,fun hc5=>?_⟩
   ·refine au [4,5,2,3] ?_
    refine TK.rt hret [(s,_)] ?_
    exact ⟨by rw [<- hinv,drop_cons (sm_get hil),seamsL,if_pos (by simp only [Bool.not_eq_true',Bool.not_eq_false'] at hc2 hc3; simp [seamB,hc2,hc3])],rfl⟩
   exact absurd hc3 (by rw [hc5]; decide)
  refine au [4,5,7,9] ?_
  refine TK.cl rfl rfl rfl rfl (between_ok hT) ?_
  rintro r10 K11 ⟨rfl,rfl⟩
  refine au [30,2,3,20] ?_
  refine ⟨fun hc4=>?_,fun hc4=>?_⟩
  ·refine au [12,20] ?_
   refine ⟨fun hc5=>?_,fun hc5=>?_⟩
   ·refine au [4,5,2,3] ?_
    refine TK.rt hret [(s,_)] ?_
    exact ⟨by rw [<- hinv,drop_cons (sm_get hil),seamsL,if_pos (by simp only [Bool.not_eq_true',Bool.not_eq_false'] at hc2 hc3 hc4; simp [seamB,hc2,hc3,hc4])],rfl⟩
   exact absurd hc4 (by rw [hc5]; decide)
  refine au [5,7,9] ?_
  refine TK.cl rfl rfl rfl rfl (between_ok hT) ?_
  rintro r13 K14 ⟨rfl,rfl⟩
  refine au [30,2,3,20] ?_
  refine ⟨fun hc5=>?_,fun hc5=>?_⟩
  ·refine au [4,5,2,3] ?_
   refine TK.rt hret [(s,_)] ?_
   exact ⟨by rw [<- hinv,drop_cons (sm_get hil),seamsL,if_pos (by simp only [Bool.not_eq_true',Bool.not_eq_false'] at hc2 hc3 hc4 hc5; simp [seamB,hc2,hc3,hc4,hc5])],rfl⟩
  have hsb:seamB b (sm b i)=true:=by simp only [Bool.not_eq_true',Bool.not_eq_false'] at hc2 hc3 hc4 hc5; simp [seamB,hc2,hc3,hc4,hc5]
  refine au [4,5,7,9,1,6,2,3,20] ?_
  refine ⟨fun hc6=>?_,fun hc6=>?_⟩
  ·refine au [4,5,2,3] ?_
   refine TK.rt hret [(s,_)] ?_
   exact ⟨by rw [<- hinv,drop_cons (sm_get hil),seamsL,if_neg (by rw [hsb]; decide),if_pos (of_decide_eq_true hc6)],rfl⟩
  refine au [12,14,5,7,9,2,3,14,5,23,1,3] ?_
  refine TK.maskL [1,2,3,14,15,16] ?_
  refine TK.kp [(jb,_),(s,_)] ?_
  exact hnext _ _ _ oQ ⟨i+1,(sm b i).step,rfl,by omega,by rw [<- hinv,drop_cons (sm_get hil),seamsL,if_neg (by rw [hsb]; decide),if_neg (of_decide_eq_false hc6)],rfl,rfl⟩
 obtain rfl:i=b.seams.length:=by simp at hc1; omega
 refine au [16,4,5,2,3] ?_
 refine TK.rt hret [(s,_)] ?_
 exact ⟨by rw [<- hinv,List.drop_length]; rfl,rfl⟩
theorem cloths_ok {main:Bool} {T:Goroutine->Hp->Prop} (hT:Shut Tryz.prog main T) {gm:Nat->Option Nat} {b:RBk} {s h e:Nat} (hr:RndOk b) (hs:SmOk b) :
  CallK Tryz.prog T gm 253 [.agg (rollC b s h e)] [(s,seamO b),(h,shrO b)] (fun r K'=>r=intA (clothsM b)/\K'=[(s,seamO b),(h,shrO b)]):=by
 refine callK_in 41 hT Tryz.func253 fun Y hret=>?_
 refine au [] ?_
 have hst:=hr.steps
 have hl5:=hs.len
 refine au [4,5,21] ?_
 intro jb hjb
 refine au [2,3,4,4,5,7,7,9,28,7,7,9,28,6,3,20] ?_
 refine ⟨fun hc0=>?_,fun hc0=>?_⟩
 ·refine au [4,5,2,3] ?_
  refine TK.rt hret [(s,_),(h,_)] ?_
  exact ⟨by unfold clothsM; rw [if_pos (by simp at hc0; omega)],rfl⟩
 have hle:b.shrinks.length=b.seams.length:=by simp at hc0; omega
 refine au [12,4,4,5,7,7,9,28,1,3,13] ?_
 refine TK.maskL [1,2,16,17,18] ?_
 refine TK.loopN (fun n env K=>∃ (i:Nat),n=b.shrinks.length - i/\i<=b.shrinks.length/\clothsL b i (b.shrinks.drop i)=clothsM b/\env=[.any,.ptr jb 0,intA 0,.any,.any,.any,.any,.any,.any,.any,.any,.any,.any,.any,.any,.any,.sl h 0 b.shrinks.length,intA b.shrinks.length,intA i,.any,.any,.any,.any,.any,.any,.any,.any,.any,.any,.any,.any,.any,.any,.any,.any,.any,.any,.any,.any,.any,.any]/\K=[(jb,.cells (rollC b s h e) 113 true),(s,seamO b),(h,shrO b)]) b.shrinks.length ⟨0,rfl,Nat.zero_le _,by unfold clothsM; rw [if_neg (by simpa using hle)]; rfl,rfl,rfl⟩ fun n env K hI hnext=>?_
 obtain ⟨i,rfl,hi,hinv,rfl,rfl⟩:=hI
 refine au [4,5,6,3,4,20] ?_
 refine ⟨fun hc1=>?_,fun hc1=>?_⟩
 ·have hil:i<b.shrinks.length:=by simp at hc1; omega
  refine au [12,4,13,4,5,1,36] ?_
  refine TK.a rfl (q_load rfl rfl TySz.h mQ (bd_at (i:=i) b hil rfl)) ?_
  refine au [22] ?_
  intro jx hjx
  refine au [2,17,3,13,4,4,5,8] ?_
  refine TK.cl rfl rfl rfl rfl (isBand_ok hT) ?_
  rintro r1 K2 ⟨rfl,rfl⟩
  refine au [30,2,3,20] ?_
  refine ⟨fun hc2=>?_,fun hc2=>?_⟩
  ·refine au [12,20] ?_
   refine ⟨fun hc3=>?_,fun hc3=>?_⟩
   ·refine au [4,5,2,3] ?_
    refine TK.rt hret [(s,_),(h,_)] ?_
    exact ⟨by rw [<- hinv,drop_cons (bd_get hil),clothsL,if_pos (by simp at hc2; simp [bandB,hc2] <;> omega)],rfl⟩
   exact absurd hc2 (by rw [hc3]; decide)
  have hbd:0<=(bd b i).low/\(bd b i).low<=(bd b i).high/\(bd b i).high<=5:=by simp [isBd] at hc2; omega
  refine au [5,7,9,7,9,24,6,2,3,20] ?_
  refine ⟨fun hc3=>?_,fun hc3=>?_⟩
  ·refine au [4,5,2,3] ?_
   refine TK.rt hret [(s,_),(h,_)] ?_
   exact ⟨by rw [<- hinv,drop_cons (bd_get hil),clothsL,if_pos (by simp at hc2 hc3; simp [bandB,hc2] <;> omega)],rfl⟩
  have hbb:bandB (bd b i)=true:=by simp only [Bool.not_eq_true',Bool.not_eq_false'] at hc2; have:=of_decide_eq_false hc3; simp [bandB,hc2]; omega
  refine au [4] ?_
  refine TK.draw [0,1,2,3,4,5,6] [0,1,2,3,4,5,6] (by kernel_rfl) (by kernel_rfl) ?_
  refine TD.z [4] rfl (q_fieldAddr rfl rfl FldOf.h dQ) ?_
  refine TD.y [34] rfl (hq:=q_load1 rfl rfl TySz.h (List.Mem.head _) rfl) (h:=?_)
  refine TD.y [1] rfl (hq:=q_load rfl rfl TySz.h (List.Mem.head _) rfl) (h:=?_)
  refine TD.z [3] rfl (q_move rfl rfl) ?_
  refine TD.cl (pend':=[⟨1,[34],[(_,_)]⟩,⟨0,[4],[]⟩]) [36,37] rfl rfl rfl rfl rfl (wide_ok hT (i:=i) hr hs oQ) (fun r4 K5 h6=>⟨?_,?_⟩)
  ·rcases h6 with ⟨rfl,rfl⟩
   all_goals simp
  obtain ⟨rfl,rfl⟩:=h6
  try simp only [List.cons_append,List.nil_append]
  refine TD.norm (by simp only [List.set]; rfl) ?_
  refine TD.z [35,38] rfl (q_cmp rfl rfl rfl rfl) ?_
  refine TD.as (pend':=[⟨1,[34],[(_,_)]⟩,⟨0,[4],[]⟩]) [39] rfl rfl (q_assign rfl rfl) ?_
  refine TD.fin ?_
  refine au [20] ?_
  refine ⟨fun hc4=>?_,fun hc4=>?_⟩
  ·refine au [4,5,2,3] ?_
   refine TK.rt hret [(s,_),(h,_)] ?_
   exact ⟨by rw [<- hinv,drop_cons (bd_get hil),clothsL,if_neg (by rw [hbb]; decide),if_pos (of_decide_eq_true hc4)],rfl⟩
  refine au [12,14,14,5,23,1,3] ?_
  refine TK.maskL [1,2,16,17,18] ?_
  refine TK.kp [(jb,_),(s,_),(h,_)] ?_
  exact hnext _ _ _ oQ ⟨i+1,rfl,by omega,by rw [<- hinv,drop_cons (bd_get hil),clothsL,if_neg (by rw [hbb]; decide),if_neg (of_decide_eq_false hc4)],rfl,rfl⟩
 obtain rfl:i=b.shrinks.length:=by simp at hc1; omega
 refine au [16,4,5,2,3] ?_
 refine TK.rt hret [(s,_),(h,_)] ?_
 exact ⟨by rw [<- hinv,List.drop_length]; rfl,rfl⟩
theorem measures_ok {main:Bool} {T:Goroutine->Hp->Prop} (hT:Shut Tryz.prog main T) {gm:Nat->Option Nat} {b:RBk} {s h e:Nat} (hs:SmOk b) (hl:b.measures.length<=100) :
  CallK Tryz.prog T gm 254 [.agg (rollC b s h e)] [(e,measO b)] (fun r K'=>r=intA (measM b)/\K'=[(e,measO b)]):=by
 refine callK_in 41 hT Tryz.func254 fun Y hret=>?_
 refine au [] ?_
 have hl5:=hs.len
 refine au [4,5,21] ?_
 intro jb hjb
 refine au [2,3,4,4,5,7,7,9,28,6,3,20] ?_
 refine ⟨fun hc0=>?_,fun hc0=>?_⟩
 ·refine au [4,5,2,3] ?_
  refine TK.rt hret [(e,_)] ?_
  exact ⟨by unfold measM; rw [if_pos (by simp at hc0; omega)],rfl⟩
 refine au [12,4,4,5,7,7,9,28,1,3,13] ?_
 refine TK.maskL [1,2,13,14,15] ?_
 refine TK.loopN (fun n env K=>∃ (i:Nat),n=b.measures.length - i/\i<=b.measures.length/\measL b (b.measures.drop i)=measM b/\env=[.any,.ptr jb 0,intA 0,.any,.any,.any,.any,.any,.any,.any,.any,.any,.any,.sl e 0 b.measures.length,intA b.measures.length,intA i,.any,.any,.any,.any,.any,.any,.any,.any,.any,.any,.any,.any,.any,.any,.any,.any,.any,.any,.any,.any,.any,.any,.any,.any,.any]/\K=[(jb,.cells (rollC b s h e) 113 true),(e,measO b)]) b.measures.length ⟨0,rfl,Nat.zero_le _,by unfold measM; rw [if_neg (by simp at hc0; omega)]; rfl,rfl,rfl⟩ fun n env K hI hnext=>?_
 obtain ⟨i,rfl,hi,hinv,rfl,rfl⟩:=hI
 refine au [4,5,6,3,4,20] ?_
 refine ⟨fun hc1=>?_,fun hc1=>?_⟩
 ·have hil:i<b.measures.length:=by simp at hc1; omega
  obtain ⟨x,hg⟩:∃ x,b.measures[i]? =some x:=⟨_,List.getElem?_eq_getElem hil⟩
  refine au [12,4,13,4,5,36] ?_
  refine TK.a rfl (q_load rfl rfl TySz.h mQ (flat_at (c:=3) (f:=measC) (fun _=>rfl) hg rfl dQ)) ?_
  refine au [22] ?_
  intro jx hjx
  refine au [17,3,4,4,5,7,9,8] ?_
  refine TK.cl rfl rfl rfl rfl (there_ok hT oQ) ?_
  rintro r1 K2 ⟨rfl,rfl⟩
  refine au [2,3,4,5,1,6,3,20] ?_
  refine ⟨fun hc2=>?_,fun hc2=>?_⟩
  ·refine au [4,5,1,2,3] ?_
   refine TK.rt hret [(e,_)] ?_
   exact ⟨by rw [<- hinv,drop_cons hg,measL,if_pos (by simpa using hc2)],rfl⟩
  refine au [12,4,5,7,9,7,7,9,28] ?_
  refine TK.cl rfl rfl rfl rfl (between_ok hT) ?_
  rintro r4 K5 ⟨rfl,rfl⟩
  refine au [30,1] ?_
  refine TK.sp 34 (fun g9_9=>?_) (fun g9_9=>?_)
  ·refine au [11,11,11,11,26,3,18,4,5,2,3] ?_
   refine TK.rt hret [(e,_)] ?_
   exact ⟨by rw [<- hinv,drop_cons hg,measL,if_neg (by simpa using hc2),if_pos (by simp only [Bool.not_eq_true',Bool.not_eq_false'] at g9_9; simp [measB,g9_9])],rfl⟩
  refine au [7,9] ?_
  refine TK.cl rfl rfl rfl rfl (between_ok hT) ?_
  rintro r7 K8 ⟨rfl,rfl⟩
  refine au [30,25,3,20] ?_
  refine ⟨fun hc3=>?_,fun hc3=>?_⟩
  ·refine au [4,5,2,3] ?_
   refine TK.rt hret [(e,_)] ?_
   exact ⟨by rw [<- hinv,drop_cons hg,measL,if_neg (by simpa using hc2),if_pos (by simp only [Bool.not_eq_true',Bool.not_eq_false'] at g9_9 hc3; simp [measB,g9_9,hc3])],rfl⟩
  refine au [12,14,5,23,1,3] ?_
  refine TK.maskL [1,2,13,14,15] ?_
  refine TK.kp [(jb,_),(e,_)] ?_
  exact hnext _ _ _ oQ ⟨i+1,rfl,by omega,by rw [<- hinv,drop_cons hg,measL,if_neg (by simpa using hc2),if_neg (by simp only [Bool.not_eq_true',Bool.not_eq_false'] at g9_9 hc3; simp [measB,g9_9,hc3])],rfl,rfl⟩
 obtain rfl:i=b.measures.length:=by simp at hc1; omega
 refine au [16,4,5,2,3] ?_
 refine TK.rt hret [(e,_)] ?_
 exact ⟨by rw [<- hinv,List.drop_length]; rfl,rfl⟩
end Go.Vel
namespace Go.Vel
open Go Go.Conc
section
variable {P:Program} {gm:Nat->Option Nat} {env:List AV} {A A':List AObj} {o:Oper} {V:KV}
theorem ok_copy {d x:Operand} {t t2 e:TypeId} {size i off dl m:Nat} {ln:List AV} (ho:o.op=.call { callee:=.builtin .copy,args:=#[d,x],argTypes:=#[t,t2] }) (ht:slElem P t=some (e,size)) (hd:opnd gm env d=.sl i off dl) (hx:srcA A size (opnd gm env x)=some (m,ln)) (hm:0<m) (hmd:m<=dl) (hs:storeA A i off ln=some A') :
  OpOk P gm env A o (.v (.int .i64 m)) A':=fun φ F H a hg hH hE=>by
 rw [execOp_builtin ho]
 obtain ⟨bx,capx,ys,ex,hys,hln,hrn,hfirst⟩   := srcA_rel (P:=P) hH hx (opnd_rel hg hE x)
 have hd':=opnd_rel hg hE d
 rw [hd] at hd'
 obtain ⟨hi,cap,b,hlc,hb,ed⟩:=inv_sl hd'
 obtain ⟨ti,e1,e2,e3⟩:=slElem_spec ht
 simp only [builtin,List.map_toArray,List.map_cons,List.map_nil]
 refine wpS_v ?_
 rw [ed,ex]
 unfold Builtin.copy_
 dsimp only
 show wpS P (underlying t >>= _) H _
 refine wpS_bind_eq _ _ _ (wpS_underlying e1 ?_)
 dsimp only
 refine wpS_bind_eq _ _ _ ?_
 change wpS P (pure m) H _
 rw [wpS_pure]
 have hmin:Nat.min m dl=m:=Nat.min_eq_left hmd
 rw [hmin]
 refine wpS_bind_eq _ _ _ (wpS_sizeOf e2 ?_)
 rw [e3]
 refine wpS_bind_eq _ _ _ ?_
 rw [ex] at hfirst
 change wpS P (Builtin.firstCells size m (.slice bx m capx)) H _
 refine hfirst _ ?_
 rw [hb oQ]
 dsimp only
 refine wpS_bind_eq _ _ _ (wpS_store hH hs hrn fun H' hH' hlen=>?_)
 exact ⟨_,φ,.inl rfl,Agr.refl _ _,by omega,hH',.v _⟩
theorem q_copy {d x:Operand} {t t2 e:TypeId} {size i off dl m:Nat} {ln:List AV} {ob ob':AObj} (ho:o.op=.call { callee:=.builtin .copy,args:=#[d,x],argTypes:=#[t,t2] }) (hd:opndO gm env d=some (.sl i off dl)) (ht:slElem P t=some (e,size)) (hx:srcO V size (opnd gm env x) m ln) (hm:0<m) (hmd:m<=dl) (hi:(i,ob)∈V) (hs:putO ob off ln=some ob') :
  ∀ A,View V A->OpOk P gm env A o (.v (.int .i64 m)) (A.set i ob'):=fun A hA=>ok_copy ho ht (opndO_eq hd) (hx A hA) hm hmd (storeA_of (hA.get hi) hs)
end
theorem set_zero {s:List Int} (h:s.length<=5) (e:TypeId) (hp:0<s.length):putO (.cells [intA 0,intA 0,intA 0,intA 0,intA 0] e true) 0 (s.map intA)=some (.cells (stC s) e true):=by
 unfold putO
 dsimp only
 rw [if_pos ⟨by simp; omega,by simpa using hp,by simp [oneA,oneCell]⟩]
 rcases s with _ | ⟨a,_ | ⟨b,_ | ⟨c,_ | ⟨d,_ | ⟨f,_ | ⟨g,r⟩⟩⟩⟩⟩⟩
 ·rfl
 ·rfl
 ·rfl
 ·rfl
 ·rfl
 ·rfl
 ·simp at h
theorem take_all0 {l:List Int} {e:TypeId} {rw':Bool} (hp:0<l.length):takeO (.cells (l.map intA) e rw') 0 (l.length*1)=some (l.map intA):=by
 simp only [takeO,AObj.look]
 rw [if_pos ⟨by omega,by rw [List.length_map]; omega⟩,List.drop_zero,Nat.mul_one,List.take_of_length_le sQ]
end Go.Vel
namespace Go.Vel
open Go Go.Conc Go.Proofs
def gmR:Nat->Option Nat
 | 0=>some 0
 | _=>none
def checksG:AObj:=.cells [.fn 251 [] [],.fn 252 [] [],.fn 253 [] [],.fn 254 [] []] 122 false
def z7R:List AV:=[intA 0,intA 0,intA 0,intA 0,.v (.slice none 0 0),.v (.slice none 0 0),.v (.slice none 0 0)]
def bar2 (x y:Int):Int:=if x≠0 then x else y
def OpenR (b:RBk) (s h e:Nat) (bar:Int) (r:AV):Prop:=(bar=0/\r=.tup [.agg (rollC b s h e),intA 0])\/(bar≠0/\r=.tup [.agg z7R,intA bar])
theorem bar2_l {x y:Int} (h:x≠0):bar2 x y=x:=if_pos h
theorem bar2_r {x y:Int} (h:x=0):bar2 x y=y:=if_neg (fun e=>e h)
theorem pair_snoc (b:RBk) (l:List Int) (i:Nat):((List.range (i+1)).map (stripM b l)).flatMap pairC=((List.range i).map (stripM b l)).flatMap pairC++pairC (stripM b l i):=by
 rw [List.range_succ,List.map_append,List.flatMap_append]
 simp
theorem pair_len (b:RBk) (l:List Int) (i:Nat):(((List.range i).map (stripM b l)).flatMap pairC).length=i*2:=by
 rw [flat_len pairC 2 (fun _=>rfl)]; simp
theorem fits_f {b:RBk} {l:List Int} {k:Nat} (hk:k<l.length) (h:(cutS b l k).whole=true\/b.roll<(stripM b l k).2):fitsM b l=false:=by
 unfold fitsM
 rw [Bool.and_eq_false_iff]
 right
 rw [List.all_eq_false]
 refine ⟨k,List.mem_range.2 hk,?_⟩
 rcases h with h | h
 ·simp [h]
 ·simp; intro _; omega
theorem strip_row {b:RBk} {l:List Int} {i:Nat} (h:i<l.length):((List.range l.length).map (stripM b l))[i]? =some (stripM b l i):=by
 rw [List.getElem?_map,List.getElem?_range h]; rfl
theorem rowf_at {α:Type} {f:α->List AV} {c:Nat} (hc:∀ x,(f x).length=c) {xs:List α} {x:α} {i:Nat} {n:Int} {e:TypeId} {sz:Nat} (h:xs[i]? =some x) (hn:n=(i:Int)) (h0:0<c):takeO (.row (xs.flatMap f) e sz) (n.toNat*c) c=some (f x):=by
 subst hn
 obtain ⟨h1,h2⟩:=List.getElem?_eq_some_iff.1 h
 have hle:(i+1)*c<=xs.length*c:=Nat.mul_le_mul_right _ h1
 have:(i+1)*c=i*c+c:=Nat.succ_mul ..
 simp only [takeO,AObj.look,Int.toNat_natCast]
 rw [if_pos ⟨by omega,by rw [flat_len f c hc]; omega⟩,flat_take f c hc _ _ h1,h2]
theorem perm_bk {a b c d e f g h:Nat×AObj} {R:KV}:((f::R)++[a,b,c,d,e,g,h]).Perm (a::b::f::c::d::e::g::h::R):=by
 have q:((f::R)++[a,b,c,d,e,g,h]).Perm ([a,b,c,d,e,g,h]++(f::R)):=List.perm_append_comm
 refine q.trans ?_
 have q2:([c,d,e,g,h]++f::R).Perm (f::([c,d,e,g,h]++R)):=List.perm_middle
 exact (q2.cons b).cons a
instance:ArEl Tryz.prog 122 4 116 false 1:=⟨by kernel_rfl⟩
instance:ArEl Tryz.prog 129 5 3 false 1:=⟨by kernel_rfl⟩
instance:BlOf Tryz.prog 113 [(0,7)]:=⟨by kernel_rfl⟩
instance:Cal Tryz.prog 24:=⟨by kernel_rfl⟩
instance:Cal Tryz.prog 251:=⟨by kernel_rfl⟩
instance:Cal Tryz.prog 252:=⟨by kernel_rfl⟩
instance:Cal Tryz.prog 253:=⟨by kernel_rfl⟩
instance:Cal Tryz.prog 254:=⟨by kernel_rfl⟩
instance:SlEl Tryz.prog 117 3 1:=⟨by kernel_rfl⟩
instance:SlEl Tryz.prog 123 3 1:=⟨by kernel_rfl⟩
instance:SlEl Tryz.prog 180 116 1:=⟨by kernel_rfl⟩
instance:TySz Tryz.prog 116 false 1:=⟨by kernel_rfl⟩
instance:TySz Tryz.prog 122 true 4:=⟨by kernel_rfl⟩
instance:TySz Tryz.prog 129 true 5:=⟨by kernel_rfl⟩
instance:TySz Tryz.prog 26 true 7:=⟨by kernel_rfl⟩
instance:TyZ Tryz.prog 113 [.int .i64 0,.int .i64 0,.int .i64 0,.int .i64 0,.slice none 0 0,.slice none 0 0,.slice none 0 0]:=⟨by kernel_rfl⟩
instance:TyZA Tryz.prog 113 [.v (.int .i64 0),.v (.int .i64 0),.v (.int .i64 0),.v (.int .i64 0),.v (.slice none 0 0),.v (.slice none 0 0),.v (.slice none 0 0)]:=⟨by kernel_rfl⟩
instance:TyZA Tryz.prog 129 [.v (.int .i64 0),.v (.int .i64 0),.v (.int .i64 0),.v (.int .i64 0),.v (.int .i64 0)]:=⟨by kernel_rfl⟩
instance:Und Tryz.prog 117 (.slice 3):=⟨by kernel_rfl⟩
instance:Und Tryz.prog 123 (.slice 3):=⟨by kernel_rfl⟩
instance:Und Tryz.prog 180 (.slice 116):=⟨by kernel_rfl⟩
theorem check_ok {main:Bool} {T:Goroutine->Hp->Prop} (hT:Shut Tryz.prog main T)  {b:RBk} {s h e:Nat} (hl:b.seams.length<=100) (hm:b.measures.length<=100) :
  CallK Tryz.prog T gmR 24 [.agg (rollC b s h e)] [(0,checksG),(s,seamO b),(h,shrO b),(e,measO b)] (fun r K'=>r=intA (checkM b)/\K'=[(0,checksG),(s,seamO b),(h,shrO b),(e,measO b)]):=by
 refine callK_in 18 hT Tryz.func24 fun Y hret=>?_
 refine au [4,5,21] ?_
 intro jb hjb
 refine au [2,3,4,4,5,8,1,3,13] ?_
 refine TK.loop ?_
 refine au [4,5,6,3,4,20] ?_
 refine ⟨fun hc0=>?_,fun hc0=>?_⟩
 ·
  refine au [12,4,13,4,5] ?_
  refine TK.a rfl (q_index rfl rfl rfl ArEl.h oQ oQ rfl) ?_
  refine au [2,3,4,5,1,8,44] ?_
  refine TK.cl rfl rfl rfl rfl (rounds_ok hT) ?_
  rintro r1 K2 ⟨rfl,rfl⟩
  refine au [2,3,4,5,1,6,3,20] ?_
  refine ⟨fun hc1=>?_,fun hc1=>?_⟩
  ·refine au [4,5,1,2,3] ?_
   refine TK.rt hret [(0,_),(s,_),(h,_),(e,_)] ?_
   exact ⟨by unfold checkM; rw [if_pos (by simpa using hc1)],rfl⟩
  have q1:roundsM b=0:=by simpa using hc1
  have hr:=rounds_ok0 q1
  refine au [12,14,5,23,1,3] ?_
  refine TK.inLoop ?_
  refine au [4,5,6,3,4,20] ?_
  refine ⟨fun hc0=>?_,fun hc0=>?_⟩
  ·
   refine au [12,4,13,4,5] ?_
   refine TK.a rfl (q_index rfl rfl rfl ArEl.h oQ oQ rfl) ?_
   refine au [2,3,4,5,1,8,44] ?_
   refine TK.cl rfl rfl rfl rfl (seams_ok hT hr hl) ?_
   rintro r4 K5 ⟨rfl,rfl⟩
   refine au [2,3,4,5,1,6,3,20] ?_
   refine ⟨fun hc1=>?_,fun hc1=>?_⟩
   ·refine au [4,5,1,2,3] ?_
    refine TK.rt hret [(0,_),(s,_),(h,_),(e,_)] ?_
    exact ⟨by unfold checkM; rw [if_neg (by simpa using q1),if_pos (by simpa using hc1)],rfl⟩
   have q2:seamsM b=0:=by simpa using hc1
   have hs:=seams_ok0 q2
   refine au [12,14,5,23,1,3] ?_
   refine TK.inLoop ?_
   refine au [4,5,6,3,4,20] ?_
   refine ⟨fun hc0=>?_,fun hc0=>?_⟩
   ·
    refine au [12,4,13,4,5] ?_
    refine TK.a rfl (q_index rfl rfl rfl ArEl.h oQ oQ rfl) ?_
    refine au [2,3,4,5,1,8,44] ?_
    refine TK.cl rfl rfl rfl rfl (cloths_ok hT hr hs) ?_
    rintro r7 K8 ⟨rfl,rfl⟩
    refine au [2,3,4,5,1,6,3,20] ?_
    refine ⟨fun hc1=>?_,fun hc1=>?_⟩
    ·refine au [4,5,1,2,3] ?_
     refine TK.rt hret [(0,_),(s,_),(h,_),(e,_)] ?_
     exact ⟨by unfold checkM; rw [if_neg (by simpa using q1),if_neg (by simpa using q2),if_pos (by simpa using hc1)],rfl⟩
    have q3:clothsM b=0:=by simpa using hc1
    refine au [12,14,5,23,1,3] ?_
    refine TK.inLoop ?_
    refine au [4,5,6,3,4,20] ?_
    refine ⟨fun hc0=>?_,fun hc0=>?_⟩
    ·
     refine au [12,4,13,4,5] ?_
     refine TK.a rfl (q_index rfl rfl rfl ArEl.h oQ oQ rfl) ?_
     refine au [2,3,4,5,1,8,44] ?_
     refine TK.cl rfl rfl rfl rfl (measures_ok hT hs hm) ?_
     rintro r10 K11 ⟨rfl,rfl⟩
     refine au [2,3,4,5,1,6,3,20] ?_
     refine ⟨fun hc1=>?_,fun hc1=>?_⟩
     ·refine au [4,5,1,2,3] ?_
      refine TK.rt hret [(0,_),(s,_),(h,_),(e,_)] ?_
      exact ⟨by unfold checkM; rw [if_neg (by simpa using q1),if_neg (by simpa using q2),if_neg (by simpa using q3)],rfl⟩
     refine au [12,14,5,23,1,3] ?_
     refine TK.inLoop ?_
     refine au [4,5,6,3,4,20] ?_
     refine ⟨fun hc0=>?_,fun hc0=>?_⟩
     ·exact absurd hc0 dQ
     refine au [16,4,5,2,3] ?_
     refine TK.rt hret [(0,_),(s,_),(h,_),(e,_)] ?_
     exact ⟨by unfold checkM; rw [if_neg (by simpa using q1),if_neg (by simpa using q2),if_neg (by simpa using q3),show measM b=0 by simpa using hc1],rfl⟩
    exact absurd hc0 dQ
   exact absurd hc0 dQ
  exact absurd hc0 dQ
 exact absurd hc0 dQ
theorem cutsBar_ok {main:Bool} {T:Goroutine->Hp->Prop} (hT:Shut Tryz.prog main T) {gm:Nat->Option Nat} {b:RBk} {s h e j:Nat} {l:List Int} {et:TypeId} (hs:b.seams.length<=5) (hl:l.length<=1000) :
  CallK Tryz.prog T gm 91 [.sl j 0 l.length,.agg (rollC b s h e)] [(j,.cells (l.map intA) et false)] (fun r K'=>r=intA (cutsM b l)/\K'=[(j,.cells (l.map intA) et false)]):=by
 refine callK_in 36 hT Tryz.func91 fun Y hret=>?_
 refine au [4,5,21] ?_
 intro jb hjb
 refine au [2,3,4,4,5,1,28,6,3,20] ?_
 refine ⟨fun hc0=>?_,fun hc0=>?_⟩
 ·refine au [4,5,2,3] ?_
  refine TK.rt hret [(j,_)] ?_
  exact ⟨by unfold cutsM; rw [if_pos (by simp at hc0; simp [hc0])],rfl⟩
 refine au [12,4,4,5,1,28,1,3,13] ?_
 refine TK.maskL [0,3,4,11,12,13] ?_
 refine TK.loopN (fun n env K=>∃ (i:Nat) (last:Option Int),n=l.length - i/\i<=l.length/\cutsL b last (l.drop i)=cutsM b l/\(0<i->last=some (cutN l (i - 1)))/\(i=0->last=none)/\env=[.sl j 0 l.length,.any,.any,.ptr jb 0,intA 0,.any,.any,.any,.any,.any,.any,.sl j 0 l.length,intA l.length,intA i,.any,.any,.any,.any,.any,.any,.any,.any,.any,.any,.any,.any,.any,.any,.any,.any,.any,.any,.any,.any,.any,.any]/\K=[(jb,.cells (rollC b s h e) 113 true),(j,.cells (l.map intA) et false)]) l.length ⟨0,none,rfl,Nat.zero_le _,by unfold cutsM; rw [if_neg (by simp at hc0; simp; omega)]; rfl,fun h=>absurd h (Nat.lt_irrefl _),fun _=>rfl,rfl,rfl⟩ fun n env K hI hnext=>?_
 obtain ⟨i,last,rfl,hi,hinv,hlast,hlast0,rfl,rfl⟩:=hI
 refine au [4,5,6,3,4,20] ?_
 refine ⟨fun hc1=>?_,fun hc1=>?_⟩
 ·have hil:i<l.length:=by simp at hc1; omega
  refine au [12,4,13,4,5,1,36] ?_
  refine TK.a rfl (q_load1 rfl rfl TySz.h mQ (ints_at (i:=i) (cut_get hil) rfl)) ?_
  refine au [2,2,3,4,4,5,1,8] ?_
  refine TK.cl rfl rfl rfl rfl (there_ok hT oQ) ?_
  rintro r1 K2 ⟨rfl,rfl⟩
  refine au [2,3,4,5,1,6,3,20] ?_
  refine ⟨fun hc2=>?_,fun hc2=>?_⟩
  ·refine au [4,5,1,2,3] ?_
   refine TK.rt hret [(j,_)] ?_
   exact ⟨by rw [<- hinv,drop_cons (cut_get hil),cutsL,if_pos (by simpa using hc2)],rfl⟩
  refine au [12,4,5,1,6,1] ?_
  refine TK.sp 26 (fun g9_3=>?_) (fun g9_3=>?_)
  ·have hi0:0<i:=by simp at g9_3; omega
   refine au [1,1,1,24,36] ?_
   refine TK.a rfl (q_load1 rfl rfl TySz.h mQ (ints_at (i:=i - 1) (cut_get oQ) oQ)) ?_
   refine au [6,26,3,20] ?_
   refine ⟨fun hc3=>?_,fun hc3=>?_⟩
   ·refine au [4,5,2,3] ?_
    refine TK.rt hret [(j,_)] ?_
    exact ⟨by rw [<- hinv,drop_cons (cut_get hil),cutsL,if_neg (by simpa using hc2),if_pos (by obtain rfl:=hlast (by simp at g9_3; omega); exact hc3)],rfl⟩
   refine au [12,14,5,23,1,3] ?_
   refine TK.maskL [0,3,4,11,12,13] ?_
   refine TK.kp [(jb,_),(j,_)] ?_
   exact hnext _ _ _ oQ ⟨i+1,some (cutN l i),rfl,by omega,by rw [<- hinv,drop_cons (cut_get hil),cutsL,if_neg (by simpa using hc2),if_neg (by obtain rfl:=hlast (by simp at g9_3; omega); simpa [notAft] using hc3)],fun _=>rfl,fun h=>by omega,rfl,rfl⟩
  refine au [11,11,11,11,11,11,11,25,3,19,12,14,5,23,1,3] ?_
  refine TK.maskL [0,3,4,11,12,13] ?_
  refine TK.kp [(jb,_),(j,_)] ?_
  exact hnext _ _ _ oQ ⟨i+1,some (cutN l i),rfl,by omega,by rw [<- hinv,drop_cons (cut_get hil),cutsL,if_neg (by simpa using hc2),if_neg (by obtain rfl:=hlast0 (by simp at g9_3; omega); simp [notAft])],fun _=>rfl,fun h=>by omega,rfl,rfl⟩
 obtain rfl:i=l.length:=by simp at hc1; omega
 refine au [16,4,5,2,3] ?_
 refine TK.rt hret [(j,_)] ?_
 exact ⟨by rw [<- hinv,List.drop_length]; rfl,rfl⟩
theorem shBar_ok {main:Bool} {T:Goroutine->Hp->Prop} (hT:Shut Tryz.prog main T) {gm:Nat->Option Nat} {b:RBk} {s h e j:Nat} {l:List Int} {et:TypeId} (hr:RndOk b) (hs:SmOk b) :
  CallK Tryz.prog T gm 99 [.sl j 0 l.length,.agg (rollC b s h e)] [(s,seamO b),(j,.cells (l.map intA) et false)] (fun r K'=>r=intA (shM b l)/\K'=[(s,seamO b),(j,.cells (l.map intA) et false)]):=by
 refine callK_in 32 hT Tryz.func99 fun Y hret=>?_
 refine au [] ?_
 have hs5:=hs.len
 refine au [4,5,21] ?_
 intro jb hjb
 refine au [2,3,4,4,5,1,28,7,7,9,28,6,3,20] ?_
 refine ⟨fun hc0=>?_,fun hc0=>?_⟩
 ·refine au [4,5,2,3] ?_
  refine TK.rt hret [(s,_),(j,_)] ?_
  exact ⟨by unfold shM; rw [if_pos (by simp at hc0; omega)],rfl⟩
 have hle:l.length=b.seams.length:=by simp at hc0; omega
 refine au [12,4,4,5,1,28,1,3,13] ?_
 refine TK.maskL [0,3,4,14,15,16] ?_
 refine TK.loopN (fun n env K=>∃ (i:Nat),n=l.length - i/\i<=l.length/\shL b i (l.drop i)=shM b l/\env=[.sl j 0 l.length,.any,.any,.ptr jb 0,intA 0,.any,.any,.any,.any,.any,.any,.any,.any,.any,.sl j 0 l.length,intA l.length,intA i,.any,.any,.any,.any,.any,.any,.any,.any,.any,.any,.any,.any,.any,.any,.any]/\K=[(jb,.cells (rollC b s h e) 113 true),(s,seamO b),(j,.cells (l.map intA) et false)]) l.length ⟨0,rfl,Nat.zero_le _,by unfold shM; rw [if_neg (by simpa using hle)]; rfl,rfl,rfl⟩ fun n env K hI hnext=>?_
 obtain ⟨i,rfl,hi,hinv,rfl,rfl⟩:=hI
 refine au [4,5,6,3,4,20] ?_
 refine ⟨fun hc1=>?_,fun hc1=>?_⟩
 ·have hil:i<l.length:=by simp at hc1; omega
  refine au [12,4,13,4,5,1,36] ?_
  refine TK.a rfl (q_load1 rfl rfl TySz.h mQ (ints_at (i:=i) (cut_get hil) rfl)) ?_
  refine au [2,2,3,13,4,5,1] ?_
  refine TK.cl rfl rfl rfl rfl (between_ok hT) ?_
  rintro r1 K2 ⟨rfl,rfl⟩
  refine au [30,2,3,20] ?_
  refine ⟨fun hc2=>?_,fun hc2=>?_⟩
  ·refine au [4,5,2,3] ?_
   refine TK.rt hret [(s,_),(j,_)] ?_
   exact ⟨by rw [<- hinv,drop_cons (cut_get hil),shL,if_pos (by simpa using hc2)],rfl⟩
  refine au [4,5,1,8,1] ?_
  refine TK.cl rfl rfl rfl rfl (wide_ok hT (i:=i) hr hs oQ) ?_
  rintro r4 K5 ⟨rfl,rfl⟩
  refine au [6,2,3,20] ?_
  refine ⟨fun hc3=>?_,fun hc3=>?_⟩
  ·refine au [4,5,2,3] ?_
   refine TK.rt hret [(s,_),(j,_)] ?_
   exact ⟨by rw [<- hinv,drop_cons (cut_get hil),shL,if_neg (by simpa using hc2),if_pos (of_decide_eq_true hc3)],rfl⟩
  refine au [12,14,14,5,23,1,3] ?_
  refine TK.maskL [0,3,4,14,15,16] ?_
  refine TK.kp [(jb,_),(s,_),(j,_)] ?_
  exact hnext _ _ _ oQ ⟨i+1,rfl,by omega,by rw [<- hinv,drop_cons (cut_get hil),shL,if_neg (by simpa using hc2),if_neg (of_decide_eq_false hc3)],rfl,rfl⟩
 obtain rfl:i=l.length:=by simp at hc1; omega
 refine au [16,4,5,2,3] ?_
 refine TK.rt hret [(s,_),(j,_)] ?_
 exact ⟨by rw [<- hinv,List.drop_length]; rfl,rfl⟩
theorem opened0_ok {main:Bool} {T:Goroutine->Hp->Prop} (hT:Shut Tryz.prog main T)  {b:RBk} {s h e:Nat} {Kx:KV}  (hl:b.seams.length<=100) (hm:b.measures.length<=100)  :
  CallK Tryz.prog T gmR 90 [.agg (rollC b s h e),.v (.slice none 0 0)] ((0,checksG)::(s,seamO b)::(h,shrO b)::(e,measO b)::Kx) (fun r K'=>OpenR b s h e (checkM b) r/\K'=(0,checksG)::(s,seamO b)::(h,shrO b)::(e,measO b)::Kx):=by
 refine callK_in 34 hT Tryz.func90 fun Y hret=>?_
 refine au [4,5,21] ?_
 intro jb hjb
 refine au [22] ?_
 intro jr hjr
 refine au [2,3,4,4,5,8] ?_
 refine TK.cl rfl rfl rfl rfl (check_ok hT hl hm) ?_ (hs:=(.right (.right (.left (.left (.left (.left (.none _))))))))
 rintro r1 K2 ⟨rfl,rfl⟩
 refine au [2,3,4,5,1,6,3,20] ?_
 refine ⟨fun hc0=>?_,fun hc0=>?_⟩
 ·refine au [4,5,44,1,17,2,3] ?_
  refine TK.rt hret ((0,_)::(s,_)::(h,_)::(e,_)::Kx) ?_
  exact ⟨.inr ⟨by exact (by simpa using hc0),by rfl⟩,rfl⟩
 have q0:checkM b=0:=by simpa using hc0
 refine au [12,4,5,8,44,22] ?_
 intro jx hjx
 refine au [17,3,4,4,5,1,28,1,3,13] ?_
 refine TK.loop ?_
 refine au [4,5,6,3,4,20] ?_
 refine ⟨fun hc1=>?_,fun hc1=>?_⟩
 ·exact absurd hc1 dQ
 refine au [16,4,5,8,17,2,3] ?_
 refine TK.rt hret ((0,_)::(s,_)::(h,_)::(e,_)::Kx) ?_
 exact ⟨.inl ⟨q0,rfl⟩,rfl⟩
theorem opened1_ok {main:Bool} {T:Goroutine->Hp->Prop} (hT:Shut Tryz.prog main T)  {b:RBk} {s h e ja:Nat} {Kx:KV} {f1:AV} {p1:Int} (hl:b.seams.length<=100) (hm:b.measures.length<=100) (hf1:checkM b=0->CallFK Tryz.prog T gmR f1 [.agg (rollC b s h e)] ((s,seamO b)::Kx) (fun r K'=>r=intA p1/\K'=(s,seamO b)::Kx)) :
  CallK Tryz.prog T gmR 90 [.agg (rollC b s h e),.row ja 1] ((ja,.row [f1] 116 1)::(0,checksG)::(s,seamO b)::(h,shrO b)::(e,measO b)::Kx) (fun r K'=>OpenR b s h e (bar2 (checkM b) p1) r/\K'=(ja,.row [f1] 116 1)::(0,checksG)::(s,seamO b)::(h,shrO b)::(e,measO b)::Kx):=by
 refine callK_in 34 hT Tryz.func90 fun Y hret=>?_
 refine au [4,5,21] ?_
 intro jb hjb
 refine au [22] ?_
 intro jr hjr
 refine au [2,3,4,4,5,8] ?_
 refine TK.cl rfl rfl rfl rfl (check_ok hT hl hm) ?_ (hs:=(.right (.right (.right (.left (.left (.left (.left (.none _)))))))))
 rintro r1 K2 ⟨rfl,rfl⟩
 refine au [2,3,4,5,1,6,3,20] ?_
 refine ⟨fun hc0=>?_,fun hc0=>?_⟩
 ·refine au [4,5,44,1,17,2,3] ?_
  refine TK.rt hret ((ja,_)::(0,_)::(s,_)::(h,_)::(e,_)::Kx) ?_
  exact ⟨.inr ⟨by rw [bar2_l (by simpa using hc0)]; exact (by simpa using hc0),by rw [bar2_l (by simpa using hc0)]; rfl⟩,rfl⟩
 have q0:checkM b=0:=by simpa using hc0
 refine au [12,4,5,8,44,22] ?_
 intro jx hjx
 refine au [17,3,4,4,5,1,28,1,3,13] ?_
 refine TK.loop ?_
 refine au [4,5,6,3,4,20] ?_
 refine ⟨fun hc1=>?_,fun hc1=>?_⟩
 ·
  refine au [12,4,13,4,5,37,9,2,3,4,5,1,8] ?_
  refine TK.callF' rfl rfl rfl rfl rfl (hf1 q0) (.right (.right (.left (.right (.right (.right (.right (.right (.all _))))))))) fun r4 K5 h6=>?_
  obtain ⟨rfl,rfl⟩:=h6
  refine au [] ?_
  refine TK.perm (K':=(jx,_)::(0,_)::(s,_)::(h,_)::(e,_)::(jr,_)::(jb,_)::(ja,_)::Kx) perm_bk ?_
  refine au [2,3,4,5,1,6,3,20] ?_
  refine ⟨fun hc2=>?_,fun hc2=>?_⟩
  ·refine au [4,5,44,1,17,2,3] ?_
   refine TK.rt hret ((ja,_)::(0,_)::(s,_)::(h,_)::(e,_)::Kx) ?_
   exact ⟨.inr ⟨by rw [bar2_r q0]; simpa using hc2,by rw [bar2_r q0]; rfl⟩,rfl⟩
  have q1:p1=0:=by simpa using hc2
  refine au [12,14,5,23,1,3] ?_
  refine TK.inLoop ?_
  refine au [4,5,6,3,4,20] ?_
  refine ⟨fun hc1=>?_,fun hc1=>?_⟩
  ·exact absurd hc1 dQ
  refine au [16,4,5,8,17,2,3] ?_
  refine TK.rt hret ((ja,_)::(0,_)::(s,_)::(h,_)::(e,_)::Kx) ?_
  exact ⟨.inl ⟨by rw [bar2_r q0]; exact q1,rfl⟩,rfl⟩
 exact absurd hc1 dQ
theorem opened2_ok {main:Bool} {T:Goroutine->Hp->Prop} (hT:Shut Tryz.prog main T)  {b:RBk} {s h e ja:Nat} {Kx:KV} {f1:AV} {p1:Int} {f2:AV} {p2:Int} (hl:b.seams.length<=100) (hm:b.measures.length<=100) (hf1:checkM b=0->CallFK Tryz.prog T gmR f1 [.agg (rollC b s h e)] ((s,seamO b)::Kx) (fun r K'=>r=intA p1/\K'=(s,seamO b)::Kx)) (hf2:checkM b=0->CallFK Tryz.prog T gmR f2 [.agg (rollC b s h e)] ((s,seamO b)::Kx) (fun r K'=>r=intA p2/\K'=(s,seamO b)::Kx)) :
  CallK Tryz.prog T gmR 90 [.agg (rollC b s h e),.row ja 2] ((ja,.row [f1,f2] 116 1)::(0,checksG)::(s,seamO b)::(h,shrO b)::(e,measO b)::Kx) (fun r K'=>OpenR b s h e (bar2 (checkM b) (bar2 p1 p2)) r/\K'=(ja,.row [f1,f2] 116 1)::(0,checksG)::(s,seamO b)::(h,shrO b)::(e,measO b)::Kx):=by
 refine callK_in 34 hT Tryz.func90 fun Y hret=>?_
 refine au [4,5,21] ?_
 intro jb hjb
 refine au [22] ?_
 intro jr hjr
 refine au [2,3,4,4,5,8] ?_
 refine TK.cl rfl rfl rfl rfl (check_ok hT hl hm) ?_ (hs:=(.right (.right (.right (.left (.left (.left (.left (.none _)))))))))
 rintro r1 K2 ⟨rfl,rfl⟩
 refine au [2,3,4,5,1,6,3,20] ?_
 refine ⟨fun hc0=>?_,fun hc0=>?_⟩
 ·refine au [4,5,44,1,17,2,3] ?_
  refine TK.rt hret ((ja,_)::(0,_)::(s,_)::(h,_)::(e,_)::Kx) ?_
  exact ⟨.inr ⟨by rw [bar2_l (by simpa using hc0)]; exact (by simpa using hc0),by rw [bar2_l (by simpa using hc0)]; rfl⟩,rfl⟩
 have q0:checkM b=0:=by simpa using hc0
 refine au [12,4,5,8,44,22] ?_
 intro jx hjx
 refine au [17,3,4,4,5,1,28,1,3,13] ?_
 refine TK.loop ?_
 refine au [4,5,6,3,4,20] ?_
 refine ⟨fun hc1=>?_,fun hc1=>?_⟩
 ·
  refine au [12,4,13,4,5,37,9,2,3,4,5,1,8] ?_
  refine TK.callF' rfl rfl rfl rfl rfl (hf1 q0) (.right (.right (.left (.right (.right (.right (.right (.right (.all _))))))))) fun r4 K5 h6=>?_
  obtain ⟨rfl,rfl⟩:=h6
  refine au [] ?_
  refine TK.perm (K':=(jx,_)::(0,_)::(s,_)::(h,_)::(e,_)::(jr,_)::(jb,_)::(ja,_)::Kx) perm_bk ?_
  refine au [2,3,4,5,1,6,3,20] ?_
  refine ⟨fun hc2=>?_,fun hc2=>?_⟩
  ·refine au [4,5,44,1,17,2,3] ?_
   refine TK.rt hret ((ja,_)::(0,_)::(s,_)::(h,_)::(e,_)::Kx) ?_
   exact ⟨.inr ⟨by rw [bar2_r q0,bar2_l (by simpa using hc2)]; simpa using hc2,by rw [bar2_r q0,bar2_l (by simpa using hc2)]; rfl⟩,rfl⟩
  have q1:p1=0:=by simpa using hc2
  refine au [12,14,5,23,1,3] ?_
  refine TK.inLoop ?_
  refine au [4,5,6,3,4,20] ?_
  refine ⟨fun hc1=>?_,fun hc1=>?_⟩
  ·
   refine au [12,4,13,4,5,37,9,2,3,4,5,1,8] ?_
   refine TK.callF' rfl rfl rfl rfl rfl (hf2 q0) (.right (.right (.left (.right (.right (.right (.right (.right (.all _))))))))) fun r7 K8 h9=>?_
   obtain ⟨rfl,rfl⟩:=h9
   refine au [] ?_
   refine TK.perm (K':=(jx,_)::(0,_)::(s,_)::(h,_)::(e,_)::(jr,_)::(jb,_)::(ja,_)::Kx) perm_bk ?_
   refine au [2,3,4,5,1,6,3,20] ?_
   refine ⟨fun hc2=>?_,fun hc2=>?_⟩
   ·refine au [4,5,44,1,17,2,3] ?_
    refine TK.rt hret ((ja,_)::(0,_)::(s,_)::(h,_)::(e,_)::Kx) ?_
    exact ⟨.inr ⟨by rw [bar2_r q0,bar2_r q1]; simpa using hc2,by rw [bar2_r q0,bar2_r q1]; rfl⟩,rfl⟩
   have q2:p2=0:=by simpa using hc2
   refine au [12,14,5,23,1,3] ?_
   refine TK.inLoop ?_
   refine au [4,5,6,3,4,20] ?_
   refine ⟨fun hc1=>?_,fun hc1=>?_⟩
   ·exact absurd hc1 dQ
   refine au [16,4,5,8,17,2,3] ?_
   refine TK.rt hret ((ja,_)::(0,_)::(s,_)::(h,_)::(e,_)::Kx) ?_
   exact ⟨.inl ⟨by rw [bar2_r q0,bar2_r q1]; exact q2,rfl⟩,rfl⟩
  exact absurd hc1 dQ
 exact absurd hc1 dQ
theorem stateOf_ok {main:Bool} {T:Goroutine->Hp->Prop} (hT:Shut Tryz.prog main T) {gm:Nat->Option Nat} {j:Nat} {l:List Int} {et:TypeId} (h5:l.length<=5) (h0:0<l.length) :
  CallK Tryz.prog T gm 101 [.sl j 0 l.length] [(j,.cells (l.map intA) et false)] (fun r K'=>r=.agg (stC l)/\K'=[(j,.cells (l.map intA) et false)]):=by
 refine callK_in 8 hT Tryz.func101 fun Y hret=>?_
 refine au [4,5,22] ?_
 intro jr hjr
 refine au [3,4,5,22] ?_
 intro ja hja
 refine au [3,4,5] ?_
 refine TK.a rfl (q_sliceArr rfl rfl ArEl.h rfl rfl oQ oQ rfl) ?_
 refine au [1] ?_
 refine TK.st rfl rfl rfl (q_copy rfl rfl SlEl.h (src_sl mQ oQ (take_all0 h0)) h0 h5 mQ (set_zero h5 _ h0)) uQ (putS rfl (by simp only [List.set]; rfl)) ?_
 refine au [3,4,5,8,17,3] ?_
 refine TK.rt hret [(j,_)] ?_
 exact ⟨rfl,rfl⟩
theorem fresh_ok {main:Bool} {T:Goroutine->Hp->Prop} (hT:Shut Tryz.prog main T) {gm:Nat->Option Nat} {b:RBk} {s h e:Nat} {l:List Int} (hb:ROk b) (hl:StOk b l) :
  CallK Tryz.prog T gm 133 [.agg (rollC b s h e),.agg (stC l)] [] (fun r K'=>r=intA (freshM b l)/\K'=[]):=by
 refine callK_in 24 hT Tryz.func133 fun Y hret=>?_
 refine au [] ?_
 have f0:=hl.slot hb 0
 have f1:=hl.slot hb 1
 have f2:=hl.slot hb 2
 have f3:=hl.slot hb 3
 have f4:=hl.slot hb 4
 have hst:=hb.rnd.steps
 have hrd:=hb.rnd.round
 refine au [4,5,21] ?_
 intro jb hjb
 refine au [21] ?_
 intro js hjs
 refine au [2,3,4,5,7,7,9,7,7,9,24,2,3,4,4,5,8,1,3,13] ?_
 refine TK.loop ?_
 refine au [4,5,6,3,4,20] ?_
 refine ⟨fun hc0=>?_,fun hc0=>?_⟩
 ·
  refine au [12,4,13,4,5] ?_
  refine TK.a rfl (q_index rfl rfl rfl ArEl.h oQ oQ rfl) ?_
  refine au [2,3,5,1,1,23,2,3,14,5,23,1,3] ?_
  refine TK.inLoop ?_
  refine au [4,5,6,3,4,20] ?_
  refine ⟨fun hc0=>?_,fun hc0=>?_⟩
  ·
   refine au [12,4,13,4,5] ?_
   refine TK.a rfl (q_index rfl rfl rfl ArEl.h oQ oQ rfl) ?_
   refine au [2,3,5,1,1,23,2,3,14,5,23,1,3] ?_
   refine TK.inLoop ?_
   refine au [4,5,6,3,4,20] ?_
   refine ⟨fun hc0=>?_,fun hc0=>?_⟩
   ·
    refine au [12,4,13,4,5] ?_
    refine TK.a rfl (q_index rfl rfl rfl ArEl.h oQ oQ rfl) ?_
    refine au [2,3,5,1,1,23,2,3,14,5,23,1,3] ?_
    refine TK.inLoop ?_
    refine au [4,5,6,3,4,20] ?_
    refine ⟨fun hc0=>?_,fun hc0=>?_⟩
    ·
     refine au [12,4,13,4,5] ?_
     refine TK.a rfl (q_index rfl rfl rfl ArEl.h oQ oQ rfl) ?_
     refine au [2,3,5,1,1,23,2,3,14,5,23,1,3] ?_
     refine TK.inLoop ?_
     refine au [4,5,6,3,4,20] ?_
     refine ⟨fun hc0=>?_,fun hc0=>?_⟩
     ·
      refine au [12,4,13,4,5] ?_
      refine TK.a rfl (q_index rfl rfl rfl ArEl.h oQ oQ rfl) ?_
      refine au [2,3,5,1,1,23,2,3,14,5,23,1,3] ?_
      refine TK.inLoop ?_
      refine au [4,5,6,3,4,20] ?_
      refine ⟨fun hc0=>?_,fun hc0=>?_⟩
      ·exact absurd hc0 dQ
      refine au [16,4,5,1,2,3] ?_
      refine TK.rt hret [] ?_
      exact ⟨by show intA _=intA _; unfold freshM; congr 1; omega,rfl⟩
     exact absurd hc0 dQ
    exact absurd hc0 dQ
   exact absurd hc0 dQ
  exact absurd hc0 dQ
 exact absurd hc0 dQ
end Go.Vel
namespace Go.Vel
open Go Go.Conc
section
variable {P:Program} {gm:Nat->Option Nat} {V:KV} {env:List AV} {o:Oper} {r:AV}
theorem n_makeInts {t e:TypeId} {ti:TypeInfo} {z:Value} {x y:Operand} {n:Nat} (ho:o.op=.makeSlice t x y) (hx:opndO gm env x=some (.v (.int .i64 n))) (hy:opndO gm env y=some (.v (.int .i64 n))) (ht:P.underlying t=some (.slice e)) (hi:P.info? e=some ti) (hz:ti.zero=some z) (hzc:z.cells=#[.int .i64 0]) (hs:ti.size=1) (hb:ti.bytes=8) (h0:0<n) (hn:n<=1000) :
  Nk P gm env V o (fun j=>.sl j 0 n) (.cells (List.replicate n (.v (.int .i64 0))) e true):=fun A _ φ F H a hg hH hE=>by
 unfold execOp; rw [ho]; dsimp only
 have hx':=opnd_rel hg hE x
 rw [opndO_eq hx] at hx'
 have hy':=opnd_rel hg hE y
 rw [opndO_eq hy] at hy'
 rw [inv_v hx',inv_v hy']
 refine wpS_v ?_
 unfold Instr.makeSlice
 refine wpS_bind_eq _ _ _ (wpS_underlying ht ?_)
 dsimp only
 refine wpS_bind_eq _ _ _ ?_
 change wpS P (pure (n:Int)) H _
 rw [wpS_pure]
 refine wpS_bind_eq _ _ _ ?_
 change wpS P (pure (n:Int)) H _
 rw [wpS_pure]
 refine wpS_bind_eq _ _ _ (wpS_typeInfo hi ?_)
 have hw:IntKind.i64.wrap (n:Int)=n:=wrap_i64 oQ
 rw [hw,hb]
 have hf:((decide ((n:Int)<0)||decide (((8:Nat):Int)*(n:Int)>2 ^ 48))||decide ((n:Int)<0)||decide ((n:Int)>(n:Int)))=false:=by
  have h1:decide ((n:Int)<0)=false:=decide_eq_false oQ
  have h2:decide (((8:Nat):Int)*(n:Int)>2 ^ 48)=false:=decide_eq_false oQ
  have h3:decide ((n:Int)>(n:Int))=false:=decide_eq_false oQ
  rw [h1,h2,h3]; rfl
 rw [if_neg (by rw [hf]; decide)]
 have hroom:∀ (b:Nat) (Q:Unit->Hp->Prop),Q () H->wpS P (askRoom b) H Q:=fun b Q hq=>by
  unfold askRoom
  split
  ·exact ⟨.inl rfl,hq⟩
  ·exact hq
 refine wpS_bind_eq _ _ _ (hroom _ _ ?_)
 refine wpS_bind_eq _ _ _ (wpS_sizeOf hi ?_)
 rw [hs,Int.toNat_natCast,Nat.mul_one,if_neg oQ]
 refine wpS_bind_eq _ _ _ (wpS_zeroValue hi hz ?_)
 unfold newRow
 refine wpS_bind_eq _ _ _ ?_
 rw [wpS_pure]
 refine wpS_bind_eq _ _ _ ?_
 refine wpS_bind_eq _ _ _ fun b hb=>?_
 have hz1:∀ i:Nat,z.cells[i % z.cells.size]! =.int .i64 0:=fun i=>by
  rw [hzc]
  show (#[Value.int IntKind.i64 0])[i % 1]! =_
  rw [Nat.mod_one]; rfl
 show OpPost φ A F (.sl A.length 0 n) (A++[.cells (List.replicate n (.v (.int .i64 0))) e true]) (.value (.slice (some ⟨b,0,none⟩) n n)) (H.put b (true,.cells _ e (0,0)))
 refine ⟨_,upd3 φ A.length ⟨b,0,0⟩,.inl rfl,agr_upd3 _ _ _,by simp,hH.push hb rfl ?_,?_⟩
 ·refine fun _=>⟨true,_,_,Hp.put_same _ _ _,fun _=>⟨⟨rfl,rfl⟩,by simp [upd3],by simp⟩,fun j u hu=>?_⟩
  obtain ⟨hj,rfl⟩:=List.getElem?_eq_some_iff.1 hu
  rw [List.getElem_replicate]
  rw [List.length_replicate] at hj
  refine ⟨.int .i64 0,?_,.v _⟩
  rw [Nat.zero_add,Array.getElem?_map,Array.getElem?_range,if_pos hj,Option.map_some,hz1]
 ·refine .sl sQ (Nat.le_refl _) fun _=>?_
  simp [upd3]
theorem n_makeI {t e:TypeId} {x y:Operand} {n:Nat} (ho:o.op=.makeSlice t x y) (hx:opndO gm env x=some (.v (.int .i64 n))) (hy:opndO gm env y=some (.v (.int .i64 n))) (ha:apOf P t=some (e,1,8)) (hz:tyZero P e=some [.int .i64 0]) (h0:0<n) (hn:n<=1000) :
  Nk P gm env V o (fun j=>.sl j 0 n) (.cells ((List.replicate n (0:Int)).map fun a=>.v (.int .i64 a)) e true):=by
 rw [List.map_replicate]
 unfold apOf at ha
 split at ha
 ·rename_i e' h1
  split at ha
  ·rename_i ti h2
   split at ha
   ·rename_i z h3
    split at ha
    ·rename_i h4
     simp only [Option.some.injEq,Prod.mk.injEq] at ha
     obtain ⟨rfl,h5,h6⟩:=ha
     obtain ⟨i,z',g1,g2,g3⟩:=tyZero_spec hz
     rw [h2] at g1
     cases g1
     rw [h3] at g2
     cases g2
     exact n_makeInts ho hx hy h1 h2 h3 (by rw [<- Array.toList_inj,g3]) h5 h6 h0 hn
    ·cases ha
   ·cases ha
  ·cases ha
 ·cases ha
variable {T:Goroutine->Hp->Prop} {Y:KX P gm T} {ds:List Nat} {k:List Item} {K K':KV} {ops:Array Oper} {L:List Nat} {pend:List Pd}
theorem TD.perm (hp:K.Perm K') (h:TD Y ds ops k pend L env K'):TD Y ds ops k pend L env K:=fun h1 h2 h3 A hA=>h h1 h2 (fun p hp' x hx=>hp.subset (h3 p hp' x hx)) A
 ⟨hA.view.sub fun x hx=>hp.symm.subset hx,(keys_perm hp).nodup_iff.1 hA.nd,fun i hi=>hA.own i ((keys_perm hp).symm.subset hi),hA.kept,hA.len⟩
end
theorem setL_one (xs:List AV) (k:Nat) (v:AV) (h:k<xs.length):setL xs k [v]=xs.set k v:=rfl
theorem put_int {xs:List Int} {k:Nat} {n v:Int} {e:TypeId} (h:k<xs.length) (hn:n=(k:Int)):putO (.cells (xs.map intA) e true) (0+n.toNat*1) [intA v]=some (.cells ((xs.set k v).map intA) e true):=by
 subst hn
 unfold putO
 dsimp only
 rw [if_pos ⟨by simp; omega,by simp,rfl⟩,setL_one _ _ _ (by simp; omega),List.map_set]
 simp
def dataM (S T:List Int) (x:Int) (j:Nat):List Int:=S.take j++x::(S.drop j++T)
theorem data_at {S T:List Int} {x:Int} {j:Nat} (h:j<=S.length):(dataM S T x j)[j]? =some x:=by
 unfold dataM
 rw [List.getElem?_append_right (by simp; omega)]
 simp [Nat.min_eq_left h]
theorem data_prev {S T:List Int} {x:Int} {j:Nat} (h:j+1<=S.length):(dataM S T x (j+1))[j]? =S[j]? :=by
 unfold dataM
 rw [List.getElem?_append_left (by simp; omega),List.getElem?_take,if_pos oQ]
theorem data_len {S T:List Int} {x:Int} {j:Nat}:(dataM S T x j).length=S.length+T.length+1:=by
 unfold dataM
 simp
 omega
theorem data_swap {S T:List Int} {x y:Int} {j:Nat} (h:S[j]? =some y):((dataM S T x (j+1)).set (j+1) y).set j x=dataM S T x j:=by
 obtain ⟨h1,rfl⟩:=List.getElem?_eq_some_iff.1 h
 unfold dataM
 have e1:S.take (j+1)=S.take j++[S[j]]:=by rw [List.take_add_one,h]; rfl
 have e2:S.drop j=S[j]::S.drop (j+1):=List.drop_eq_getElem_cons h1
 have l1:(S.take j).length=j:=by simp; omega
 rw [e1,e2]
 have:(S.take j++[S[j]]++x::(S.drop (j+1)++T)).set (j+1) S[j]=S.take j++S[j]::S[j]::(S.drop (j+1)++T):=by
  rw [List.append_assoc,List.set_append_right _ _ oQ,l1]
  simp
 rw [this,List.set_append_right _ _ oQ,l1,Nat.sub_self]
 rfl
theorem data_top (S T:List Int) (x:Int):dataM S T x S.length=S++x::T:=by
 unfold dataM
 simp
theorem insJ_stop {lt:Int->Int->Bool} {x:Int} {S T:List Int} {j:Nat} (h:j<=S.length) (hj:∀ i y,j=i+1->S[i]? =some y->lt x y=false):dataM S T x j=insJ lt x S j++T:=by
 unfold dataM
 cases j with
 | zero=>simp [insJ]
 | succ i =>
  have hi:i<S.length:=by omega
  have e:S[i]? =some S[i]:=List.getElem?_eq_getElem hi
  unfold insJ
  rw [e]
  dsimp only
  rw [if_neg (by rw [hj i _ rfl e]; decide)]
  simp
theorem insJ_go {lt:Int->Int->Bool} {x y:Int} {S:List Int} {j:Nat} (h:S[j]? =some y) (hl:lt x y=true):insJ lt x S (j+1)=insJ lt x S j:=by
 conv=>lhs; unfold insJ
 rw [h]
 dsimp only
 rw [if_pos hl]
theorem sortN_succ {lt:Int->Int->Bool} {l:List Int} {i:Nat} {x:Int} (h:l[i]? =some x):sortN lt l (i+1)=insJ lt x (sortN lt l i) (sortN lt l i).length:=by
 conv=>lhs; unfold sortN
 rw [h]; rfl
theorem insJ_mem {lt:Int->Int->Bool} {x:Int} {S:List Int}:∀ j,j<=S.length->∀ z,z∈insJ lt x S j↔z=x\/z∈S
 | 0,_,z=>by simp [insJ]
 | j+1,h,z=>by
  have e:S[j]? =some S[j]:=List.getElem?_eq_getElem oQ
  unfold insJ
  rw [e]
  dsimp only
  split
  ·exact insJ_mem j oQ z
  ·rw [List.mem_append,List.mem_cons]
   have:z∈S↔z∈S.take (j+1)\/z∈S.drop (j+1):=by rw [<- List.mem_append,List.take_append_drop]
   rw [this]
   grind
theorem sortN_mem {lt:Int->Int->Bool} {l:List Int}:∀ i,i<=l.length->∀ z∈sortN lt l i,z∈l
 | 0,_,z,hz=>by simp [sortN] at hz
 | i+1,h,z,hz=>by
  have e:l[i]? =some l[i]:=List.getElem?_eq_getElem oQ
  rw [sortN_succ e,insJ_mem _ (Nat.le_refl _)] at hz
  rcases hz with rfl | hz
  ·exact List.getElem_mem _
  ·exact sortN_mem i oQ z hz
theorem idx_set {n i:Nat} (h:i<n):(idxM i++List.replicate (n - i) 0).set i (i:Int)=idxM (i+1)++List.replicate (n - (i+1)) 0:=by
 have l1:(idxM i).length=i:=by simp [idxM]
 rw [List.set_append_right _ _ oQ,l1,Nat.sub_self,show n - i=(n - (i+1))+1 by omega,List.replicate_succ,List.set_cons_zero]
 unfold idxM
 rw [List.range_succ,List.map_append,List.append_assoc]
 rfl
theorem idx_mem {n:Nat} {z:Int} (h:z∈idxM n):0<=z/\z<n:=by
 unfold idxM at h
 obtain ⟨k,hk,rfl⟩:=List.mem_map.1 h
 rw [List.mem_range] at hk
 omega
theorem ord_mem {b:RBk} {l:List Int} {z:Int} (h:z∈ordM b l):0<=z/\z<l.length:=idx_mem (sortN_mem _ (Nat.le_refl _) z h)
theorem ord_len (b:RBk) (l:List Int):(ordM b l).length=l.length:=by
 unfold ordM sortR
 rw [sortN_len _ _ (Nat.le_refl _)]
 simp [idxM]
theorem spoil_bd {b:RBk} (hb:ROk b) {l:List Int} (hl:CutsOk b l):∀ i,i<=l.length->0<=spoilM b l i/\spoilM b l i<=9*i
 | 0,_=>by simp [spoilM]
 | i+1,h=>by
  have h1:=spoil_bd hb hl i oQ
  have h2:=hb.sms.fld _ (hl.lt (k:=i) oQ).2.2
  unfold spoilM cutS
  omega
end Go.Vel
namespace Go.Vel
open Go Go.Conc Go.Proofs
instance:ApOf Tryz.prog 30 96 2 16:=⟨by kernel_rfl⟩
instance:BlOf Tryz.prog 96 [(0,1),(1,1)]:=⟨by kernel_rfl⟩
instance:Cal Tryz.prog 92:=⟨by kernel_rfl⟩
instance:EqG Tryz.prog 96:=⟨by kernel_rfl⟩
instance:FlatF Tryz.prog 96 [(3,0),(3,1)]:=⟨by kernel_rfl⟩
instance:FldOf Tryz.prog 94 4 4 false 1:=⟨by kernel_rfl⟩
instance:FldOf Tryz.prog 96 0 0 false 1:=⟨by kernel_rfl⟩
instance:FldOf Tryz.prog 96 1 1 false 1:=⟨by kernel_rfl⟩
instance {a0 a1 a2 a3 a4 a5 a6 a7 a8 a9 a10 a11 a12 a13 a14 a15 a16 a17 a18 a19 a20 a21 a22 a23 a24 a25 a26 a27 a28 a29:Oper}:RgL #[a0,a1,a2,a3,a4,a5,a6,a7,a8,a9,a10,a11,a12,a13,a14,a15,a16,a17,a18,a19,a20,a21,a22,a23,a24,a25,a26,a27,a28,a29] [0,1,2,3,4,5,6,7,8,9,10,11,12,13,14,15,16,17,18,19,20,21,22,23,24,25,26,27,28,29]:=⟨rfl⟩
instance:SlEl Tryz.prog 30 96 2:=⟨by kernel_rfl⟩
instance:TySz Tryz.prog 96 true 2:=⟨by kernel_rfl⟩
instance:TyZ Tryz.prog 96 [.int .i64 0,.int .i64 0]:=⟨by kernel_rfl⟩
instance:TyZA Tryz.prog 96 [.v (.int .i64 0),.v (.int .i64 0)]:=⟨by kernel_rfl⟩
instance:Und Tryz.prog 30 (.slice 96):=⟨by kernel_rfl⟩
theorem strips_ok {main:Bool} {T:Goroutine->Hp->Prop} (hT:Shut Tryz.prog main T) {gm:Nat->Option Nat} {b:RBk} {s h e j:Nat} {l:List Int} {et:TypeId} (hb:ROk b) (hl:CutsOk b l) :
  CallK Tryz.prog T gm 92 [.agg (rollC b s h e),.sl j 0 l.length] [(s,seamO b),(j,.cells (l.map intA) et false)] (fun r K'=>∃ jr,r=.row jr l.length/\K'=[(jr,.row ((stripsM b l).flatMap pairC) 96 2),(s,seamO b),(j,.cells (l.map intA) et false)]):=by
 refine callK_in 61 hT Tryz.func92 fun Y hret=>?_
 refine au [] ?_
 have hp0:=hl.pos
 have hs5:=hb.sms.len
 have hst:=hb.rnd.steps
 have hl5:=hl.len
 have q0:=hl.lt hl.pos
 have f0:=hb.sms.fld _ q0.2.2
 refine au [4,5,21] ?_
 intro jb hjb
 refine au [2,3,4,5,2] ?_
 refine TK.virt 5 96 2 rfl fun jr0 hjr0=>?_
 refine au [3,4,4,5,1,28,1,3,13] ?_
 refine TK.maskL [1,2,5,9,10,11] ?_
 refine TK.loopN (fun n env K=>∃ (i jr:Nat),n=l.length - i/\i<=l.length/\env=[.any,.sl j 0 l.length,.ptr jb 0,.any,.any,.row jr i,.any,.any,.any,.sl j 0 l.length,intA l.length,intA i,.any,.any,.any,.any,.any,.any,.any,.any,.any,.any,.any,.any,.any,.any,.any,.any,.any,.any,.any,.any,.any,.any,.any,.any,.any,.any,.any,.any,.any,.any,.any,.any,.any,.any,.any,.any,.any,.any,.any,.any,.any,.any,.any,.any,.any,.any,.any,.any,.any]/\K=[(jr,.row (((List.range i).map (stripM b l)).flatMap pairC) 96 2),(jb,.cells (rollC b s h e) 113 true),(s,seamO b),(j,.cells (l.map intA) et false)]) l.length ⟨0,jr0,rfl,Nat.zero_le _,rfl,rfl⟩ fun n env K hI hnext=>?_
 obtain ⟨i,jr,rfl,hi,rfl,rfl⟩:=hI
 have hpl:=pair_len b l i
 refine au [4,5,6,3,4,20] ?_
 refine ⟨fun hc0=>?_,fun hc0=>?_⟩
 ·have hil:i<l.length:=by simp at hc0; omega
  have qi:=hl.lt hil
  have fi:=hb.sms.fld _ qi.2.2
  refine au [12,4,13,4,5,1,36] ?_
  refine TK.a rfl (q_load1 rfl rfl TySz.h mQ (ints_at (i:=i) (cut_get hil) rfl)) ?_
  refine au [2,2,3,4] ?_
  refine TK.draw [0,1,2,3,4,5,6,7,8,9,10,11,12,13] [0,1,2,3,4,5,6,7,8,9,10,11,12,13] (by kernel_rfl) (by kernel_rfl) ?_
  refine TD.z [2] rfl (q_fieldAddr rfl rfl FldOf.h dQ) ?_
  refine TD.z [16] rfl (q_fieldAddr rfl rfl FldOf.h dQ) ?_
  refine TD.y [17] rfl (hq:=q_load1 rfl rfl TySz.h (List.Mem.head _) rfl) (h:=?_)
  refine TD.z [1] rfl (q_move rfl rfl) ?_
  refine TD.z [19] rfl (q_indexSl rfl rfl rfl SlEl.h oQ oQ) ?_
  refine TD.y [20] rfl (hq:=q_load1 rfl rfl TySz.h (List.Mem.head _) (ints_at (i:=0) (cut_get hl.pos) rfl)) (h:=?_)
  refine TD.z [18,21] rfl (q_indexSl rfl rfl rfl SlEl.h oQ oQ) ?_
  refine TD.z [22] rfl (q_fieldAddr rfl rfl FldOf.h dQ) ?_
  refine TD.y [23] rfl (hq:=q_load1 rfl rfl TySz.h (List.Mem.head _) (take_fld (c:=0) (sm_at b (i:=(cutN l 0).toNat) q0.2.2 oQ) dQ rfl)) (h:=?_)
  refine TD.z [2] rfl (q_fieldAddr rfl rfl FldOf.h dQ) ?_
  refine TD.z [25] rfl (q_fieldAddr rfl rfl FldOf.h dQ) ?_
  refine TD.y [26] rfl (hq:=q_load1 rfl rfl TySz.h (List.Mem.head _) rfl) (h:=?_)
  refine TD.z [24,27] rfl (q_add rfl rfl rfl oQ) ?_
  refine TD.as (pend':=[]) [28] rfl rfl (q_assign rfl rfl) ?_
  refine TD.fin ?_
  refine au [4,4,5,1,23,1,28,6,3,20] ?_
  refine ⟨fun hc1=>?_,fun hc1=>?_⟩
  ·have hlt:i+1<l.length:=by simp at hc1; omega
   have qn:=hl.lt hlt
   have fn:=hb.sms.fld _ qn.2.2
   refine TK.draw [0,1,2,3,4,5,6,7,8,9,10,11] [0,1,2,3,4,5,6,7,8,9,10,11] (by kernel_rfl) (by kernel_rfl) ?_
   refine TD.z [2] rfl (q_fieldAddr rfl rfl FldOf.h dQ) ?_
   refine TD.z [34] rfl (q_fieldAddr rfl rfl FldOf.h dQ) ?_
   refine TD.y [35] rfl (hq:=q_load1 rfl rfl TySz.h (List.Mem.head _) rfl) (h:=?_)
   refine TD.z [1] rfl (q_move rfl rfl) ?_
   refine TD.z [6] rfl (q_move rfl rfl) ?_
   refine TD.z [38] rfl (q_add rfl rfl rfl oQ) ?_
   refine TD.z [37,39] rfl (q_indexSl rfl rfl rfl SlEl.h oQ oQ) ?_
   refine TD.y [40] rfl (hq:=q_load1 rfl rfl TySz.h (List.Mem.head _) (ints_at (i:=i+1) (cut_get hlt) rfl)) (h:=?_)
   refine TD.z [36,41] rfl (q_indexSl rfl rfl rfl SlEl.h oQ oQ) ?_
   refine TD.z [42] rfl (q_fieldAddr rfl rfl FldOf.h dQ) ?_
   refine TD.y [43] rfl (hq:=q_load1 rfl rfl TySz.h (List.Mem.head _) (take_fld (c:=0) (sm_at b (i:=(cutN l (i+1)).toNat) qn.2.2 oQ) dQ rfl)) (h:=?_)
   refine TD.as (pend':=[]) [44] rfl rfl (q_assign rfl rfl) ?_
   refine TD.fin ?_
   refine au [5,1,1,1,7,7,9,1,36,7] ?_
   refine TK.a rfl (q_load1 rfl rfl TySz.h mQ (take_fld (c:=0) (sm_at b (i:=(cutN l i).toNat) qi.2.2 oQ) dQ rfl)) ?_
   refine au [24,39] ?_
   refine TK.newR rfl rfl rfl (n_buildSlice (l:=[_,_]) rfl SlEl.h TyZ.h dQ dQ rfl) (fun _=>putS rfl (by simp only [List.set]; rfl)) fun j1 hj1=>?_
   refine TK.appR rfl rfl rfl (a_app rfl ApOf.h rfl mQ oQ rfl (src_row (ln:=[_,_]) mQ dQ sQ rfl) oQ rfl (by unfold maxLen; omega) oQ) (fun _=>uQ) (fun _=>putS rfl (by simp only [List.set]; rfl)) fun jr2=>?_
   refine au [2,3,14,5,23,1,3] ?_
   refine TK.maskL [1,2,5,9,10,11] ?_
   refine TK.kp [(jr2,_),(jb,_),(s,_),(j,_)] ?_
   exact hnext _ _ _ oQ ⟨i+1,jr2,rfl,by omega,rfl,by rw [pair_snoc]; simp only [stripM,endM,if_pos hlt]; rfl⟩
  have hlt:¬ i+1<l.length:=by simp at hc1; omega
  refine au [12,5,1,1,1,7,7,9,1,36,7] ?_
  refine TK.a rfl (q_load1 rfl rfl TySz.h mQ (take_fld (c:=0) (sm_at b (i:=(cutN l i).toNat) qi.2.2 oQ) dQ rfl)) ?_
  refine au [24,39] ?_
  refine TK.newR rfl rfl rfl (n_buildSlice (l:=[_,_]) rfl SlEl.h TyZ.h dQ dQ rfl) (fun _=>putS rfl (by simp only [List.set]; rfl)) fun j2 hj2=>?_
  refine TK.appR rfl rfl rfl (a_app rfl ApOf.h rfl mQ oQ rfl (src_row (ln:=[_,_]) mQ dQ sQ rfl) oQ rfl (by unfold maxLen; omega) oQ) (fun _=>uQ) (fun _=>putS rfl (by simp only [List.set]; rfl)) fun jr2=>?_
  refine au [2,3,14,5,23,1,3] ?_
  refine TK.maskL [1,2,5,9,10,11] ?_
  refine TK.kp [(jr2,_),(jb,_),(s,_),(j,_)] ?_
  exact hnext _ _ _ oQ ⟨i+1,jr2,rfl,by omega,rfl,by rw [pair_snoc]; simp only [stripM,endM,if_neg hlt]; rfl⟩
 obtain rfl:i=l.length:=by simp at hc0; omega
 refine au [16,4,5,1,2,3] ?_
 refine TK.rt hret [(jr,_),(s,_),(j,_)] ?_
 exact ⟨jr,rfl,rfl⟩
theorem fits_ok {main:Bool} {T:Goroutine->Hp->Prop} (hT:Shut Tryz.prog main T) {gm:Nat->Option Nat} {b:RBk} {s h e j:Nat} {l:List Int} {et:TypeId} (hb:ROk b) (hl:CutsOk b l) :
  CallK Tryz.prog T gm 95 [.agg (rollC b s h e),.sl j 0 l.length] [(s,seamO b),(j,.cells (l.map intA) et false)] (fun r K'=>r=boolA (fitsM b l)/\K'=[(s,seamO b),(j,.cells (l.map intA) et false)]):=by
 refine callK_in 60 hT Tryz.func95 fun Y hret=>?_
 refine au [] ?_
 have hp0:=hl.pos
 have hs5:=hb.sms.len
 have hst:=hb.rnd.steps
 have hl5:=hl.len
 have q0:=hl.lt hl.pos
 have f0:=hb.sms.fld _ q0.2.2
 refine au [4,5,21] ?_
 intro jb hjb
 refine au [2,3,4,4,5,1,28,7,7,9,6,3,20] ?_
 refine ⟨fun hc0=>?_,fun hc0=>?_⟩
 ·refine au [4,5,2,3] ?_
  refine TK.rt hret [(s,_),(j,_)] ?_
  exact ⟨by rw [show fitsM b l=false by unfold fitsM; rw [show decide ((l.length:Int)<=b.rolls)=false by simp at hc0; simp; omega]; rfl],rfl⟩
 refine au [12,4] ?_
 refine TK.draw [0,1,2,3,4,5,6,7,8] [0,1,2,3,4,5,6,7,8] (by kernel_rfl) (by kernel_rfl) ?_
 refine TD.z [1] rfl (q_move rfl rfl) ?_
 refine TD.z [14] rfl (q_indexSl rfl rfl rfl SlEl.h oQ oQ) ?_
 refine TD.y [15] rfl (hq:=q_load1 rfl rfl TySz.h (List.Mem.head _) (ints_at (i:=0) (cut_get hl.pos) rfl)) (h:=?_)
 refine TD.z [2] rfl (q_fieldAddr rfl rfl FldOf.h dQ) ?_
 refine TD.z [17] rfl (q_fieldAddr rfl rfl FldOf.h dQ) ?_
 refine TD.y [18] rfl (hq:=q_load1 rfl rfl TySz.h (List.Mem.head _) rfl) (h:=?_)
 refine TD.z [16,19] rfl (q_build (l:=[_,_]) rfl TyZ.h BlOf.h rfl) ?_
 refine TD.cnewP (pend':=[⟨6,[16,19],[]⟩,⟨5,[18],[(_,_)]⟩,⟨4,[17],[]⟩,⟨3,[2],[]⟩,⟨2,[15],[(_,_)]⟩,⟨1,[14],[]⟩,⟨0,[1],[]⟩]) [] rfl rfl rfl rfl rfl (n_allocA rfl TyZA.h) (fun _=>putS rfl (by simp only [List.set]; rfl)) sQ fun j5 hj5=>?_
 refine TD.s (pend':=[]) [5,20] rfl rfl (q_store rfl rfl TySz.h rfl rfl mQ rfl) ?_
 refine TD.fin ?_
 refine au [4,4,5,8,1] ?_
 refine TK.cl rfl rfl rfl rfl (strips_ok hT hb hl) ?_
 rintro r1 K2 ⟨jr,rfl,rfl⟩
 refine au [28,1,3,13] ?_
 refine TK.maskL [2,4,5,23,24,25] ?_
 refine TK.loopN (fun n env K=>∃ (i:Nat),n=l.length - i/\i<=l.length/\((List.range i).all fun k => !(cutS b l k).whole&&decide ((stripM b l k).2<=b.roll))=true/\env=[.any,.any,.ptr jb 0,.any,boolA false,.ptr j5 0,.any,.any,.any,.any,.any,.any,.any,.any,.any,.any,.any,.any,.any,.any,.any,.any,.any,.row jr l.length,intA l.length,intA i,.any,.any,.any,.any,.any,.any,.any,.any,.any,.any,.any,.any,.any,.any,.any,.any,.any,.any,.any,.any,.any,.any,.any,.any,.any,.any,.any,.any,.any,.any,.any,.any,.any,.any]/\K=[(jr,.row ((stripsM b l).flatMap pairC) 96 2),(s,seamO b),(j,.cells (l.map intA) et false),(j5,.cells [intA (cutN l 0),intA b.steps] 96 true),(jb,.cells (rollC b s h e) 113 true)]) l.length ⟨0,rfl,Nat.zero_le _,rfl,rfl,rfl⟩ fun n env K hI hnext=>?_
 obtain ⟨i,rfl,hi,hall,rfl,rfl⟩:=hI
 refine au [4,5,6,3,4,20] ?_
 refine ⟨fun hc1=>?_,fun hc1=>?_⟩
 ·have hil:i<l.length:=by simp at hc1; omega
  have qi:=hl.lt hil
  have hsi:(stripM b l i).1=cutN l i:=rfl
  have fi:=hb.sms.fld _ qi.2.2
  refine au [12,4,13,4,5,37] ?_
  refine TK.a rfl (q_load rfl rfl TySz.h mQ (rowf_at (c:=2) (f:=pairC) (fun _=>rfl) (strip_row hil) rfl dQ)) ?_
  refine au [22] ?_
  intro j7 hj7
  refine au [17,3,4,5,7,7,9,7,9,36,7] ?_
  refine TK.a rfl (q_load1 rfl rfl TySz.h mQ (take_fld (c:=4) (sm_at b (i:=(cutN l i).toNat) qi.2.2 oQ) dQ rfl)) ?_
  refine au [1] ?_
  refine TK.sp 37 (fun g7_9=>?_) (fun g7_9=>?_)
  ·refine au [11,11,11,11,11,11,11,11,11,11,11,11,26,1,11,11,11,11,11,11,26,3,18,4,5,2,3] ?_
   refine TK.rt hret [(s,_),(j,_)] ?_
   exact ⟨by rw [fits_f hil (.inl g7_9)],rfl⟩
  have g7_9:(cutS b l i).whole=false:=g7_9
  refine au [8,8] ?_
  refine TK.a rfl (q_eqFlat rfl rfl rfl rfl rfl FlatF.h EqG.h) ?_
  refine au [1] ?_
  refine TK.sp 41 (fun g7_13=>?_) (fun g7_13=>?_)
  ·refine au [7,7,9,7,7,9,6,26,25,1] ?_
   refine TK.sp 51 (fun g7_23=>?_) (fun g7_23=>?_)
   ·refine au [11,11,11,11,11,11,26,3,18,4,5,2,3] ?_
    refine TK.rt hret [(s,_),(j,_)] ?_
    exact ⟨by rw [fits_f hil (.inr (by simp [stripM] at g7_13 g7_23; show b.roll<_; simp only [stripM]; omega))],rfl⟩
   refine au [7,9,7,7,9,6,25,3,20] ?_
   refine ⟨fun hc2=>?_,fun hc2=>?_⟩
   ·refine au [4,5,2,3] ?_
    refine TK.rt hret [(s,_),(j,_)] ?_
    exact ⟨by rw [fits_f hil (.inr (of_decide_eq_true hc2))],rfl⟩
   refine au [12,14,5,23,1,3] ?_
   refine TK.maskL [2,4,5,23,24,25] ?_
   refine TK.kp [(jr,_),(s,_),(j,_),(j5,_),(jb,_)] ?_
   exact hnext _ _ _ oQ ⟨i+1,rfl,by omega,by rw [List.range_succ,List.all_append,hall]; simp [g7_9,show (stripM b l i).2<=b.roll from Int.not_lt.1 (of_decide_eq_false hc2)],rfl,rfl⟩
  refine au [11,11,11,11,11,11,11,25,25,1,7,9,7,7,9,6,25,3,20] ?_
  refine ⟨fun hc2=>?_,fun hc2=>?_⟩
  ·refine au [4,5,2,3] ?_
   refine TK.rt hret [(s,_),(j,_)] ?_
   exact ⟨by rw [fits_f hil (.inr (of_decide_eq_true hc2))],rfl⟩
  refine au [12,14,5,23,1,3] ?_
  refine TK.maskL [2,4,5,23,24,25] ?_
  refine TK.kp [(jr,_),(s,_),(j,_),(j5,_),(jb,_)] ?_
  exact hnext _ _ _ oQ ⟨i+1,rfl,by omega,by rw [List.range_succ,List.all_append,hall]; simp [g7_9,show (stripM b l i).2<=b.roll from Int.not_lt.1 (of_decide_eq_false hc2)],rfl,rfl⟩
 obtain rfl:i=l.length:=by simp at hc1; omega
 refine au [16,4,5,2,3] ?_
 refine TK.rt hret [(s,_),(j,_)] ?_
 exact ⟨by rw [show fitsM b l=true by unfold fitsM; rw [hall,show decide ((l.length:Int)<=b.rolls)=true by simp at hc0; simp; omega]; rfl],rfl⟩
theorem wrap_u64n {n:Nat} (h:n<256):IntKind.u64.wrap (n:Int)=n:=by
 have:∀ n:Nat,n<256->IntKind.u64.wrap (n:Int)=n:=by decide +kernel
 exact this n h
theorem wrap_u8n {n:Nat} (h:n<256):IntKind.u8.wrap (n:Int)=n:=by
 have:∀ n:Nat,n<256->IntKind.u8.wrap (n:Int)=n:=by decide +kernel
 exact this n h
theorem ba_get {s:ByteArray} {n:Nat} (hn:n<256) (h:s.size=256):s[n]? =some (s[n]'oQ):=getElem?_pos s n oQ
theorem wrap_byte (c:UInt8):IntKind.i64.wrap (c.toNat:Int)=c.toNat:=wrap_i64 (by have:=c.toNat_lt; omega)
theorem byte_add (c:UInt8) : -9223372036854775808<=0+(c.toNat:Int)/\0+(c.toNat:Int)<9223372036854775808:=by have:=c.toNat_lt; omega
theorem sort_one {lt:Int->Int->Bool} {xs:List Int} (h:1<=xs.length):sortN lt xs 1++xs.drop 1=xs:=by
 cases xs with
 | nil=>simp at h
 | cons x r=>rfl
instance:Cal Tryz.prog 161:=⟨by kernel_rfl⟩
instance:Cal Tryz.prog 163:=⟨by kernel_rfl⟩
instance:Cal Tryz.prog 198:=⟨by kernel_rfl⟩
instance:Cal Tryz.prog 199:=⟨by kernel_rfl⟩
instance:TySz Tryz.prog 117 false 1:=⟨by kernel_rfl⟩
instance:Und Tryz.prog 211 (.int .u64):=⟨by kernel_rfl⟩
instance:Und Tryz.prog 5 (.int .u8):=⟨by kernel_rfl⟩
instance:Und Tryz.prog 9 .string:=⟨by kernel_rfl⟩
theorem len64_ok {main:Bool} {T:Goroutine->Hp->Prop} (hT:Shut Tryz.prog main T) {gm:Nat->Option Nat} {n:Nat} (hn:n<256) :
  CallK Tryz.prog T gm 198 [.v (.int .u64 n)] [] (fun r K'=>∃ m:Int,r=intA m/\K'=[]):=by
 refine callK_in 25 hT Tryz.func198 fun Y hret=>?_
 refine au [4,5,2,3,4,4,5,1,6,3,20] ?_
 refine ⟨fun hc0=>?_,fun hc0=>?_⟩
 ·simp at hc0; omega
 refine au [12,4,4,5,1,6,3,20] ?_
 refine ⟨fun hc1=>?_,fun hc1=>?_⟩
 ·simp at hc1; omega
 refine au [12,4,4,5,1,6,3,20] ?_
 refine ⟨fun hc2=>?_,fun hc2=>?_⟩
 ·simp at hc2; omega
 refine au [12,4,5,1,1] ?_
 refine TK.a rfl (q_convInt rfl rfl Und.h Und.h (wrap_u8n hn)) ?_
 refine TK.a rfl (q_indexStr rfl rfl rfl Und.h oQ (ba_get hn rfl)) ?_
 refine TK.a rfl (q_convInt rfl rfl Und.h Und.h (wrap_byte _)) ?_
 refine TK.a rfl (q_add rfl rfl rfl (byte_add _)) ?_
 refine au [2,3] ?_
 refine TK.rta hret ?_
 exact ⟨_,rfl,rfl⟩
theorem bitsLen_ok {main:Bool} {T:Goroutine->Hp->Prop} (hT:Shut Tryz.prog main T) {gm:Nat->Option Nat} {n:Nat} (hn:n<256) :
  CallK Tryz.prog T gm 161 [.v (.int .u64 n)] [] (fun r K'=>∃ m:Int,r=intA m/\K'=[]):=by
 refine callK_in 8 hT Tryz.func161 fun Y hret=>?_
 refine au [4,5,2,3,4,19,12,4,5,1] ?_
 refine TK.cl rfl rfl rfl rfl (len64_ok hT hn) ?_
 rintro r1 K2 ⟨m,rfl,rfl⟩
 refine au [2,3] ?_
 refine TK.rta hret ?_
 exact ⟨_,rfl,rfl⟩
theorem insSort_ok {main:Bool} {T:Goroutine->Hp->Prop} (hT:Shut Tryz.prog main T) {gm:Nat->Option Nat} {j n:Nat} {xs:List Int} {et:TypeId} {f:AV} {Kc:KV} {lt:Int->Int->Bool} (hn:xs.length=n) (h12:1<=n/\n<=12) (hg:∀ x∈xs,∀ y∈xs,CallFK Tryz.prog T gm f [intA x,intA y] Kc (fun r K'=>(∃ c:Int,r=intA c/\decide (c<0)=lt x y)/\K'=Kc)) :
  CallK Tryz.prog T gm 199 [.sl j 0 n,intA 0,intA n,f] ((j,.cells (xs.map intA) et true)::Kc) (fun r K'=>K'=(j,.cells ((sortR lt xs).map intA) et true)::Kc):=by
 refine callK_in 53 hT Tryz.func199 fun Y hret=>?_
 refine au [4,5,1,23,2,3,13] ?_
 refine TK.maskL [0,1,2,3,8] ?_
 refine TK.loopN (fun n1 env K=>∃ (i:Nat),n1=n - i/\1<=i/\i<=n/\env=[.sl j 0 n,intA 0,intA n,f,.any,.any,.any,.any,intA i,.any,.any,.any,.any,.any,.any,.any,.any,.any,.any,.any,.any,.any,.any,.any,.any,.any,.any,.any,.any,.any,.any,.any,.any,.any,.any,.any,.any,.any,.any,.any,.any,.any,.any,.any,.any,.any,.any,.any,.any,.any,.any,.any,.any]/\K=(j,.cells ((sortN lt xs i++xs.drop i).map intA) et true)::Kc) (n - 1) ⟨1,rfl,Nat.le_refl _,h12.1,rfl,by rw [sort_one oQ]⟩ fun n1 env K hI hnext=>?_
 obtain ⟨i,rfl,hi1,hi,rfl,rfl⟩:=hI
 refine au [4,4,5,1,1,6,3,20] ?_
 refine ⟨fun hc0=>?_,fun hc0=>?_⟩
 ·have hil:i<n:=by simp at hc0; omega
  obtain ⟨x,hx⟩:∃ x,xs[i]? =some x:=⟨_,List.getElem?_eq_getElem oQ⟩
  have hSl:=sortN_len (lt:=lt) xs i oQ
  have hTl:(xs.drop (i+1)).length=n - (i+1):=by simp; omega
  have hxm:=List.mem_of_getElem? hx
  refine au [12,4,13,4,5,1,2,3,13] ?_
  refine TK.maskL [0,1,2,3,8,9] ?_
  refine TK.loopN (fun n1 env K=>∃ (p:Nat),n1=p/\p<=i/\insJ lt x (sortN lt xs i) p=insJ lt x (sortN lt xs i) (sortN lt xs i).length/\env=[.sl j 0 n,intA 0,intA n,f,.any,.any,.any,.any,intA i,intA p,.any,.any,.any,.any,.any,.any,.any,.any,.any,.any,.any,.any,.any,.any,.any,.any,.any,.any,.any,.any,.any,.any,.any,.any,.any,.any,.any,.any,.any,.any,.any,.any,.any,.any,.any,.any,.any,.any,.any,.any,.any,.any,.any]/\K=(j,.cells ((dataM (sortN lt xs i) (xs.drop (i+1)) x p).map intA) et true)::Kc) i ⟨i,rfl,Nat.le_refl _,by rw [hSl],rfl,by have:=data_top (sortN lt xs i) (xs.drop (i+1)) x; rw [hSl] at this; rw [this,<- drop_cons hx]⟩ fun n1 env K hI hnext1=>?_
  obtain ⟨p,hnp,hp,hins,rfl,rfl⟩:=hI
  subst n1
  have hdl:=data_len (S:=sortN lt xs i) (T:=xs.drop (i+1)) (x:=x) (j:=p)
  refine au [4,4] ?_
  refine TK.draw [0,1,2,3,4,5,6,7,8,9,10,11,12,13,14,15,16] [0,1,2,3,4,5,6,7,8,9,10,11,12,13,14,15,16] (by kernel_rfl) (by kernel_rfl) ?_
  refine TD.z [9] rfl (q_move rfl rfl) ?_
  refine TD.z [1] rfl (q_move rfl rfl) ?_
  refine TD.z [18,19] rfl (q_cmp rfl rfl rfl rfl) ?_
  refine TD.z [20] rfl (q_move rfl rfl) ?_
  refine TD.sp 21 (fun g4_4=>?_) (fun g4_4=>?_)
  ·have hp0:0<p:=by simp at g4_4; omega
   obtain ⟨q,rfl⟩:∃ q,p=q+1:=⟨p - 1,by omega⟩
   obtain ⟨y,hy⟩:∃ y,(sortN lt xs i)[q]? =some y:=⟨_,List.getElem?_eq_getElem oQ⟩
   have hym:=sortN_mem i oQ y (List.mem_of_getElem? hy)
   refine TD.z [3,21] rfl (q_move rfl rfl) ?_
   refine TD.z [0,21] rfl (q_move rfl rfl) ?_
   refine TD.z [9,21] rfl (q_move rfl rfl) ?_
   refine TD.z [21,23,24] rfl (q_indexSl rfl rfl rfl SlEl.h oQ oQ) ?_
   refine TD.y [21,25] rfl (hq:=q_load1 rfl rfl TySz.h (List.Mem.head _) (ints_at (i:=q+1) (data_at oQ) rfl)) (h:=?_)
   refine TD.z [0,21] rfl (q_move rfl rfl) ?_
   refine TD.z [9,21] rfl (q_move rfl rfl) ?_
   refine TD.z [21,28] rfl (q_sub rfl rfl rfl oQ) ?_
   refine TD.z [21,27,29] rfl (q_indexSl rfl rfl rfl SlEl.h oQ oQ) ?_
   refine TD.y [21,30] rfl (hq:=q_load1 rfl rfl TySz.h (List.Mem.head _) (ints_at (i:=q) ((data_prev oQ).trans hy) oQ)) (h:=?_)
   refine TD.callF' (pend':=[⟨12,[21,27,29],[]⟩,⟨11,[21,28],[]⟩,⟨10,[9,21],[]⟩,⟨9,[0,21],[]⟩,⟨7,[21,23,24],[]⟩,⟨6,[9,21],[]⟩,⟨5,[0,21],[]⟩,⟨2,[18,19],[]⟩,⟨1,[1],[]⟩,⟨0,[9],[]⟩]) [21,22,26,31] rfl rfl rfl rfl rfl rfl rfl (hg x hxm y hym) (.right (.all _)) fun r1 K2 h3=>⟨?_,?_⟩
   ·rcases h3 with ⟨⟨c,rfl,hlc⟩,hK⟩
    all_goals (rw [hK]; simp)
   obtain ⟨⟨c,rfl,hlc⟩,hK⟩:=h3
   try simp only [List.cons_append,List.nil_append]
   refine TD.norm (putS rfl (by simp only [List.set]; rfl)) ?_
   rw [hK]
   refine TD.perm (K':=(j,_)::Kc) (List.perm_append_singleton _ _) ?_
   refine TD.z [21,32] rfl (q_cmp rfl rfl rfl rfl) ?_
   refine TD.z [21,33] rfl (q_pickT rfl rfl rfl) ?_
   refine TD.fin ?_
   refine au [20] ?_
   refine ⟨fun hc1=>?_,fun hc1=>?_⟩
   ·have hlt:lt x y=true:=by rw [<- hlc]; exact hc1
    have hsw:=data_swap (T:=xs.drop (i+1)) (x:=x) hy
    refine au [12,4,13] ?_
    refine TK.draw [0,1,2,3,4,5,6,7,8,9,10,11,12,13,14,15,16,17] [0,1,5,6,7,8,9,10,11,12,13,14,15,2,3,4,16,17] (by kernel_rfl) (by kernel_rfl) ?_
    refine TD.z [0] rfl (q_move rfl rfl) ?_
    refine TD.z [9] rfl (q_move rfl rfl) ?_
    refine TD.z [0] rfl (q_move rfl rfl) ?_
    refine TD.z [9] rfl (q_move rfl rfl) ?_
    refine TD.z [40] rfl (q_sub rfl rfl rfl oQ) ?_
    refine TD.z [0] rfl (q_move rfl rfl) ?_
    refine TD.z [9] rfl (q_move rfl rfl) ?_
    refine TD.z [43] rfl (q_sub rfl rfl rfl oQ) ?_
    refine TD.z [42,44] rfl (q_indexSl rfl rfl rfl SlEl.h oQ oQ) ?_
    refine TD.y [45] rfl (hq:=q_load1 rfl rfl TySz.h (List.Mem.head _) (ints_at (i:=q) ((data_prev oQ).trans hy) oQ)) (h:=?_)
    refine TD.z [0] rfl (q_move rfl rfl) ?_
    refine TD.z [9] rfl (q_move rfl rfl) ?_
    refine TD.z [47,48] rfl (q_indexSl rfl rfl rfl SlEl.h oQ oQ) ?_
    refine TD.y [49] rfl (hq:=q_load1 rfl rfl TySz.h (List.Mem.head _) (ints_at (i:=q+1) (data_at oQ) rfl)) (h:=?_)
    refine TD.z [37,38] rfl (q_indexSl rfl rfl rfl SlEl.h oQ oQ) ?_
    refine TD.s (pend':=[⟨12,[47,48],[]⟩,⟨11,[9],[]⟩,⟨10,[0],[]⟩,⟨4,[40],[]⟩,⟨3,[9],[]⟩,⟨2,[0],[]⟩]) [46,51] rfl rfl (q_store rfl rfl TySz.h rfl rfl mQ (put_int (k:=q+1) oQ rfl)) ?_
    refine TD.z [39,41] rfl (q_indexSl rfl rfl rfl SlEl.h oQ oQ) ?_
    refine TD.s (pend':=[]) [50,52] rfl rfl (q_store rfl rfl TySz.h rfl rfl mQ (put_int (k:=q) (by rw [List.length_set]; omega) oQ)) ?_
    refine TD.fin ?_
    refine au [14,5,1,24,2,3] ?_
    refine TK.maskL [0,1,2,3,8,9] ?_
    refine TK.kp (((j,_)::Kc)) ?_
    exact hnext1 _ _ _ oQ ⟨q,rfl,by omega,by rw [<- hins,insJ_go hy hlt],by rw [show ((q+1:Nat):Int) - 1=(q:Int) by omega]; rfl,by rw [hsw]⟩
   have hstop:=insJ_stop (lt:=lt) (x:=x) (S:=sortN lt xs i) (T:=xs.drop (i+1)) (j:=q+1) oQ (fun i1 y1 h1 h2=>by obtain rfl:q=i1:=oQ; rw [hy] at h2; cases h2; rw [<- hlc]; exact hc1)
   rw [hins] at hstop
   refine au [16,14,5,1,23,2,3] ?_
   refine TK.maskL [0,1,2,3,8] ?_
   refine TK.kp (((j,_)::Kc)) ?_
   exact hnext _ _ _ oQ ⟨i+1,rfl,by omega,by omega,rfl,by rw [sortN_succ hx,<- hstop]⟩
  obtain rfl:p=0:=by simp at g4_4; omega
  have hstop:=insJ_stop (lt:=lt) (x:=x) (S:=sortN lt xs i) (T:=xs.drop (i+1)) (j:=0) (Nat.zero_le _) (fun i y h=>by omega)
  rw [hins] at hstop
  refine TD.u [3,21] rfl ?_
  refine TD.u [0,21] rfl ?_
  refine TD.u [9,21] rfl ?_
  refine TD.u [21,23,24] rfl ?_
  refine TD.u [21,25] rfl ?_
  refine TD.u [0,21] rfl ?_
  refine TD.u [9,21] rfl ?_
  refine TD.u [21,28] rfl ?_
  refine TD.u [21,27,29] rfl ?_
  refine TD.u [21,30] rfl ?_
  refine TD.u [21,22,26,31] rfl ?_
  refine TD.u [21,32] rfl ?_
  refine TD.z [21,33] rfl (q_pickF rfl rfl rfl) ?_
  refine TD.fin ?_
  refine au [19,16,14,5,1,23,2,3] ?_
  refine TK.maskL [0,1,2,3,8] ?_
  refine TK.kp (((j,_)::Kc)) ?_
  exact hnext _ _ _ oQ ⟨i+1,rfl,by omega,by omega,rfl,by rw [sortN_succ hx,<- hstop]⟩
 obtain rfl:i=n:=by simp at hc0; omega
 have hfin:(j,AObj.cells ((sortN lt xs i++xs.drop i).map intA) et true)::Kc=(j,.cells ((sortN lt xs xs.length).map intA) et true)::Kc:=by rw [hn,List.drop_eq_nil_of_le oQ,List.append_nil]
 refine au [16] ?_
 refine TK.rt0 hret (((j,_)::Kc)) ?_
 rw [show sortR lt xs=sortN lt xs xs.length from rfl]
 exact hfin
theorem pdq_ok {main:Bool} {T:Goroutine->Hp->Prop} (hT:Shut Tryz.prog main T) {gm:Nat->Option Nat} {lim:Int} {j n:Nat} {xs:List Int} {et:TypeId} {f:AV} {Kc:KV} {lt:Int->Int->Bool} (hn:xs.length=n) (h12:1<=n/\n<=12) (hg:∀ x∈xs,∀ y∈xs,CallFK Tryz.prog T gm f [intA x,intA y] Kc (fun r K'=>(∃ c:Int,r=intA c/\decide (c<0)=lt x y)/\K'=Kc)) :
  CallK Tryz.prog T gm 163 [.sl j 0 n,intA 0,intA n,intA lim,f] ((j,.cells (xs.map intA) et true)::Kc) (fun r K'=>K'=(j,.cells ((sortR lt xs).map intA) et true)::Kc):=by
 refine callK_in 148 hT Tryz.func163 fun Y hret=>?_
 refine au [4,5,2,3,4,5,2,3,13] ?_
 refine TK.loop ?_
 refine au [13,4,5,1,1,24,2,3,4,4,5,1,6,3,20] ?_
 refine ⟨fun hc0=>?_,fun hc0=>?_⟩
 ·refine au [4,5,1,1,1,1] ?_
  refine TK.cl rfl rfl rfl rfl (insSort_ok hT hn h12 hg) ?_ (hs:=(.all _))
  rintro r1 K2 rfl
  refine au [] ?_
  refine TK.perm (K':=(j,_)::Kc) (by rw [List.append_nil]) ?_
  refine au [3] ?_
  refine TK.rt hret (((j,_)::Kc)) ?_
  exact rfl
 simp at hc0; omega
theorem sortFunc_ok {main:Bool} {T:Goroutine->Hp->Prop} (hT:Shut Tryz.prog main T) {gm:Nat->Option Nat} {j n:Nat} {xs:List Int} {et:TypeId} {f:AV} {Kc:KV} {lt:Int->Int->Bool} (hn:xs.length=n) (h12:1<=n/\n<=12) (hg:∀ x∈xs,∀ y∈xs,CallFK Tryz.prog T gm f [intA x,intA y] Kc (fun r K'=>(∃ c:Int,r=intA c/\decide (c<0)=lt x y)/\K'=Kc)) :
  CallK Tryz.prog T gm 145 [.sl j 0 n,f] ((j,.cells (xs.map intA) et true)::Kc) (fun r K'=>K'=(j,.cells ((sortR lt xs).map intA) et true)::Kc):=by
 refine callK_in 14 hT Tryz.func145 fun Y hret=>?_
 refine au [4,5,1,28,2,3,5,1,1,1] ?_
 refine TK.a rfl (q_convInt rfl rfl Und.h Und.h (wrap_u64n (n:=n) oQ)) ?_
 refine TK.cl rfl rfl rfl rfl (bitsLen_ok hT (n:=n) oQ) ?_ (hs:=(.none _))
 rintro r1 K2 ⟨m,rfl,rfl⟩
 refine au [1] ?_
 refine TK.cl rfl rfl rfl rfl (pdq_ok hT hn h12 hg) ?_ (hs:=(.all _))
 rintro r4 K5 rfl
 refine au [] ?_
 refine TK.perm (K':=(j,_)::Kc) (by rw [List.append_nil]) ?_
 refine au [3] ?_
 refine TK.rt0 hret (((j,_)::Kc)) ?_
 exact rfl
theorem cmp_ok {main:Bool} {T:Goroutine->Hp->Prop} (hT:Shut Tryz.prog main T) {gm:Nat->Option Nat} {b:RBk} {s h e j jb jl:Nat} {l:List Int} {et:TypeId} {x y:Int} (hb:ROk b) (hl:CutsOk b l) (hx:0<=x/\x<l.length) (hy:0<=y/\y<l.length) :
  CallK Tryz.prog T gm 146 [intA x,intA y,.ptr jb 0,.ptr jl 0] [(jb,.cells (rollC b s h e) 113 true),(jl,.cells [.sl j 0 l.length] 117 true),(s,seamO b),(j,.cells (l.map intA) et false)] (fun r K'=>(∃ c:Int,r=intA c/\decide (c<0)=busyLt b l x y)/\K'=[(jb,.cells (rollC b s h e) 113 true),(jl,.cells [.sl j 0 l.length] 117 true),(s,seamO b),(j,.cells (l.map intA) et false)]):=by
 refine callK_in 38 hT Tryz.func146 fun Y hret=>?_
 refine au [] ?_
 have hs5:=hb.sms.len
 have hl5:=hl.len
 obtain ⟨p,rfl⟩:∃ p:Nat,x=p:=⟨x.toNat,by omega⟩
 obtain ⟨q,rfl⟩:∃ q:Nat,y=q:=⟨y.toNat,by omega⟩
 have hp:p<l.length:=by omega
 have hq:q<l.length:=by omega
 have qp:=hl.lt hp
 have fp:=hb.sms.fld _ qp.2.2
 have qq:=hl.lt hq
 have fq:=hb.sms.fld _ qq.2.2
 refine au [4,5,2,3,4,4] ?_
 refine TK.draw [0,1,2,3,4,5,6,7,8,9,10,11,12,13,14,15,16,17,18,19,20,21] [0,1,2,3,4,5,6,7,8,9,20,10,11,12,13,14,15,16,17,18,19,21] (by kernel_rfl) (by kernel_rfl) ?_
 refine TD.z [2] rfl (q_fieldAddr rfl rfl FldOf.h dQ) ?_
 refine TD.z [9] rfl (q_fieldAddr rfl rfl FldOf.h dQ) ?_
 refine TD.y [10] rfl (hq:=q_load1 rfl rfl TySz.h (List.Mem.head _) rfl) (h:=?_)
 refine TD.y [3] rfl (hq:=q_load1 rfl rfl TySz.h (List.Mem.head _) rfl) (h:=?_)
 refine TD.z [0] rfl (q_move rfl rfl) ?_
 refine TD.z [12,13] rfl (q_indexSl rfl rfl rfl SlEl.h oQ oQ) ?_
 refine TD.y [14] rfl (hq:=q_load1 rfl rfl TySz.h (List.Mem.head _) (ints_at (i:=p) (cut_get hp) rfl)) (h:=?_)
 refine TD.z [11,15] rfl (q_indexSl rfl rfl rfl SlEl.h oQ oQ) ?_
 refine TD.z [16] rfl (q_fieldAddr rfl rfl FldOf.h dQ) ?_
 refine TD.y [17] rfl (hq:=q_load1 rfl rfl TySz.h (List.Mem.head _) (take_fld (c:=2) (sm_at b (i:=(cutN l p).toNat) qp.2.2 oQ) dQ rfl)) (h:=?_)
 refine TD.z [2] rfl (q_fieldAddr rfl rfl FldOf.h dQ) ?_
 refine TD.z [19] rfl (q_fieldAddr rfl rfl FldOf.h dQ) ?_
 refine TD.y [20] rfl (hq:=q_load1 rfl rfl TySz.h (List.Mem.head _) rfl) (h:=?_)
 refine TD.y [3] rfl (hq:=q_load1 rfl rfl TySz.h (List.Mem.head _) rfl) (h:=?_)
 refine TD.z [1] rfl (q_move rfl rfl) ?_
 refine TD.z [22,23] rfl (q_indexSl rfl rfl rfl SlEl.h oQ oQ) ?_
 refine TD.y [24] rfl (hq:=q_load1 rfl rfl TySz.h (List.Mem.head _) (ints_at (i:=q) (cut_get hq) rfl)) (h:=?_)
 refine TD.z [21,25] rfl (q_indexSl rfl rfl rfl SlEl.h oQ oQ) ?_
 refine TD.z [26] rfl (q_fieldAddr rfl rfl FldOf.h dQ) ?_
 refine TD.y [27] rfl (hq:=q_load1 rfl rfl TySz.h (List.Mem.head _) (take_fld (c:=2) (sm_at b (i:=(cutN l q).toNat) qq.2.2 oQ) dQ rfl)) (h:=?_)
 refine TD.as (pend':=[⟨19,[27],[(_,_)]⟩,⟨18,[26],[]⟩,⟨17,[21,25],[]⟩,⟨16,[24],[(_,_)]⟩,⟨15,[22,23],[]⟩,⟨14,[1],[]⟩,⟨13,[3],[(_,_)]⟩,⟨12,[20],[(_,_)]⟩,⟨11,[19],[]⟩,⟨10,[2],[]⟩]) [18] rfl rfl (q_assign rfl rfl) ?_
 refine TD.as (pend':=[]) [28] rfl rfl (q_assign rfl rfl) ?_
 refine TD.fin ?_
 refine au [4,5,1,1,6,3,20] ?_
 refine ⟨fun hc0=>?_,fun hc0=>?_⟩
 ·refine au [4,5,1,1,24,2,3] ?_
  refine TK.rt hret [(jb,_),(jl,_),(s,_),(j,_)] ?_
  exact ⟨⟨_,rfl,by simp at hc0; unfold busyLt; rw [Int.toNat_natCast,Int.toNat_natCast]; unfold cutS; rw [decide_eq_false hc0,Bool.false_and,Bool.or_false]; exact decide_eq_decide.2 oQ⟩,rfl⟩
 refine au [12,4,5,1,1,24,2,3] ?_
 refine TK.rt hret [(jb,_),(jl,_),(s,_),(j,_)] ?_
 exact ⟨⟨_,rfl,by simp at hc0; simp only [busyLt,cutS,Int.toNat_natCast,hc0,Int.lt_irrefl,decide_false,decide_true,Bool.true_and,Bool.false_or]; exact decide_eq_decide.2 oQ⟩,rfl⟩
def HangR (o:Option (List Int×Int)) (K:KV) (r:AV) (K':KV):Prop:=match o with
 | none=>r=.tup [.agg [.v (.slice none 0 0),intA 0],boolA false]/\K'=K
 | some (w,q)=>∃ jw,r=.tup [.agg [.sl jw 0 w.length,intA q],boolA true]/\K'=(jw,.cells (w.map intA) 3 false)::K
theorem alloc_len {b:RBk} {l:List Int}:∀ (o:List Int) (z:Alloc),(o.foldl (allocM b l) z).steps.length=z.steps.length
 | [],_=>rfl
 | k::o,z=>by rw [List.foldl_cons,alloc_len o]; simp [allocM]
theorem mul_bd {x y:Int} (hx:0<=x/\x<=65) (hy:0<=y/\y<=9):0<=x*y/\x*y<=585:=by
 refine ⟨Int.mul_nonneg hx.1 hy.1,?_⟩
 have h1:x*y<=65*y:=Int.mul_le_mul_of_nonneg_right hx.2 hy.1
 omega
section
variable {P:Program} {gm:Nat->Option Nat} {V:KV} {env:List AV} {o:Oper}
theorem q_minI {x y:Operand} {t u:TypeId} {k k':IntKind} {m n:Int} (ho:o.op=.call { callee:=.builtin .min,args:=#[x,y],argTypes:=#[t,u] }) (hx:opndO gm env x=some (.v (.int k m))) (hy:opndO gm env y=some (.v (.int k' n))):Qk P gm env V o (.v (.int k (min m n))):=by
 rw [show min m n=if n<m then n else m by split <;> omega]
 exact q_min ho hx hy
theorem q_maxI {x y:Operand} {t u:TypeId} {k k':IntKind} {m n:Int} (ho:o.op=.call { callee:=.builtin .max,args:=#[x,y],argTypes:=#[t,u] }) (hx:opndO gm env x=some (.v (.int k m))) (hy:opndO gm env y=some (.v (.int k' n))):Qk P gm env V o (.v (.int k (max m n))):=by
 rw [show max m n=if m<n then n else m by split <;> omega]
 exact q_max ho hx hy
end
instance:BlOf Tryz.prog 125 [(0,1),(1,1)]:=⟨by kernel_rfl⟩
instance:Cal Tryz.prog 133:=⟨by kernel_rfl⟩
instance:Cal Tryz.prog 145:=⟨by kernel_rfl⟩
instance:Cal Tryz.prog 146:=⟨by kernel_rfl⟩
instance:Cal Tryz.prog 95:=⟨by kernel_rfl⟩
instance:FldOf Tryz.prog 125 0 0 false 1:=⟨by kernel_rfl⟩
instance:FldOf Tryz.prog 125 1 1 false 1:=⟨by kernel_rfl⟩
instance:TySz Tryz.prog 125 true 2:=⟨by kernel_rfl⟩
instance:TyZ Tryz.prog 125 [.slice none 0 0,.int .i64 0]:=⟨by kernel_rfl⟩
instance:TyZA Tryz.prog 125 [.v (.slice none 0 0),.v (.int .i64 0)]:=⟨by kernel_rfl⟩
theorem hang_ok {main:Bool} {T:Goroutine->Hp->Prop} (hT:Shut Tryz.prog main T) {gm:Nat->Option Nat} {b:RBk} {s h e j:Nat} {l:List Int} {et:TypeId} (hb:ROk b) (hl:CutsOk b l) {st:List Int} (hs:StOk b st) :
  CallK Tryz.prog T gm 100 [.agg (rollC b s h e),.sl j 0 l.length,.agg (stC st)] [(s,seamO b),(j,.cells (l.map intA) et false)] (fun r K'=>HangR (hangM b l st) [(s,seamO b),(j,.cells (l.map intA) et false)] r K'):=by
 refine callK_in 110 hT Tryz.func100 fun Y hret=>?_
 refine au [] ?_
 have hp0:=hl.pos
 have hs5:=hb.sms.len
 have hst:=hb.rnd.steps
 have hl5:=hl.len
 have q0:=hl.lt hl.pos
 have f0:=hb.sms.fld _ q0.2.2
 have hfr:=fresh_bd hb hs
 refine au [4,5,21] ?_
 intro jb hjb
 refine au [21] ?_
 intro jl hjl
 refine au [21] ?_
 intro js hjs
 refine au [22] ?_
 intro jr hjr
 refine au [2,3,4,4,5,8,9] ?_
 refine TK.cl rfl rfl rfl rfl (fits_ok hT hb hl) ?_
 rintro r1 K2 ⟨rfl,rfl⟩
 refine au [30,3,20] ?_
 refine ⟨fun hc0=>?_,fun hc0=>?_⟩
 ·refine au [4,5,39,17,2,3] ?_
  refine TK.rt hret [(s,_),(j,_)] ?_
  rw [show hangM b l st=none by unfold hangM; rw [if_pos (by simpa using hc0)]]
  exact ⟨rfl,rfl⟩
 have hfit:fitsM b l=true:=by simpa using hc0
 refine au [12,4,5,9,28] ?_
 refine TK.newS rfl rfl rfl (n_makeI rfl rfl rfl ApOf.h TyZ.h hp0 oQ) (fun _=>putS rfl (by simp only [List.set]; rfl)) fun jw hjw=>?_
 refine au [39,22] ?_
 intro j8 hj8
 refine au [17,3,4,4,5,9,28,1,3,13] ?_
 refine TK.maskL [3,4,5,6,7,8,26,27,28] ?_
 refine TK.kp [(s,_),(j,_),(jb,_),(jl,_),(js,_),(jr,_),(jw,_),(j8,_)] ?_
 refine TK.loopN (fun n env K=>∃ (i:Nat),n=l.length - i/\i<=l.length/\env=[.any,.any,.any,.ptr jb 0,.ptr jl 0,.ptr js 0,.ptr jr 0,boolA false,.ptr j8 0,.any,.any,.any,.any,.any,.any,.any,.any,.any,.any,.any,.any,.any,.any,.any,.any,.any,.sl j 0 l.length,intA l.length,intA i,.any,.any,.any,.any,.any,.any,.any,.any,.any,.any,.any,.any,.any,.any,.any,.any,.any,.any,.any,.any,.any,.any,.any,.any,.any,.any,.any,.any,.any,.any,.any,.any,.any,.any,.any,.any,.any,.any,.any,.any,.any,.any,.any,.any,.any,.any,.any,.any,.any,.any,.any,.any,.any,.any,.any,.any,.any,.any,.any,.any,.any,.any,.any,.any,.any,.any,.any,.any,.any,.any,.any,.any,.any,.any,.any,.any,.any,.any,.any,.any,.any]/\K=[(s,seamO b),(j,.cells (l.map intA) et false),(jb,.cells (rollC b s h e) 113 true),(jl,.cells [.sl j 0 l.length] 117 true),(js,.cells (stC st) 129 true),(jr,.cells [.v (.slice none 0 0),intA 0] 125 true),(jw,.cells ((List.replicate l.length (0:Int)).map intA) 3 true),(j8,.cells [.sl jw 0 l.length,intA (spoilM b l i)] 125 true)]) l.length ⟨0,rfl,Nat.zero_le _,rfl,rfl⟩ fun n env K hI hnext=>?_
 obtain ⟨i,rfl,hi,rfl,rfl⟩:=hI
 have hsp:=spoil_bd hb hl i hi
 refine au [4,5,6,3,4,20] ?_
 refine ⟨fun hc1=>?_,fun hc1=>?_⟩
 ·have hil:i<l.length:=by simp at hc1; omega
  have qi:=hl.lt hil
  have fi:=hb.sms.fld _ qi.2.2
  refine au [12,4,13,4,5,36] ?_
  refine TK.a rfl (q_load1 rfl rfl TySz.h mQ (ints_at (i:=i) (cut_get hil) rfl)) ?_
  refine au [2,3] ?_
  refine TK.draw [0,1,2,3,4,5,6,7,8,9,10,11] [0,1,2,3,4,5,6,7,8,9,10,11] (by kernel_rfl) (by kernel_rfl) ?_
  refine TD.z [8] rfl (q_fieldAddr rfl rfl FldOf.h dQ) ?_
  refine TD.y [32] rfl (hq:=q_load1 rfl rfl TySz.h (List.Mem.head _) rfl) (h:=?_)
  refine TD.z [3] rfl (q_fieldAddr rfl rfl FldOf.h dQ) ?_
  refine TD.z [34] rfl (q_fieldAddr rfl rfl FldOf.h dQ) ?_
  refine TD.y [35] rfl (hq:=q_load1 rfl rfl TySz.h (List.Mem.head _) rfl) (h:=?_)
  refine TD.z [10] rfl (q_move rfl rfl) ?_
  refine TD.z [36,37] rfl (q_indexSl rfl rfl rfl SlEl.h oQ oQ) ?_
  refine TD.z [38] rfl (q_fieldAddr rfl rfl FldOf.h dQ) ?_
  refine TD.y [39] rfl (hq:=q_load1 rfl rfl TySz.h (List.Mem.head _) (take_fld (c:=3) (sm_at b (i:=(cutN l i).toNat) qi.2.2 oQ) dQ rfl)) (h:=?_)
  refine TD.z [33,40] rfl (q_add rfl rfl rfl oQ) ?_
  refine TD.z [8] rfl (q_fieldAddr rfl rfl FldOf.h dQ) ?_
  refine TD.s (pend':=[]) [41,42] rfl rfl (q_store rfl rfl TySz.h rfl rfl mQ rfl) ?_
  refine TD.fin ?_
  refine au [14,5,23,1,3] ?_
  refine TK.maskL [3,4,5,6,7,8,26,27,28] ?_
  refine TK.kp [(s,_),(j,_),(jb,_),(jl,_),(js,_),(jr,_),(jw,_),(j8,_)] ?_
  exact hnext _ _ _ oQ ⟨i+1,rfl,by omega,rfl,rfl⟩
 obtain rfl:i=l.length:=by simp at hc1; omega
 refine au [16,4,5,9,28] ?_
 refine TK.newS rfl rfl rfl (n_makeI rfl rfl rfl ApOf.h TyZ.h hp0 oQ) (fun _=>putS rfl (by simp only [List.set]; rfl)) fun jo hjo=>?_
 refine au [2,3,4,4,5,1,28,1,3,13] ?_
 refine TK.maskL [3,4,5,6,7,8,11,47,48,49] ?_
 refine TK.loopN (fun n env K=>∃ (i:Nat),n=l.length - i/\i<=l.length/\env=[.any,.any,.any,.ptr jb 0,.ptr jl 0,.ptr js 0,.ptr jr 0,boolA false,.ptr j8 0,.any,.any,.sl jo 0 l.length,.any,.any,.any,.any,.any,.any,.any,.any,.any,.any,.any,.any,.any,.any,.any,.any,.any,.any,.any,.any,.any,.any,.any,.any,.any,.any,.any,.any,.any,.any,.any,.any,.any,.any,.any,.sl jo 0 l.length,intA l.length,intA i,.any,.any,.any,.any,.any,.any,.any,.any,.any,.any,.any,.any,.any,.any,.any,.any,.any,.any,.any,.any,.any,.any,.any,.any,.any,.any,.any,.any,.any,.any,.any,.any,.any,.any,.any,.any,.any,.any,.any,.any,.any,.any,.any,.any,.any,.any,.any,.any,.any,.any,.any,.any,.any,.any,.any,.any,.any,.any,.any,.any]/\K=[(jo,.cells ((idxM i++List.replicate (l.length - i) 0).map intA) 3 true),(s,seamO b),(j,.cells (l.map intA) et false),(jb,.cells (rollC b s h e) 113 true),(jl,.cells [.sl j 0 l.length] 117 true),(js,.cells (stC st) 129 true),(jr,.cells [.v (.slice none 0 0),intA 0] 125 true),(jw,.cells ((List.replicate l.length (0:Int)).map intA) 3 true),(j8,.cells [.sl jw 0 l.length,intA (spoilM b l l.length)] 125 true)]) l.length ⟨0,rfl,Nat.zero_le _,rfl,rfl⟩ fun n env K hI hnext=>?_
 obtain ⟨i,rfl,hi,rfl,rfl⟩:=hI
 refine au [4,5,6,3,4,20] ?_
 refine ⟨fun hc2=>?_,fun hc2=>?_⟩
 ·have hil:i<l.length:=by simp at hc2; omega
  refine au [12,4,13,4,5,1,2,3,5,1,1,1,36] ?_
  refine TK.st rfl rfl rfl (q_store rfl rfl TySz.h rfl rfl mQ (put_int (k:=i) (by simp [idxM]; omega) rfl)) uQ (putN rfl) ?_
  refine au [3,14,5,23,1,3] ?_
  refine TK.maskL [3,4,5,6,7,8,11,47,48,49] ?_
  refine TK.kp [(jo,_),(s,_),(j,_),(jb,_),(jl,_),(js,_),(jr,_),(jw,_),(j8,_)] ?_
  exact hnext _ _ _ oQ ⟨i+1,rfl,by omega,rfl,by rw [<- idx_set hil]⟩
 obtain rfl:i=l.length:=by simp at hc2; omega
 refine au [16,4] ?_
 have hidx:idxM l.length++List.replicate (l.length - l.length) 0=idxM l.length:=by simp
 rw [hidx]
 refine au [5,1,32] ?_
 refine TK.cl rfl rfl rfl rfl (sortFunc_ok hT (Kc:=[(jb,.cells (rollC b s h e) 113 true),(jl,.cells [.sl j 0 l.length] 117 true),(s,seamO b),(j,.cells (l.map intA) et false)]) (lt:=busyLt b l) (by simp [idxM]) ⟨hp0,by omega⟩ (fun x hx y hy=>callFK_fn Cal.h (cmp_ok hT hb hl (by have:=idx_mem hx; omega) (by have:=idx_mem hy; omega)))) ?_ (hs:=(.left (.rem (.tail (.tail .head)) (.rem (.tail (.tail .head)) (.left (.left (.none _)))))))
 rintro r4 K5 rfl
 refine au [3,4,5,8,8] ?_
 refine TK.cl rfl rfl rfl rfl (fresh_ok hT hb hs) ?_ (hs:=(.none _))
 rintro r7 K8 ⟨rfl,rfl⟩
 refine au [2,3,4,4,5,1,28,1,3,13] ?_
 refine TK.maskL [3,4,5,6,7,8,13,63,64,65] ?_
 refine TK.loopN (fun n env K=>∃ (i:Nat) (z:Alloc),n=l.length - i/\i<=l.length/\z=((ordM b l).take i).foldl (allocM b l) (alloc0 b l (freshM b st))/\z.steps.length=l.length/\(0<=z.left/\z.left<=65)/\(0<=z.squares/\z.squares<=45+585*i)/\env=[.any,.any,.any,.ptr jb 0,.ptr jl 0,.ptr js 0,.ptr jr 0,boolA false,.ptr j8 0,.any,.any,.any,.any,intA z.left,.any,.any,.any,.any,.any,.any,.any,.any,.any,.any,.any,.any,.any,.any,.any,.any,.any,.any,.any,.any,.any,.any,.any,.any,.any,.any,.any,.any,.any,.any,.any,.any,.any,.any,.any,.any,.any,.any,.any,.any,.any,.any,.any,.any,.any,.any,.any,.any,.any,.sl jo 0 l.length,intA l.length,intA i,.any,.any,.any,.any,.any,.any,.any,.any,.any,.any,.any,.any,.any,.any,.any,.any,.any,.any,.any,.any,.any,.any,.any,.any,.any,.any,.any,.any,.any,.any,.any,.any,.any,.any,.any,.any,.any,.any,.any,.any,.any,.any,.any,.any]/\K=[(jo,.cells ((ordM b l).map intA) 3 true),(jb,.cells (rollC b s h e) 113 true),(jl,.cells [.sl j 0 l.length] 117 true),(s,seamO b),(j,.cells (l.map intA) et false),(js,.cells (stC st) 129 true),(jr,.cells [.v (.slice none 0 0),intA 0] 125 true),(jw,.cells (z.steps.map intA) 3 true),(j8,.cells [.sl jw 0 l.length,intA z.squares] 125 true)]) l.length ⟨0,alloc0 b l (freshM b st),rfl,Nat.zero_le _,rfl,by simp [alloc0],hfr,by have:=spoil_bd hb hl l.length (Nat.le_refl _); show 0<=spoilM b l l.length/\spoilM b l l.length<=_; omega,rfl,rfl⟩ fun n env K hI hnext=>?_
 obtain ⟨i,z,rfl,hi,hz,hzl,hzf,hzs,rfl,rfl⟩:=hI
 have hol:=ord_len b l
 refine au [4,5,6,3,4,20] ?_
 refine ⟨fun hc3=>?_,fun hc3=>?_⟩
 ·have hil:i<l.length:=by simp at hc3; omega
  obtain ⟨k,hk⟩:∃ k,(ordM b l)[i]? =some k:=⟨_,List.getElem?_eq_getElem oQ⟩
  have hkm:=ord_mem (List.mem_of_getElem? hk)
  have hkn:k.toNat<l.length:=by omega
  have qi:=hl.lt hkn
  have fi:=hb.sms.fld _ qi.2.2
  have hmul:0<=min z.left (sm b (cutN l k.toNat).toNat).most*(sm b (cutN l k.toNat).toNat).busy/\min z.left (sm b (cutN l k.toNat).toNat).most*(sm b (cutN l k.toNat).toNat).busy<=585:=mul_bd oQ oQ
  refine au [12,4,13,4,5,36] ?_
  refine TK.a rfl (q_load1 rfl rfl TySz.h mQ (ints_at (i:=i) hk rfl)) ?_
  refine au [2,3,4] ?_
  refine TK.draw [0,1,2,3,4,5,6,7,8,9,10,11,12] [0,1,2,3,4,5,6,7,8,9,10,11,12] (by kernel_rfl) (by kernel_rfl) ?_
  refine TD.z [13] rfl (q_move rfl rfl) ?_
  refine TD.z [3] rfl (q_fieldAddr rfl rfl FldOf.h dQ) ?_
  refine TD.z [70] rfl (q_fieldAddr rfl rfl FldOf.h dQ) ?_
  refine TD.y [71] rfl (hq:=q_load1 rfl rfl TySz.h (List.Mem.head _) rfl) (h:=?_)
  refine TD.y [4] rfl (hq:=q_load1 rfl rfl TySz.h (List.Mem.head _) rfl) (h:=?_)
  refine TD.z [15] rfl (q_move rfl rfl) ?_
  refine TD.z [73,74] rfl (q_indexSl rfl rfl rfl SlEl.h oQ oQ) ?_
  refine TD.y [75] rfl (hq:=q_load1 rfl rfl TySz.h (List.Mem.head _) (ints_at (i:=k.toNat) (cut_get hkn) oQ)) (h:=?_)
  refine TD.z [72,76] rfl (q_indexSl rfl rfl rfl SlEl.h oQ oQ) ?_
  refine TD.z [77] rfl (q_fieldAddr rfl rfl FldOf.h dQ) ?_
  refine TD.y [78] rfl (hq:=q_load1 rfl rfl TySz.h (List.Mem.head _) (take_fld (c:=1) (sm_at b (i:=(cutN l k.toNat).toNat) qi.2.2 oQ) dQ rfl)) (h:=?_)
  refine TD.z [69,79] rfl (q_minI rfl rfl rfl) ?_
  refine TD.as (pend':=[]) [80] rfl rfl (q_assign rfl rfl) ?_
  refine TD.fin ?_
  refine au [4,5,7,9,1,1,36] ?_
  refine TK.st rfl rfl rfl (q_store rfl rfl TySz.h rfl rfl mQ (put_int (k:=k.toNat) oQ oQ)) uQ (putN rfl) ?_
  refine au [3,4] ?_
  refine TK.draw [0,1,2,3,4,5,6,7,8,9,10,11,12,13,14,15,16] [0,1,2,3,4,5,6,7,8,9,10,11,12,13,14,15,16] (by kernel_rfl) (by kernel_rfl) ?_
  refine TD.z [8] rfl (q_fieldAddr rfl rfl FldOf.h dQ) ?_
  refine TD.y [86] rfl (hq:=q_load1 rfl rfl TySz.h (List.Mem.head _) rfl) (h:=?_)
  refine TD.z [16] rfl (q_move rfl rfl) ?_
  refine TD.z [3] rfl (q_fieldAddr rfl rfl FldOf.h dQ) ?_
  refine TD.z [89] rfl (q_fieldAddr rfl rfl FldOf.h dQ) ?_
  refine TD.y [90] rfl (hq:=q_load1 rfl rfl TySz.h (List.Mem.head _) rfl) (h:=?_)
  refine TD.y [4] rfl (hq:=q_load1 rfl rfl TySz.h (List.Mem.head _) rfl) (h:=?_)
  refine TD.z [15] rfl (q_move rfl rfl) ?_
  refine TD.z [92,93] rfl (q_indexSl rfl rfl rfl SlEl.h oQ oQ) ?_
  refine TD.y [94] rfl (hq:=q_load1 rfl rfl TySz.h (List.Mem.head _) (ints_at (i:=k.toNat) (cut_get hkn) oQ)) (h:=?_)
  refine TD.z [91,95] rfl (q_indexSl rfl rfl rfl SlEl.h oQ oQ) ?_
  refine TD.z [96] rfl (q_fieldAddr rfl rfl FldOf.h dQ) ?_
  refine TD.y [97] rfl (hq:=q_load1 rfl rfl TySz.h (List.Mem.head _) (take_fld (c:=2) (sm_at b (i:=(cutN l k.toNat).toNat) qi.2.2 oQ) dQ rfl)) (h:=?_)
  refine TD.z [88,98] rfl (q_mul rfl rfl rfl oQ) ?_
  refine TD.z [87,99] rfl (q_add rfl rfl rfl oQ) ?_
  refine TD.z [8] rfl (q_fieldAddr rfl rfl FldOf.h dQ) ?_
  refine TD.s (pend':=[]) [100,101] rfl rfl (q_store rfl rfl TySz.h rfl rfl mQ rfl) ?_
  refine TD.fin ?_
  refine au [5,1,1,24,2,3,14,5,23,1,3] ?_
  refine TK.maskL [3,4,5,6,7,8,13,63,64,65] ?_
  refine TK.kp [(jo,_),(jb,_),(jl,_),(s,_),(j,_),(js,_),(jr,_),(jw,_),(j8,_)] ?_
  exact hnext _ _ _ oQ ⟨i+1,allocM b l z k,rfl,by omega,by rw [take_snoc hk,List.foldl_append,<- hz]; rfl,by simp [allocM,hzl],by show 0<=z.left - min z.left (sm b (cutN l k.toNat).toNat).most/\z.left - min z.left (sm b (cutN l k.toNat).toNat).most<=65; omega,by show 0<=z.squares+min z.left (sm b (cutN l k.toNat).toNat).most*(sm b (cutN l k.toNat).toNat).busy/\z.squares+min z.left (sm b (cutN l k.toNat).toNat).most*(sm b (cutN l k.toNat).toNat).busy<=45+585*((i+1:Nat):Int); omega,rfl,rfl⟩
 obtain rfl:i=l.length:=by simp at hc3; omega
 rw [List.take_of_length_le oQ] at hz
 refine au [16,4,4,5,1,6,3,20] ?_
 refine ⟨fun hc4=>?_,fun hc4=>?_⟩
 ·refine au [4,5,39,17,2,3] ?_
  refine TK.rt hret [(s,_),(j,_)] ?_
  rw [show hangM b l st=none by unfold hangM; rw [if_neg (by rw [hfit]; decide)]; unfold allocA; rw [<- hz]; exact if_pos (of_decide_eq_true hc4)]
  exact ⟨rfl,rfl⟩
 refine au [12,4] ?_
 refine TK.frz (j:=jw) ?_
 refine au [5,8,17,2,3] ?_
 refine TK.rt hret [(jw,_),(s,_),(j,_)] ?_
 rw [show hangM b l st=some (z.steps,z.squares) by unfold hangM; rw [if_neg (by rw [hfit]; decide)]; unfold allocA; rw [<- hz]; exact if_neg (of_decide_eq_false hc4)]
 exact ⟨jw,by rw [hzl]; rfl,rfl⟩
end Go.Vel
end
