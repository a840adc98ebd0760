/- The law RollTurned: a book that begins at another seam tells the same at other indexes. It holds of every program, tape and world that the statements name, as each theorem says. -/
import Derived.Test.YtamcohjpanjdiaaGreatDoorJ7
import Derived.Test.YtamcohjpanjdiaaGreatDoorJ8
import Derived.Test.YtamcohjpanjdiaaGreatDoorTurned0
section
set_option linter.all false
set_option maxRecDepth 20000
set_option maxHeartbeats 60000000
open List renaming map_append -> lM
open Go.Vel.TK renaming maskL -> bA, kp -> bC, cl -> bD, sp -> bF
open Go.Vel.TD renaming norm -> bS, z -> bU
namespace Go.Vel
open Go Go.Conc Go.Proofs
section
variable {P:Program} {gm:Nat->Option Nat} {T:Goroutine->Hp->Prop} {Y:KX P gm T} {ds:List Nat} {k:List Item} {env env':List AV} {K:KV} {ops:Array Oper} {i d:Nat} {L':List Nat} {o:Oper} {r:AV} {pend pend':List Pd}
theorem TD.at (n:Nat) (s:List Nat) (h:TD Y ds ops k pend' L' env' K) (ho:ops[i]? =some o:=by rfl) (e:pend.take n=pend':=by simp only [List.take_succ_cons,List.take_zero]; rfl) (hp':pendOf ops i pend=pend':=by rfl) (hq:Qk P gm (onl s env) K o r:=by exact zD rfl rfl) (hv:∀ p∈pend',∀ x∈p.V,x∈K:=by simp) (hd:yc o.op=false:=by rfl) (hw:zK ops (onl s env) o=some true:=by rfl) (hc:chkC ops pend' L' s i o.dst=true:=by rfl) (hx:o.dst=some d:=by rfl) (he:env.set d r=env':=by simp only [List.set]; rfl):TD Y ds ops k pend (i::L') env K:=TD.as s ho hp' hq h hv hd hw hc hx he
end
def NP (b:RBk):Prop:=zf b=[]\/NoPlan b (zf b)
def CN (b:RBk):Prop:=zf b≠[]\/clashM b=none
def wdF (b:RBk):Int×Bool:=if zf b=[] then (0,false) else ((widestM b (zf b)).getD 0,(widestM b (zf b)).isSome)
section
variable {b o:RBk} {t:Nat} {r:AV} {K' KK:KV} {A C:Prop} {l:List Int}
theorem kn9 (h:zr b=0) (hn:zf b=[]):knB b 0=9:=xz (by rw [jY]; exact h) hn
theorem kn0 (h:zr b=0) (hn:zf b≠[]):knB b 0=0:=xT (by rw [jY]; exact h) hn
theorem best2 (h:(zr b≠0/\A)\/(zr b=0/\zf b=[]/\r=.tup [.v (.slice none 0 0),intA 0,zP false,intA 9]/\K'=KK)\/(zr b=0/\zf b≠[]/\((NoPlan b (zf b)/\r=.tup [.v (.slice none 0 0),intA 0,zP false,intA 0]/\K'=KK)\/C))) (hc:zr b=0):(NP b/\r=.tup [.v (.slice none 0 0),intA 0,zP false,intA (knB b 0)]/\K'=KK)\/(zf b≠[]/\C):=by
 rcases h with ⟨h,_⟩ | ⟨_,hn,h1,h2⟩ | ⟨_,hn,⟨hp,h1,h2⟩ | h⟩
 ·exact absurd hc h
 ·rw [kn9 hc hn]; exact .inl ⟨.inl hn,h1,h2⟩
 ·rw [kn0 hc hn]; exact .inl ⟨.inr hp,h1,h2⟩
 ·exact .inr ⟨hn,h⟩
theorem few2 (h:(zr b≠0/\A)\/(zr b=0/\zf b=[]/\r=.tup [.v (.slice none 0 0),zP false,intA 9]/\K'=KK)\/(zr b=0/\zf b≠[]/\((NoPlan b (zf b)/\r=.tup [.v (.slice none 0 0),zP false,intA 0]/\K'=KK)\/C))) (hc:zr b=0):(NP b/\r=.tup [.v (.slice none 0 0),zP false,intA (knB b 0)]/\K'=KK)\/(zf b≠[]/\C):=by
 rcases h with ⟨h,_⟩ | ⟨_,hn,h1,h2⟩ | ⟨_,hn,⟨hp,h1,h2⟩ | h⟩
 ·exact absurd hc h
 ·rw [kn9 hc hn]; exact .inl ⟨.inl hn,h1,h2⟩
 ·rw [kn0 hc hn]; exact .inl ⟨.inr hp,h1,h2⟩
 ·exact .inr ⟨hn,h⟩
theorem wid2 (h:(zr b≠0/\A)\/(zr b=0/\zf b=[]/\r=.tup [intA 0,zP false,intA 9]/\K'=KK)\/(zr b=0/\zf b≠[]/\r=.tup [intA ((widestM b (zf b)).getD 0),zP (widestM b (zf b)).isSome,intA 0]/\K'=KK)) (hc:zr b=0):r=.tup [intA (wdF b).1,zP (wdF b).2,intA (knB b 0)]/\K'=KK:=by
 unfold wdF;rcases h with ⟨h,_⟩ | ⟨_,hn,h1,h2⟩ | ⟨_,hn,h1,h2⟩
 ·exact absurd hc h
 ·rw [kn9 hc hn,if_pos hn]; exact ⟨h1,h2⟩
 ·rw [kn0 hc hn,if_neg hn]; exact ⟨h1,h2⟩
theorem cls2 (h:(zr b≠0/\A)\/(zr b=0/\zf b≠[]/\r=.tup [.v (.slice none 0 0),intA 0]/\K'=KK)\/(zr b=0/\zf b=[]/\clashM b=none/\r=.tup [.v (.slice none 0 0),intA 0]/\K'=KK)\/(zr b=0/\zf b=[]/\∃ (l:List Int) (j0:Nat) (e0:TypeId),clashM b=some l/\r=.tup [.sl j0 0 l.length,intA 0]/\K'=(j0,.cells (l.map intA) e0 false)::KK)) (hc:zr b=0):(CN b/\r=.tup [.v (.slice none 0 0),intA 0]/\K'=KK)\/(zf b=[]/\∃ (l:List Int) (j0:Nat) (e0:TypeId),clashM b=some l/\r=.tup [.sl j0 0 l.length,intA 0]/\K'=(j0,.cells (l.map intA) e0 false)::KK):=by
 rcases h with ⟨h,_⟩ | ⟨_,hn,h1,h2⟩ | ⟨_,hn,hk,h1,h2⟩ | ⟨_,hn,h⟩
 ·exact absurd hc h
 ·exact .inl ⟨.inl hn,h1,h2⟩
 ·exact .inl ⟨.inr hk,h1,h2⟩
 ·exact .inr ⟨hn,h⟩
structure Two (b o:RBk) (t:Nat):Prop where
 rot:RotB b o t
 rev:RevM b o t
 ob:ROk b
 oo:ROk o
theorem Two.kn (h:Two b o t):knB o 0=knB b 0:=jbL h.rot h.ob h.oo rfl rfl
theorem Two.nil (h:Two b o t):zf b=[]↔zf o=[]:=h.rot.nilE h.ob h.oo
theorem Two.new (h:Two b o t):newF o=newF b:=by
 unfold newF;rw [h.kn,h.rot.newE h.ob h.oo]
theorem Two.cut (h:Two b o t) (hl:CutsOk b l):cutsM b l=0/\cutsM o (mvM b.seams.length t l)=0:=⟨qz hl,qz (h.rot.cutsE hl)⟩
theorem Two.can (h:Two b o t) (hl:CutsOk b l):canF o (mvM b.seams.length t l)=canF b l:=by
 unfold canF;rw [(h.cut hl).1,(h.cut hl).2,h.kn];by_cases hk:knB b 0=0
 ·rw [if_pos hk,if_pos hk,h.rot.can2 h.ob h.oo hl (knB_0 hk).2]
 ·rw [if_neg hk,if_neg hk]
theorem Two.sqf (h:Two b o t) (hl:CutsOk b l):sqF o (mvM b.seams.length t l)=sqF b l:=by
 unfold sqF;rw [(h.cut hl).1,(h.cut hl).2,h.kn,(h.rot.sqE h.ob h.oo hl).1,(h.rot.sqE h.ob h.oo hl).2]
theorem Two.sqb (h:Two b o t) (hl:CutsOk b l):sqB o (mvM b.seams.length t l)=sqB b l:=by
 unfold sqB;rw [(h.cut hl).1,(h.cut hl).2,h.kn,h.rot.sqOkE h.ob h.oo hl]
theorem Two.fit (h:Two b o t) (hl:CutsOk b l):fitsM o (mvM b.seams.length t l)=fitsM b l:=by
 rw [Bool.eq_iff_iff];refine ⟨fun hf=>?_,h.rot.fitsE hl⟩;have:=(h.rot.symm h.oo).fitsE (h.rot.cutsE hl) hf;rwa [h.rot.len,xA h.rot.le hl] at this
theorem Two.np (h:Two b o t) (hn:NP b) {bt:List Int×Int->List Int×Int->Bool} {d:Nat} (h1:zf o≠[]) (h2:PlanA o (zf o) bt d):False:=by
 rcases hn with hn | hn
 ·exact h1 (h.nil.1 hn)
 ·exact h.rot.noNo h.ob h.oo hn h2
theorem Two.pl (h:Two b o t) (hne:zf b≠[]) {c:Nat} {bt:List Int×Int->List Int×Int->Bool} (hp:PlanA b (zf b) bt c):¬ NP o:=fun hn=>by
 rcases hn with hn | hn
 ·exact hne (h.nil.2 hn)
 ·exact h.rot.planNo h.ob h.oo hp hn
theorem jaF (hne:zf b≠[]) {c:Nat} {bt:List Int×Int->List Int×Int->Bool} (hp:PlanA b (zf b) bt c):¬ NP b:=fun hn=>by
 rcases hn with hn | hn
 ·exact hne hn
 ·exact x8 hp hn
theorem jbt (hn:NP b) {bt:List Int×Int->List Int×Int->Bool} {c:Nat} (h1:zf b≠[]) (h2:PlanA b (zf b) bt c):False:=jaF h1 h2 hn
theorem Two.wid (h:Two b o t):wdF o=wdF b:=by
 unfold wdF;rw [h.rot.widestE h.ob h.oo];by_cases hn:zf b=[]
 ·rw [if_pos hn,if_pos (h.nil.1 hn)]
 ·rw [if_neg hn,if_neg (fun e=>hn (h.nil.2 e))]
theorem Two.cn (h:Two b o t) (hn:CN b) {l:List Int} (h1:zf o=[]) (h2:clashM o=some l):False:=by
 rcases hn with hn | hn
 ·exact hn (h.nil.2 h1)
 ·rw [(h.rot.clashE h.ob h.oo h.rev).1.2 hn] at h2; cases h2
theorem Two.cs (h:Two b o t) {l:List Int} (h1:zf b=[]) (h2:clashM b=some l):¬ CN o:=fun hn=>by
 rcases hn with hn | hn
 ·exact hn (h.nil.1 h1)
 ·rw [(h.rot.clashE h.ob h.oo h.rev).1.1 hn] at h2; cases h2
end
instance:Cal Tryz.prog 68:={}
instance:Cal Tryz.prog 69:={}
instance {a0 a1 a2 a3 a4 a5 a6 a7 a8 a9 a10 a11 a12 a13 a14 a15 a16 a17 a18 a19 a20 a21 a22 a23 a24 a25 a26 a27 a28 a29 a30 a31 a32 a33 a34 a35 a36 a37 a38 a39 a40 a41 a42 a43 a44 a45 a46 a47 a48 a49 a50 a51 a52 a53 a54 a55 a56 a57 a58 a59 a60 a61 a62 a63 a64:Oper}:RgL (List.toArray (List.append [a0,a1,a2,a3,a4,a5,a6,a7,a8,a9,a10,a11,a12,a13,a14,a15,a16,a17,a18,a19,a20,a21,a22,a23,a24,a25,a26,a27,a28,a29,a30,a31] [a32,a33,a34,a35,a36,a37,a38,a39,a40,a41,a42,a43,a44,a45,a46,a47,a48,a49,a50,a51,a52,a53,a54,a55,a56,a57,a58,a59,a60,a61,a62,a63,a64])) (0::1::2::3::4::5::6::7::8::9::10::11::12::13::14::15::16::17::18::19::20::21::22::23::24::25::26::27::28::29::30::31::32::33::34::35::36::37::38::39::40::41::42::43::44::45::46::47::48::49::50::51::52::53::54::55::56::57::58::59::60::61::62::63::64::[]):=⟨rfl⟩
theorem qx {b:RBk} {s h e:Nat} {k1 k2 k3:Int} (hk1:0<=k1/\k1<256) (hk2:0<=k2/\k2<256) (hk3:0<=k3/\k3<256):Top Tryz.prog gmR 10 [.agg (zE b s h e),.v (.int .u8 k1),.v (.int .u8 k2),.v (.int .u8 k3)] [(0,zy),(s,zk b),(h,zB b),(e,zq b)] (fun r _=>r=zP true):=by
 refine topI 307 Tryz.func10 fun R Y hret=>?_;have hT:=kI (P:=Tryz.prog) (AtRet Tryz.prog 10 R);refine au 21042 ?_;intro jb hjb;refine au 68042235 ?_;refine bD Z Z Z Z (zjb hT) ?_;rintro r1 K2 ⟨rfl,rfl⟩;refine au 93300 ?_;constructor<;>intro hc0
 ·refine au 42 ?_;refine bD Z Z Z Z (zi6) ?_;rintro r4 K5 ⟨rfl,rfl⟩;refine au 35 ?_;refine TK.rt hret [] ?_;rfl
 have hgr:greatM b=false/\zr b=0:=by cases hq:greatM b <;> simp [hq] at hc0; exact ⟨rfl,hc0⟩
 obtain ⟨hgr,hck⟩:=hgr;have hbb:=zZ hck;have hl:b.seams.length<=100:=by have:=hbb.sms.len; omega
 have hm:b.measures.length<=100:=by have:=hbb.mes.len; omega
 have hl2:b.shrinks.length<=100:=by have:=hbb.cls.len; omega
 have hst:=hbb.rnd.steps;obtain ⟨n1,rfl⟩:=Int.eq_ofNat_of_zero_le hk1.1;obtain ⟨n2,rfl⟩:=Int.eq_ofNat_of_zero_le hk2.1;obtain ⟨n3,rfl⟩:=Int.eq_ofNat_of_zero_le hk3.1;have hsl:=hbb.sms.len;have hcl:=hbb.cls.len;refine au 2120 ?_;refine TK.dq [0,1,2,5,6,7,9,3,4,8,10] ?_;refine ad [[3,4],[10,54]] ?_;refine bU [55] Z (q_len Z Z Z Und.h) ?_;refine ad [[1,1]] ?_;refine bU [57] Z (yV Z Z Und.h Und.h (we oQ)) ?_;refine ad [[3,4],[10,59]] ?_;refine bU [60] Z (q_len Z Z Z Und.h) ?_;refine bU [58,61] Z (q_rem Z Z Z oQ oQ) ?_;refine TD.at 6 [56] ?_;refine TD.at 0 [62] ?_;refine ad [[14]] ?_;refine au 2 ?_;have ht:=Nat.mod_lt n1 (show 0<b.seams.length by omega);rw [show (n1:Int) % (b.seams.length:Int)=((n1 % b.seams.length:Nat):Int) from rfl];generalize n1 % b.seams.length=t at ht ⊢;refine TK.dq [0,1,2,3,4,5,6,7,8] ?_;refine ad [[1,2]] ?_;refine bU [63] Z (yV Z Z Und.h Und.h (we oQ)) ?_;refine ad [[1,9]] ?_;refine bU [64,65] Z (q_rem Z Z Z oQ oQ) ?_;refine ad [[12,4],[1,3]] ?_;refine TD.cl (pend':=[⟨3,[64,65],[]⟩,⟨2,[9],[]⟩,⟨1,[63],[]⟩,⟨0,[2],[]⟩]) [67,68] Z Z Z Z Z (jbk hT (c:=n3) hsl oQ) (fun r7 K8 h9=>⟨?_,?_⟩)
 ·rcases h9 with ⟨jo,eo,rfl,rfl⟩
  all_goals simp
 obtain ⟨jo,eo,rfl,rfl⟩:=h9;try simp only [cA]
 refine bS tQ ?_;refine TD.at 0 [66] ?_;refine TD.at 0 [69] ?_;refine ad [[14]] ?_;refine au 2 ?_;obtain ⟨d0,hd0,hd1,hdo⟩:=jap (c:=n3) hsl.1 hsl.2;have hcc:CutsOk b (otherM n3 b.seams.length):=hdo ▸ zeE hbb hd0 hd1;clear hdo;generalize otherM n3 b.seams.length=l at hcc ⊢;have hi0:=Nat.mod_lt n2 (show 0<b.seams.length by omega);rw [show (n2:Int) % (b.seams.length:Int)=((n2 % b.seams.length:Nat):Int) from rfl];generalize n2 % b.seams.length=i at hi0 ⊢;have hll:l.length<=1000:=by have:=hcc.len; omega
 have hbt:bar2 (zr b) (thereM b (i:Int))=0:=by rw [kG hck]; exact jan (by simp [betw]; omega)
 have hbc:bar2 (zr b) (cutsM b l)=0:=by rw [kG hck]; exact qz hcc
 have hs1:=kg hbb;have hr1:=ja8 ((zf b).map fun s=>zN s (i:Int).toNat);rw [List.length_map] at hr1;have h2:Two b (turnRB b t) t:=⟨jbf hbb ht,xN hbb ht,hbb,jbJ hbb ht⟩;refine' TK.shr (X:=Nat×Nat×Nat×Nat×Nat) (D:=fun x=>True) (E:=fun x=>naL 4 (.ptr jb 0::naL 6 (intA (i:Int)::.sl jo 0 l.length::.ptr x.1 0::intA ((onM b.seams.length (b.seams.length - t) i:Nat):Int)::.sl x.2.2.2.2 0 (mvM b.seams.length t l).length::naL 291 []))) (KK:=fun x=>[(0,zy),(s,zk b),(h,zB b),(e,zq b),(jb,.cells (zE b s h e) 26 true),(jo,.cells (l.map intA) eo false),(x.1,.cells (zE (turnRB b t) x.2.1 x.2.2.1 x.2.2.2.1) 26 true),(x.2.1,zk (turnRB b t)),(x.2.2.1,zB (turnRB b t)),(x.2.2.2.1,zq (turnRB b t)),(x.2.2.2.2,.cells ((mvM b.seams.length t l).map intA) 3 false)]) ?_ ?_;rotate_left
 ·intro H;refine TK.dr [0,1,3,4,5,6,7,8,9,10,11,12,2,13,14,15,16,17] [0,1,2,10,11,12,13,14,15,3,4,5,6,7,8,9,16,17] ?_;refine ad [[12,4],[1,10],[1,11],[1,10],[9,73,74],[1,9],[8,75,76],[1,9]] ?_;refine bU [77,78] Z (q_rem Z Z Z oQ oQ) ?_;refine ad [[1,12],[1,10],[1,9]] ?_;refine TD.c2 (i1:=2) (i2:=14) (pend1:=[⟨12,[9],[]⟩,⟨11,[10],[]⟩,⟨10,[12],[]⟩,⟨9,[77,78],[]⟩,⟨8,[9],[]⟩,⟨7,[75,76],[]⟩,⟨6,[9],[]⟩,⟨5,[73,74],[]⟩,⟨4,[10],[]⟩,⟨3,[11],[]⟩]) (pend2:=[⟨12,[9],[]⟩,⟨11,[10],[]⟩,⟨10,[12],[]⟩,⟨9,[77,78],[]⟩,⟨8,[9],[]⟩,⟨7,[75,76],[]⟩,⟨6,[9],[]⟩,⟨5,[73,74],[]⟩,⟨4,[10],[]⟩,⟨3,[11],[]⟩,⟨1,[10],[]⟩,⟨0,[4],[(_,_)]⟩]) (L1:=[13,14,15,16,17]) (L2:=[2,13,15,16,17]) [70,71] [] Z Z Z Z Z Z Z ?_ ?_
  ·refine wi Z Z Cal.h Z (qv hT hbb ht) (by repeat (first | exact Split.none _ | exact Split.all _ | (apply Split.rem; repeat (first | exact Rem.head | apply Rem.tail)) | apply Split.right)) fun r10 K11 h12=>⟨?_,?_⟩
   ·rcases h12 with ⟨s2,h2',e2,rfl,rfl⟩
    all_goals simp
   obtain ⟨s2,h2',e2,rfl,rfl⟩:=h12;try simp only [cA]
   refine bS (env':=[_,_,_,_,_,_,_,_,_,_,_,_,_,_,_,_,_,_,_,_,_,_,_,_,_,_,_,_,_,_,_,_,_,_,_,_,_,_,_,_,_,_,_,_,_,_,_,_,_,_,_,_,_,_,_,_,_,_,_,_,_,_,_,_,_,_,_,_,_,_,_,_,_,_,_,_,_,_,_,_,_,_,_,_,_,_,_,_,_,_,_,_,_,_,_,_,_,_,_,_,_,_,_,_,_,_,_,_,_,_,_,_,_,_,_,_,_,_,_,_,_,_,_,_,_,_,_,_,_,_,_,_,_,_,_,_,_,_,_,_,_,_,_,_,_,_,_,_,_,_,_,_,_,_,_,_,_,_,_,_,_,_,_,_,_,_,_,_,_,_,_,_,_,_,_,_,_,_,_,_,_,_,_,_,_,_,_,_,_,_,_,_,_,_,_,_,_,_,_,_,_,_,_,_,_,_,_,_,_,_,_,_,_,_,_,_,_,_,_,_,_,_,_,_,_,_,_,_,_,_,_,_,_,_,_,_,_,_,_,_,_,_,_,_,_,_,_,_,_,_,_,_,_,_,_,_,_,_,_,_,_,_,_,_,_,_,_,_,_,_,_,_,_,_,_,_,_,_,_,_,_,_,_,_,_,_,_,_,_,_,_,_,_,_,_,_,_,_,_,_,_,_,_,_,_,_,_]) Z ?_;refine TD.c2 (i1:=13) (i2:=14) (pend1:=[⟨9,[77,78],[]⟩,⟨8,[9],[]⟩,⟨7,[75,76],[]⟩,⟨6,[9],[]⟩,⟨5,[73,74],[]⟩,⟨4,[10],[]⟩,⟨3,[11],[]⟩]) (pend2:=[⟨12,[9],[]⟩,⟨11,[10],[]⟩,⟨10,[12],[]⟩,⟨9,[77,78],[]⟩,⟨8,[9],[]⟩,⟨7,[75,76],[]⟩,⟨6,[9],[]⟩,⟨5,[73,74],[]⟩,⟨4,[10],[]⟩,⟨3,[11],[]⟩]) (L1:=[14,15,16,17]) (L2:=[13,15,16,17]) [80,81,82] [] Z Z Z Z Z Z Z ?_ ?_
   ·refine wi Z Z Cal.h Z (xI hT hcc ht hsl.2) (by repeat (first | exact Split.none _ | exact Split.all _ | (apply Split.rem; repeat (first | exact Rem.head | apply Rem.tail)) | apply Split.right)) fun r13 K14 h15=>⟨?_,?_⟩
    ·rcases h15 with ⟨jm,rfl,rfl⟩
     all_goals simp
    obtain ⟨jm,rfl,rfl⟩:=h15;try simp only [cA]
    refine bS (env':=[_,_,_,_,_,_,_,_,_,_,_,_,_,_,_,_,_,_,_,_,_,_,_,_,_,_,_,_,_,_,_,_,_,_,_,_,_,_,_,_,_,_,_,_,_,_,_,_,_,_,_,_,_,_,_,_,_,_,_,_,_,_,_,_,_,_,_,_,_,_,_,_,_,_,_,_,_,_,_,_,_,_,_,_,_,_,_,_,_,_,_,_,_,_,_,_,_,_,_,_,_,_,_,_,_,_,_,_,_,_,_,_,_,_,_,_,_,_,_,_,_,_,_,_,_,_,_,_,_,_,_,_,_,_,_,_,_,_,_,_,_,_,_,_,_,_,_,_,_,_,_,_,_,_,_,_,_,_,_,_,_,_,_,_,_,_,_,_,_,_,_,_,_,_,_,_,_,_,_,_,_,_,_,_,_,_,_,_,_,_,_,_,_,_,_,_,_,_,_,_,_,_,_,_,_,_,_,_,_,_,_,_,_,_,_,_,_,_,_,_,_,_,_,_,_,_,_,_,_,_,_,_,_,_,_,_,_,_,_,_,_,_,_,_,_,_,_,_,_,_,_,_,_,_,_,_,_,_,_,_,_,_,_,_,_,_,_,_,_,_,_,_,_,_,_,_,_,_,_,_,_,_,_,_,_,_,_,_,_,_,_,_,_,_,_,_,_,_,_,_,_,_,_,_,_,_,_]) Z ?_;refine TD.cnewP (pend':=[⟨9,[77,78],[]⟩,⟨8,[9],[]⟩,⟨7,[75,76],[]⟩,⟨6,[9],[]⟩,⟨5,[73,74],[]⟩,⟨4,[10],[]⟩,⟨3,[11],[]⟩]) [] Z Z Z Z Z (yL Z TyZA.h) (fun _=>zu rfl tQ) sQ fun jd hjd=>?_;refine TD.s (pend':=[⟨9,[77,78],[]⟩,⟨8,[9],[]⟩,⟨7,[75,76],[]⟩,⟨6,[9],[]⟩,⟨5,[73,74],[]⟩,⟨4,[10],[]⟩,⟨3,[11],[]⟩]) [13,72] Z Z (zX Z Z zi.h Z Z mQ Z) ?_;refine TD.at 0 [79] ?_;refine TD.at 0 [83] ?_;refine ad [[14]] ?_;refine au 2 ?_;rw [show ((i:Int) - (t:Int)+(b.seams.length:Int)) % (b.seams.length:Int)=((onM b.seams.length (b.seams.length - t) i:Nat):Int) from jM oQ oQ];refine bA [4,11,12,13,14,15] ?_;refine bC [(0,_),(s,_),(h,_),(e,_),(jb,_),(jo,_),(jd,_),(s2,_),(h2',_),(e2,_),(jm,_)] ?_;exact H (jd,s2,h2',e2,jm) trivial
   ·refine vm Z (yL Z TyZA.h) (fun _=>zu rfl tQ) sQ fun jd hjd=>?_;refine TD.cl (pend':=[⟨9,[77,78],[]⟩,⟨8,[9],[]⟩,⟨7,[75,76],[]⟩,⟨6,[9],[]⟩,⟨5,[73,74],[]⟩,⟨4,[10],[]⟩,⟨3,[11],[]⟩]) [80,81,82] Z Z Z Z Z (xI hT hcc ht hsl.2) (fun r205 K206 h207=>⟨?_,?_⟩)
    ·rcases h207 with ⟨jm,rfl,rfl⟩
     all_goals simp
    obtain ⟨jm,rfl,rfl⟩:=h207;try simp only [cA]
    refine bS tQ ?_;refine TD.s (pend':=[⟨9,[77,78],[]⟩,⟨8,[9],[]⟩,⟨7,[75,76],[]⟩,⟨6,[9],[]⟩,⟨5,[73,74],[]⟩,⟨4,[10],[]⟩,⟨3,[11],[]⟩]) [13,72] Z Z (zX Z Z zi.h Z Z mQ Z) ?_;refine TD.at 0 [79] ?_;refine TD.at 0 [83] ?_;refine ad [[14]] ?_;refine au 2 ?_;rw [show ((i:Int) - (t:Int)+(b.seams.length:Int)) % (b.seams.length:Int)=((onM b.seams.length (b.seams.length - t) i:Nat):Int) from jM oQ oQ];refine bA [4,11,12,13,14,15] ?_;refine bC [(0,_),(s,_),(h,_),(e,_),(jb,_),(jo,_),(jd,_),(s2,_),(h2',_),(e2,_),(jm,_)] ?_;exact H (jd,s2,h2',e2,jm) trivial
  ·refine vm Z (yL Z TyZA.h) (fun _=>zu rfl tQ) sQ fun jd hjd=>?_;refine TD.cl (pend':=[⟨12,[9],[]⟩,⟨11,[10],[]⟩,⟨10,[12],[]⟩,⟨9,[77,78],[]⟩,⟨8,[9],[]⟩,⟨7,[75,76],[]⟩,⟨6,[9],[]⟩,⟨5,[73,74],[]⟩,⟨4,[10],[]⟩,⟨3,[11],[]⟩]) [70,71] Z Z Z Z Z (qv hT hbb ht) (fun r397 K398 h399=>⟨?_,?_⟩)
   ·rcases h399 with ⟨s2,h2',e2,rfl,rfl⟩
    all_goals simp
   obtain ⟨s2,h2',e2,rfl,rfl⟩:=h399;try simp only [cA]
   refine bS tQ ?_;refine TD.cl (pend':=[⟨9,[77,78],[]⟩,⟨8,[9],[]⟩,⟨7,[75,76],[]⟩,⟨6,[9],[]⟩,⟨5,[73,74],[]⟩,⟨4,[10],[]⟩,⟨3,[11],[]⟩]) [80,81,82] Z Z Z Z Z (xI hT hcc ht hsl.2) (fun r400 K401 h402=>⟨?_,?_⟩)
   ·rcases h402 with ⟨jm,rfl,rfl⟩
    all_goals simp
   obtain ⟨jm,rfl,rfl⟩:=h402;try simp only [cA]
   refine bS tQ ?_;refine TD.s (pend':=[⟨9,[77,78],[]⟩,⟨8,[9],[]⟩,⟨7,[75,76],[]⟩,⟨6,[9],[]⟩,⟨5,[73,74],[]⟩,⟨4,[10],[]⟩,⟨3,[11],[]⟩]) [13,72] Z Z (zX Z Z zi.h Z Z mQ Z) ?_;refine TD.at 0 [79] ?_;refine TD.at 0 [83] ?_;refine ad [[14]] ?_;refine au 2 ?_;rw [show ((i:Int) - (t:Int)+(b.seams.length:Int)) % (b.seams.length:Int)=((onM b.seams.length (b.seams.length - t) i:Nat):Int) from jM oQ oQ];refine bA [4,11,12,13,14,15] ?_;refine bC [(0,_),(s,_),(h,_),(e,_),(jb,_),(jo,_),(jd,_),(s2,_),(h2',_),(e2,_),(jm,_)] ?_;exact H (jd,s2,h2',e2,jm) trivial
 ·rintro ⟨jd,s2,h2',e2,jm⟩ _; dsimp only;refine TK.na nQ ?_;have hqo:=on_lt (t:=b.seams.length - t) (i:=i) (show 0<b.seams.length by omega);generalize turnRB b t=o at h2 ⊢;have hcc2:=h2.rot.cutsE hcc;have e1:=h2.can hcc;have e5:=h2.sqf hcc;have e3:=h2.sqb hcc;have e4:=h2.fit hcc;obtain ⟨hc8,hc9⟩:=h2.cut hcc;generalize mvM b.seams.length t l=l2 at hcc2 e1 e5 e3 e4 hc9 ⊢;have hlo:o.seams.length<=100:=by rw [h2.rot.len]; exact hl
  have hmo:o.measures.length<=100:=by rw [h2.rev.len]; exact hm
  have hco:zr o=0:=xJ h2.oo;have hll2:l2.length<=1000:=by have:=hcc2.len; omega
  have hsh:=h2.rot.shrk hbb h2.oo hi0;generalize onM b.seams.length (b.seams.length - t) i=j at hqo hsh ⊢;have hbt2:bar2 (zr o) (thereM o (j:Int))=0:=by rw [kG hco]; exact jan (by simp [betw,h2.rot.len]; omega)
  have hbc2:bar2 (zr o) (cutsM o l2)=0:=by rw [kG hco]; exact hc9
  have hkn:=h2.kn;refine' TK.shr (X:=Nat×Nat×Int×List Int) (D:=fun x=>x.2.2.2.length<=1000) (E:=fun x=>naL 4 (.ptr jb 0::naL 7 (.sl jo 0 l.length::.ptr jd 0::.any::.sl jm 0 l2.length::.sl x.1 0 x.2.2.2.length::intA x.2.2.1::.sl x.2.1 0 x.2.2.2.length::intA x.2.2.1::naL 287 []))) (KK:=fun x=>[(0,zy),(s,zk b),(h,zB b),(e,zq b),(jb,.cells (zE b s h e) 26 true),(jo,.cells (l.map intA) eo false),(jd,.cells (zE o s2 h2' e2) 26 true),(s2,zk o),(h2',zB o),(e2,zq o),(jm,.cells (l2.map intA) 3 false),(x.1,.cells (x.2.2.2.map intA) 3 false),(x.2.1,.cells (x.2.2.2.map intA) 3 false)]) ?_ ?_;rotate_left
  ·intro H;refine au 16804 ?_;refine bD Z Z Z Z ((jW hT hl hm).mono (fun _ _ h=>or3q h hbt)) ?_;rintro r403 K404 h405;rcases h405 with ⟨hnil,rfl,rfl⟩ | ⟨hne,j1,z1,rfl,rfl⟩
   ·refine au 168042355661 ?_;refine bD Z Z Z Z ((jW (b:=o) hT hlo hmo).mono (fun _ _ h=>or3p h hbt2 (h2.nil.1 hnil))) ?_;rintro r406 K407 ⟨rfl,rfl⟩;refine au 0 ?_;skip;refine au 2355661 ?_;refine TK.virt 16 3 1 Z fun j1 hj1=>?_;refine au 0 ?_;refine TK.asSl 16 Z mQ ?_;refine TK.frzRow (j:=j1) ?_;refine au 0 ?_;refine TK.virt 18 3 1 Z fun j2 hj2=>?_;refine au 0 ?_;refine TK.asSl 18 Z mQ ?_;refine TK.frzRow (j:=j2) ?_;refine au 0 ?_;refine bA [4,12,13,15,16,17,18,19] ?_;refine bC [(0,_),(s,_),(h,_),(e,_),(jb,_),(jo,_),(jd,_),(s2,_),(h2',_),(e2,_),(jm,_),(j1,_),(j2,_)] ?_;exact H (j1,j2,9,[]) sQ
   ·refine au 0 ?_;rw [lM];refine TK.cutC (j:=j1) ?_;refine au 168042355661 ?_;refine bD Z Z Z Z ((jW (b:=o) hT hlo hmo).mono (fun _ _ h=>or3 h hbt2 (fun e=>hne (h2.nil.2 e)))) ?_;rintro r499 K500 ⟨j2,z2,rfl,rfl⟩;refine au 0 ?_;rw [lM,hsh];refine TK.cutC (j:=j2) ?_;refine au 2355661 ?_;have hsi:(shrI b (i:Int)).length<=1000:=by unfold shrI; omega
    refine bA [4,12,13,15,16,17,18,19] ?_;refine bC [(0,_),(s,_),(h,_),(e,_),(jb,_),(jo,_),(jd,_),(s2,_),(h2',_),(e2,_),(jm,_),(j1,_),(j2,_)] ?_;exact H (j1,j2,0,shrI b (i:Int)) hsi
  ·rintro ⟨j1,j2,r9,sl⟩ hsi; dsimp only at hsi ⊢;refine TK.na nQ ?_;refine au 6804 ?_;refine bD Z Z Z Z ((ze4 hT hl hm).mono (fun _ _ h=>new_f h)) ?_;rintro r502 K503 ⟨rfl,rfl⟩;refine au 220661 ?_;intro jx hjx;refine au 6804235170 ?_;refine bD Z Z Z Z ((ze4 (b:=o) hT hlo hmo).mono (fun _ _ h=>new_f h)) ?_;rintro r505 K506 ⟨rfl,rfl⟩;refine au 0 ?_;rw [h2.new,hkn];refine au 220661 ?_;intro jy hjy;refine au 16804235170 ?_;refine bD Z Z Z Z ((zch hT (j:=jo) (l:=l) hl hm hll).mono (fun _ _ h=>can_f h)) ?_;rintro r508 K509 ⟨rfl,rfl⟩;refine au 0 ?_;rw [hc8];refine au 168042355661 ?_;refine bD Z Z Z Z ((zch hT (b:=o) (j:=jm) (l:=l2) hlo hmo hll2).mono (fun _ _ h=>can_f h)) ?_;rintro r511 K512 ⟨rfl,rfl⟩;refine au 0 ?_;rw [hc9,hkn,e1];refine au 168042355661 ?_;refine bD Z Z Z Z ((uz hT (j:=jo) (l:=l) hl hm hll).mono (fun _ _ h=>sq_f h)) ?_;rintro r514 K515 ⟨rfl,rfl⟩;refine au 220661 ?_;intro ju hju;refine au 16804235170 ?_;refine bD Z Z Z Z ((uz hT (b:=o) (j:=jm) (l:=l2) hlo hmo hll2).mono (fun _ _ h=>sq_f h)) ?_;rintro r517 K518 ⟨rfl,rfl⟩;refine au 0 ?_;rw [e5,e3];refine au 220661 ?_;intro jv hjv;refine au 171142235170 ?_;refine bF 133 (fun g14_4=>?_) (fun g14_4=>?_)
   ·simp at g14_4
   refine au 11 ?_;refine bD Z Z Z Z (qN hT (xs:=sl) (ys:=sl) hsi) ?_;rintro r520 K521 ⟨rfl,rfl⟩;refine au 12507111250300 ?_;refine bF 144 (fun g14_15=>?_) (fun g14_15=>?_)
   ·simp at g14_15
   refine au 680680 ?_;refine TK.a Z (uS Z Z Z Z Z FlatF.h EqG.h) ?_;refine au 1250 ?_;refine bF 149 (fun g14_20=>?_) (fun g14_20=>?_)
   ·simp at g14_20
   refine au 1250711 ?_;refine bF 154 (fun g14_25=>?_) (fun g14_25=>?_)
   ·simp at g14_25
   refine au 1250711 ?_;refine bF 159 (fun g14_30=>?_) (fun g14_30=>?_)
   ·simp at g14_30
   refine au 1250711 ?_;refine bF 164 (fun g14_35=>?_) (fun g14_35=>?_)
   ·simp at g14_35
   refine au 680680 ?_;refine TK.a Z (uS Z Z Z Z Z FlatF.h EqG.h) ?_;refine au 93250 ?_;constructor<;>intro hc1
   ·simp at hc1
   refine au 168042120 ?_;refine bD Z Z Z Z (zaP hT (j:=jo) (l:=l) hl hm hll) ?_;rintro r523 K524 ⟨rfl,rfl⟩;refine au 0 ?_;rw [hbc];refine au 168042355661 ?_;refine bD Z Z Z Z (zaP hT (b:=o) (j:=jm) (l:=l2) hlo hmo hll2) ?_;rintro r526 K527 ⟨rfl,rfl⟩;refine au 0 ?_;rw [hbc2,e4];refine au 2355661 ?_;refine' TK.shr (X:=Unit) (D:=fun x=>True) (E:=fun x=>naL 4 (.ptr jb 0::naL 8 (.ptr jd 0::naL 293 []))) (KK:=fun x=>[(0,zy),(s,zk b),(h,zB b),(e,zq b),(jb,.cells (zE b s h e) 26 true),(jd,.cells (zE o s2 h2' e2) 26 true),(s2,zk o),(h2',zB o),(e2,zq o)]) ?_ ?_;rotate_left
   ·intro H;refine au 6804 ?_;refine bD Z Z Z Z ((zgQ hl hm).mono (fun _ _ h=>best2 h hck)) ?_;rintro r529 K530 h531;rcases h531 with ⟨hnp,rfl,rfl⟩ | ⟨hne,c,jc,ec,hpl,rfl,rfl⟩
    ·refine au 680423555566661 ?_;refine bD Z Z Z Z ((zgQ (b:=o) hlo hmo).mono (fun _ _ h=>(best2 h hco).resolve_right (fun h3=>by obtain ⟨h4,d,_,_,h5,_⟩:=h3; exact h2.np hnp h4 h5))) ?_;rintro r532 K533 ⟨hnp2,rfl,rfl⟩;refine au 0 ?_;rw [hkn];refine au 680423555566661 ?_;refine bD Z Z Z Z ((zeP hl hm).mono (fun _ _ h=>(few2 h hck).resolve_right (fun h3=>by obtain ⟨h4,d,_,_,h5,_⟩:=h3; exact jbt hnp h4 h5))) ?_;rintro r535 K536 ⟨hnp3,rfl,rfl⟩;refine au 6804235556661 ?_;refine bD Z Z Z Z ((zeP (b:=o) hlo hmo).mono (fun _ _ h=>(few2 h hco).resolve_right (fun h3=>by obtain ⟨h4,d,_,_,h5,_⟩:=h3; exact h2.np hnp h4 h5))) ?_;rintro r538 K539 ⟨hnp4,rfl,rfl⟩;refine au 0 ?_;rw [hkn];refine au 6804235556661 ?_;refine bD Z Z Z Z ((zfz hl hm).mono (fun _ _ h=>wid2 h hck)) ?_;rintro r541 K542 ⟨rfl,rfl⟩;refine au 6804235556661 ?_;refine bD Z Z Z Z ((zfz (b:=o) hlo hmo).mono (fun _ _ h=>wid2 h hco)) ?_;rintro r544 K545 ⟨rfl,rfl⟩;refine au 0 ?_;rw [h2.wid,hkn];refine au 17142235556661 ?_;refine bF 221 (fun g24_3=>?_) (fun g24_3=>?_)
     ·simp at g24_3
     refine au 125071 ?_;refine bF 225 (fun g24_7=>?_) (fun g24_7=>?_)
     ·simp at g24_7
     refine au 125034011 ?_;refine bF 230 (fun g24_12=>?_) (fun g24_12=>?_)
     ·simp at g24_12
     refine au 1250711 ?_;refine bF 235 (fun g24_17=>?_) (fun g24_17=>?_)
     ·simp at g24_17
     refine au 1250711 ?_;refine bF 240 (fun g24_22=>?_) (fun g24_22=>?_)
     ·simp at g24_22
     refine au 125034011 ?_;refine bF 245 (fun g24_27=>?_) (fun g24_27=>?_)
     ·simp at g24_27
     refine au 1250728012801 ?_;refine bF 252 (fun g24_34=>?_) (fun g24_34=>?_)
     ·simp at g24_34
     refine au 1250711 ?_;refine bF 257 (fun g24_39=>?_) (fun g24_39=>?_)
     ·simp at g24_39
     refine au 125034011 ?_;refine bF 262 (fun g24_44=>?_) (fun g24_44=>?_)
     ·simp at g24_44
     refine au 1250728012801 ?_;refine bF 269 (fun g24_51=>?_) (fun g24_51=>?_)
     ·simp at g24_51
     refine au 1250711 ?_;refine bF 274 (fun g24_56=>?_) (fun g24_56=>?_)
     ·simp at g24_56
     refine au 1250711 ?_;refine bF 279 (fun g24_61=>?_) (fun g24_61=>?_)
     ·simp at g24_61
     refine au 9325034011 ?_;constructor<;>intro hc2
     ·simp at hc2
     refine au 2120 ?_;refine bA [4,13] ?_;refine bC [(0,_),(s,_),(h,_),(e,_),(jb,_),(jd,_),(s2,_),(h2',_),(e2,_)] ?_;exact H () trivial
    ·refine au 680423555566661 ?_;refine bD Z Z Z Z ((zgQ (b:=o) hlo hmo).mono (fun _ _ h=>(best2 h hco).resolve_left (fun h3=>h2.pl hne hpl h3.1))) ?_;rintro r562 K563 ⟨hne2,d,jd2,ed,hql,rfl,rfl⟩;refine au 0 ?_;rw [(h2.rot.bestE hbb h2.oo hpl hql).1,(h2.rot.bestE hbb h2.oo hpl hql).2];refine au 680423555566661 ?_;refine bD Z Z Z Z ((zeP hl hm).mono (fun _ _ h=>(few2 h hck).resolve_left (fun h3=>jaF hne hpl h3.1))) ?_;rintro r565 K566 ⟨hne3,c2,jc2,ec2,hpf,rfl,rfl⟩;refine au 6804235556661 ?_;refine bD Z Z Z Z ((zeP (b:=o) hlo hmo).mono (fun _ _ h=>(few2 h hco).resolve_left (fun h3=>h2.pl hne hpl h3.1))) ?_;rintro r568 K569 ⟨hne4,d2,jd3,ed2,hqf,rfl,rfl⟩;refine au 0 ?_;rw [h2.rot.fewE hbb h2.oo hpf hqf];refine au 6804235556661 ?_;refine bD Z Z Z Z ((zfz hl hm).mono (fun _ _ h=>wid2 h hck)) ?_;rintro r571 K572 ⟨rfl,rfl⟩;refine au 6804235556661 ?_;refine bD Z Z Z Z ((zfz (b:=o) hlo hmo).mono (fun _ _ h=>wid2 h hco)) ?_;rintro r574 K575 ⟨rfl,rfl⟩;refine au 0 ?_;rw [h2.wid,hkn];refine au 17142235556661 ?_;refine bF 221 (fun g24_3=>?_) (fun g24_3=>?_)
     ·simp at g24_3
     refine au 125071 ?_;refine bF 225 (fun g24_7=>?_) (fun g24_7=>?_)
     ·simp at g24_7
     refine au 125034011 ?_;refine bF 230 (fun g24_12=>?_) (fun g24_12=>?_)
     ·simp at g24_12
     refine au 1250711 ?_;refine bF 235 (fun g24_17=>?_) (fun g24_17=>?_)
     ·simp at g24_17
     refine au 1250711 ?_;refine bF 240 (fun g24_22=>?_) (fun g24_22=>?_)
     ·simp at g24_22
     refine au 125034011 ?_;refine bF 245 (fun g24_27=>?_) (fun g24_27=>?_)
     ·simp at g24_27
     refine au 1250728012801 ?_;refine bF 252 (fun g24_34=>?_) (fun g24_34=>?_)
     ·simp at g24_34
     refine au 1250711 ?_;refine bF 257 (fun g24_39=>?_) (fun g24_39=>?_)
     ·simp at g24_39
     refine au 125034011 ?_;refine bF 262 (fun g24_44=>?_) (fun g24_44=>?_)
     ·simp at g24_44
     refine au 1250728012801 ?_;refine bF 269 (fun g24_51=>?_) (fun g24_51=>?_)
     ·simp at g24_51
     refine au 1250711 ?_;refine bF 274 (fun g24_56=>?_) (fun g24_56=>?_)
     ·simp at g24_56
     refine au 1250711 ?_;refine bF 279 (fun g24_61=>?_) (fun g24_61=>?_)
     ·simp at g24_61
     refine au 9325034011 ?_;constructor<;>intro hc2
     ·simp at hc2
     refine au 2120 ?_;refine bA [4,13] ?_;refine bC [(0,_),(s,_),(h,_),(e,_),(jb,_),(jd,_),(s2,_),(h2',_),(e2,_)] ?_;exact H () trivial
   ·rintro _ _;refine TK.na nQ ?_;refine au 6804 ?_;refine bD Z Z Z Z ((zfK hT hl hm).mono (fun _ _ h=>cls2 h hck)) ?_;rintro r577 K578 h579;rcases h579 with ⟨hcn,rfl,rfl⟩ | ⟨hnil,g,jg,eg,hg,rfl,rfl⟩
    ·refine au 68042355661 ?_;refine bD Z Z Z Z ((zfK (b:=o) hT hlo hmo).mono (fun _ _ h=>(cls2 h hco).resolve_right (fun h3=>by obtain ⟨h4,l,_,_,h5,_⟩:=h3; exact h2.cn hcn h4 h5))) ?_;rintro r580 K581 ⟨hcn2,rfl,rfl⟩;refine au 0 ?_;skip;refine au 171142355661 ?_;refine bF 297 (fun g28_4=>?_) (fun g28_4=>?_)
     ·refine au 1260728012801 ?_;refine bF 304 (fun g28_11=>?_) (fun g28_11=>?_)
      ·refine bD Z Z Z Z (zi6) ?_;rintro r583 K584 ⟨rfl,rfl⟩;refine au 35260 ?_;refine TK.rt hret [] ?_;rfl
      simp at g28_11
     simp at g28_4
    ·refine au 68042355661 ?_;refine bD Z Z Z Z ((zfK (b:=o) hT hlo hmo).mono (fun _ _ h=>(cls2 h hco).resolve_left (fun h3=>h2.cs hnil hg h3.1))) ?_;rintro r586 K587 ⟨hnil2,a,ja,ea,ha,rfl,rfl⟩;refine au 0 ?_;rw [(h2.rot.clashE hbb h2.oo h2.rev).2 g a hg ha];refine au 171142355661 ?_;refine bF 297 (fun g28_4=>?_) (fun g28_4=>?_)
     ·refine au 1260728012801 ?_;refine bF 304 (fun g28_11=>?_) (fun g28_11=>?_)
      ·refine bD Z Z Z Z (zi6) ?_;rintro r589 K590 ⟨rfl,rfl⟩;refine au 35260 ?_;refine TK.rt hret [] ?_;rfl
      simp at g28_11
     simp at g28_4
end Go.Vel
end
