/- The law RollStates: what is told of the states is what the reference tells. It holds of every program, tape and world that the statements name, as each theorem says. -/
import Derived.Test.YtamcohjpanjdiaaGreatDoorJ7
import Derived.Test.YtamcohjpanjdiaaGreatDoorStates0
section
set_option linter.all false
set_option maxRecDepth 20000
set_option maxHeartbeats 60000000
open Go.Proofs.Tryz renaming prog -> tp
open Go.Vel.TK renaming rt -> bB, cl -> bD, sp -> bF
namespace Go.Vel
open Go Go.Conc Go.Proofs
instance:Cal tp 79:={}
instance:Cal tp 80:={}
instance:Cal tp 81:={}
instance:Cal tp 82:={}
instance:Cal tp 83:={}
instance:Cal tp 84:={}
instance:Cal tp 85:={}
theorem x6 {b:RBk} {s h e:Nat} {j j2:Nat} {l st:List Int} {n:Int}:Top tp gmR 16 [.agg (zE b s h e),.sl j 0 l.length,.sl j2 0 st.length,intA n] [(0,zy),(s,zk b),(h,zB b),(e,zq b),(j,.cells (l.map intA) 3 false),(j2,.cells (st.map intA) 3 false)] (fun r _=>r=zP true):=by
 refine topI 164 Tryz.func16 fun R Y hret=>?_;have hT:=kI (P:=tp) (AtRet tp 16 R);refine au 21042 ?_;intro jb hjb;refine au 68042235 ?_;refine bD Z Z Z Z (zf0 hT) ?_;rintro r1 K2 ⟨rfl,rfl⟩;refine au 1 ?_;refine bF 27 (fun g1_3=>?_) (fun g1_3=>?_)
 ·refine au 4218032608881260888 ?_;refine bD Z Z Z Z (zi6) ?_;rintro r4 K5 ⟨rfl,rfl⟩;refine au 35 ?_;refine bB hret [] ?_;rfl
 refine au 125072801 ?_;refine bF 32 (fun g1_8=>?_) (fun g1_8=>?_)
 ·refine au 421803260888 ?_;refine bD Z Z Z Z (zi6) ?_;rintro r7 K8 ⟨rfl,rfl⟩;refine au 35 ?_;refine bB hret [] ?_;rfl
 refine au 9325072801 ?_;constructor<;>intro hc0
 ·refine au 42 ?_;refine bD Z Z Z Z (zi6) ?_;rintro r10 K11 ⟨rfl,rfl⟩;refine au 35 ?_;refine bB hret [] ?_;rfl
 have hg:greatM b=false:=g1_3;have hll:l.length<=1000:=by have:=of_decide_eq_false g1_8; omega
 have hst:st.length<=1000:=by have:=of_decide_eq_false hc0; omega
 have hlm:b.seams.length<=100/\b.measures.length<=100:=by unfold greatM at hg; simp at hg; omega
 obtain ⟨hl,hm⟩:=hlm;have hsi:(shF b n).length<=1000:=by
  unfold shF;split
  ·rename_i hz;have h1:=kg (zZ (kF (knB_0 hz).1));have h2:=ql ((zf b).map fun s=>zN s n.toNat);rw [List.length_map] at h2;unfold shrI; omega
  ·simp
 refine au 168042120 ?_;refine bD Z Z Z Z ((qD hT (j:=j2) (l:=st) hl hm hst).mono (fun _ _ h=>is_f h)) ?_;rintro r13 K14 ⟨rfl,rfl⟩;refine au 168042355661 ?_;refine bD Z Z Z Z (jaN hT (j:=j2) (l:=st) hl hm hst) ?_;rintro r16 K17 ⟨rfl,rfl⟩;refine au 68042355661 ?_;refine bD Z Z Z Z (uV hT hl hm) ?_;rintro r19 K20 ⟨rfl,rfl⟩;refine au 68042355661 ?_;refine bD Z Z Z Z (qk hT hl hm) ?_;rintro r22 K23 ⟨rfl,rfl⟩;refine au 168042355661 ?_;refine bD Z Z Z Z ((qF hT hl hm).mono (fun _ _ h=>sh_f h)) ?_;rintro r25 K26 h27;rcases h27 with ⟨hkn,rfl,rfl⟩ | ⟨hkn,j1,z1,rfl,rfl⟩
 ·refine au 168042355661 ?_;refine bD Z Z Z Z (xb hT hl hm) ?_;rintro r28 K29 ⟨js,rfl,rfl⟩;refine au 22355661 ?_;rw [xL hkn];refine TK.virt 17 3 1 Z fun jv hjv=>?_;refine au 0 ?_;refine TK.asSl 17 Z mQ ?_;refine TK.frzRow (j:=jv) ?_;refine au 1340114 ?_;refine bF 75 (fun g9_4=>?_) (fun g9_4=>?_)
  ·simp at g9_4
  refine au 1250711 ?_;refine bF 80 (fun g9_9=>?_) (fun g9_9=>?_)
  ·simp at g9_9
  refine au 1250711 ?_;refine bF 85 (fun g9_14=>?_) (fun g9_14=>?_)
  ·simp at g9_14
  refine au 1250711 ?_;refine bF 90 (fun g9_19=>?_) (fun g9_19=>?_)
  ·simp at g9_19
  refine au 11 ?_;refine bD Z Z Z Z (xi hT (xs:=[]) (ys:=[]) sQ) ?_;rintro r31 K32 ⟨rfl,rfl⟩;refine au 932507111250300 ?_;constructor<;>intro hc1
  ·simp [hkn] at hc1
  refine au 68042120 ?_;refine bD Z Z Z Z ((ze4 hT hl hm).mono (fun _ _ h=>new_f h)) ?_;rintro r34 K35 ⟨rfl,rfl⟩;refine au 220661 ?_;intro jx hjx;refine au 6804235170 ?_;refine bD Z Z Z Z (xS hT hl hm) ?_;rintro r37 K38 ⟨rfl,rfl⟩;refine au 220661 ?_;intro jy hjy;refine au 16804235170 ?_;refine bD Z Z Z Z ((zch hT (j:=j) (l:=l) hl hm hll).mono (fun _ _ h=>can_f h)) ?_;rintro r40 K41 ⟨rfl,rfl⟩;refine au 168042355661 ?_;refine bD Z Z Z Z (xR hT (j:=j) (l:=l) hl hm hll) ?_;rintro r43 K44 ⟨rfl,rfl⟩;refine au 680680422355661 ?_;refine TK.a Z (uS Z Z Z Z Z FlatF.h EqG.h) ?_;refine au 1 ?_;refine bF 126 (fun g15_4=>?_) (fun g15_4=>?_)
  ·simp at g15_4
  refine au 1250711 ?_;refine bF 131 (fun g15_9=>?_) (fun g15_9=>?_)
  ·simp at g15_9
  refine au 1250711 ?_;refine bF 136 (fun g15_14=>?_) (fun g15_14=>?_)
  ·simp at g15_14
  refine au 93250711 ?_;constructor<;>intro hc2
  ·simp at hc2
  refine au 168042120 ?_;refine bD Z Z Z Z ((uz hT (j:=j) (l:=l) hl hm hll).mono (fun _ _ h=>sq_f h)) ?_;rintro r46 K47 ⟨rfl,rfl⟩;refine au 16804235170661 ?_;refine bD Z Z Z Z (xc hT (j:=j) (l:=l) hl hm hll) ?_;rintro r49 K50 ⟨rfl,rfl⟩;refine au 6806804235170661 ?_;refine TK.a Z (zcX Z Z Z Z Z FlatF.h EqG.h) ?_;refine au 1 ?_;refine bF 156 (fun g19_4=>?_) (fun g19_4=>?_)
  ·refine au 1260711 ?_;refine bF 161 (fun g19_9=>?_) (fun g19_9=>?_)
   ·refine bD Z Z Z Z (zi6) ?_;rintro r52 K53 ⟨rfl,rfl⟩;refine au 35260 ?_;refine bB hret [] ?_;rfl
   simp at g19_9
  simp at g19_4
 ·refine au 0 ?_;rw [List.map_append];refine TK.cutC (j:=j1) ?_;refine au 168042355661 ?_;refine bD Z Z Z Z (xb hT hl hm) ?_;rintro r55 K56 ⟨js,rfl,rfl⟩;refine au 22355661 ?_;rw [qo hkn] at hsi ⊢;refine au 1340114 ?_;refine bF 75 (fun g9_4=>?_) (fun g9_4=>?_)
  ·simp at g9_4
  refine au 1250711 ?_;refine bF 80 (fun g9_9=>?_) (fun g9_9=>?_)
  ·simp at g9_9
  refine au 1250711 ?_;refine bF 85 (fun g9_14=>?_) (fun g9_14=>?_)
  ·simp at g9_14
  refine au 1250711 ?_;refine bF 90 (fun g9_19=>?_) (fun g9_19=>?_)
  ·simp at g9_19
  refine au 11 ?_;refine bD Z Z Z Z (xi hT (xs:=shrI b n) (ys:=shrI b n) hsi) ?_;rintro r58 K59 ⟨rfl,rfl⟩;refine au 932507111250300 ?_;constructor<;>intro hc1
  ·simp [hkn] at hc1
  refine au 68042120 ?_;refine bD Z Z Z Z ((ze4 hT hl hm).mono (fun _ _ h=>new_f h)) ?_;rintro r61 K62 ⟨rfl,rfl⟩;refine au 220661 ?_;intro jx hjx;refine au 6804235170 ?_;refine bD Z Z Z Z (xS hT hl hm) ?_;rintro r64 K65 ⟨rfl,rfl⟩;refine au 220661 ?_;intro jy hjy;refine au 16804235170 ?_;refine bD Z Z Z Z ((zch hT (j:=j) (l:=l) hl hm hll).mono (fun _ _ h=>can_f h)) ?_;rintro r67 K68 ⟨rfl,rfl⟩;refine au 168042355661 ?_;refine bD Z Z Z Z (xR hT (j:=j) (l:=l) hl hm hll) ?_;rintro r70 K71 ⟨rfl,rfl⟩;refine au 680680422355661 ?_;refine TK.a Z (uS Z Z Z Z Z FlatF.h EqG.h) ?_;refine au 1 ?_;refine bF 126 (fun g15_4=>?_) (fun g15_4=>?_)
  ·simp at g15_4
  refine au 1250711 ?_;refine bF 131 (fun g15_9=>?_) (fun g15_9=>?_)
  ·simp at g15_9
  refine au 1250711 ?_;refine bF 136 (fun g15_14=>?_) (fun g15_14=>?_)
  ·simp at g15_14
  refine au 93250711 ?_;constructor<;>intro hc2
  ·simp at hc2
  refine au 168042120 ?_;refine bD Z Z Z Z ((uz hT (j:=j) (l:=l) hl hm hll).mono (fun _ _ h=>sq_f h)) ?_;rintro r73 K74 ⟨rfl,rfl⟩;refine au 16804235170661 ?_;refine bD Z Z Z Z (xc hT (j:=j) (l:=l) hl hm hll) ?_;rintro r76 K77 ⟨rfl,rfl⟩;refine au 6806804235170661 ?_;refine TK.a Z (zcX Z Z Z Z Z FlatF.h EqG.h) ?_;refine au 1 ?_;refine bF 156 (fun g19_4=>?_) (fun g19_4=>?_)
  ·refine au 1260711 ?_;refine bF 161 (fun g19_9=>?_) (fun g19_9=>?_)
   ·refine bD Z Z Z Z (zi6) ?_;rintro r79 K80 ⟨rfl,rfl⟩;refine au 35260 ?_;refine bB hret [] ?_;rfl
   simp at g19_9
  simp at g19_4
end Go.Vel
end
