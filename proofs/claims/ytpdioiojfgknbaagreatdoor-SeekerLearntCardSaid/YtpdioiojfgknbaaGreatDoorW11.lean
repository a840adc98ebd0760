/- The law SeekerLearnt: what is said, seen or lent never adds a state, and takes back nothing that was sure. It holds of every program, tape and world that the statements name, as each theorem says. -/
import Derived.Test.YtpdioiojfgknbaaGreatDoorW9
import Derived.Test.YtpdioiojfgknbaaGreatDoorW10
section
set_option linter.all false
set_option maxRecDepth 20000
set_option maxHeartbeats 60000000
namespace Go.Vel
open Go Go.Conc Go.Proofs
theorem lawLearnt_top {R : Value → World → Prop} {b : Bk} {s e : Nat} {x : Says} {sm : Bool} {k3 k4 k5 k6 k7 : Int} (hse : s ≠ e) (hk3 : 0 ≤ k3 ∧ k3 < 256) (hk4 : 0 ≤ k4 ∧ k4 < 256) (hk5 : 0 ≤ k5 ∧ k5 < 256) (hk6 : 0 ≤ k6 ∧ k6 < 256) (hk7 : 0 ≤ k7 ∧ k7 < 256) {A : List AObj} {φ : Nat → Loc3} {F H : Hp} {vs : Array Value} (hv : View [(0, checksG), (1, saysG), (s, saysO b), (e, seenO b)] A) (hn0 : (keys [(0, checksG), (1, saysG), (s, saysO b), (e, seenO b)]).Nodup) (hg : RelG gmS φ A.length) (hH : RelH φ A F H) (hargs : RelL φ A.length [.agg (bookC b s e), .agg (saysC x), boolA sm, .v (.int .u8 k3), .v (.int .u8 k4), .v (.int .u8 k5), .v (.int .u8 k6), .v (.int .u8 k7)] vs)
  (hR : ∀ r K' φ' A' H' v w, (fun r K' => r = boolA true ∧ K' = [(0, checksG), (1, saysG), (s, saysO b), (e, seenO b)]) r K' → RelH φ' A' F H' → RelV φ' A'.length r v → Fits H' w → R v w) : BT Tryz.prog (AtRet Tryz.prog 3 R) (G (Frame.enter Tryz.prog 3 vs .normal) []) H := by
 have hT := shut_BT tame (AtRet Tryz.prog 3 R)
 refine topK_in 191 tame (Post := fun r K' => r = boolA true ∧ K' = [(0, checksG), (1, saysG), (s, saysO b), (e, seenO b)]) Tryz.func3 hv hn0 hg hH hargs hR fun Y hret => ?_
 refine au [4, 5, 21] ?_
 intro jb hjb
 refine au [21] ?_
 intro jx hjx
 refine au [2, 3, 4, 4, 5, 8] ?_
 refine TK.cl rfl rfl rfl rfl (fit_ok hT hse) ?_
 rintro r1 K2 ⟨rfl, rfl⟩
 refine au [30, 1] ?_
 refine TK.sp 27 (fun g1_4 => ?_) (fun g1_4 => ?_)
 ·refine au [11, 11, 11, 11, 26, 3, 18, 4, 5] ?_
  refine TK.cl rfl rfl rfl rfl (sought_ok tame) ?_
  rintro r4 K5 ⟨rfl, rfl⟩
  refine au [2, 3] ?_
  refine TK.rt hret [(0, _), (1, _), (s, _), (e, _)] ?_
  exact ⟨rfl, rfl⟩
 have hf := fit_of (b := b) (by simpa using g1_4)
 have hck := hf.check
 have hb := bkOk_of hck
 have hst := hb.steps
 have hns := hb.ns
 have m3 := Int.emod_nonneg k3 (show b.steps ≠ 0 by omega)
 have m3' := Int.emod_lt_of_pos k3 (show 0 < b.steps by omega)
 have m5 := Int.emod_nonneg k5 (show b.steps ≠ 0 by omega)
 have m5' := Int.emod_lt_of_pos k5 (show 0 < b.steps by omega)
 have m6 := Int.emod_nonneg k6 (show b.steps ≠ 0 by omega)
 have m6' := Int.emod_lt_of_pos k6 (show 0 < b.steps by omega)
 have hne := hb.ne
 refine au [7, 9, 29, 6, 25, 3, 20] ?_
 refine ⟨fun hc0 => ?_, fun hc0 => ?_⟩
 ·refine au [4, 5] ?_
  refine TK.cl rfl rfl rfl rfl (sought_ok tame) ?_
  rintro r7 K8 ⟨rfl, rfl⟩
  refine au [2, 3] ?_
  refine TK.rt hret [(0, _), (1, _), (s, _), (e, _)] ?_
  exact ⟨rfl, rfl⟩
 have hx : x.name.size ≤ 1000 := by have := of_decide_eq_false hc0; omega
 refine au [12, 4] ?_
 refine TK.draw [0, 1, 2, 3, 4, 5, 6, 7, 8, 9, 10, 11, 12, 13, 14, 15, 16] [0, 1, 2, 3, 4, 11, 12, 13, 14, 5, 6, 7, 8, 9, 10, 15, 16] (by kernel_rfl) (by kernel_rfl) ?_
 refine TD.z [5] rfl (q_move rfl rfl) ?_
 refine TD.z [34] rfl (q_convInt rfl rfl Und.h Und.h (wrap_i64 (by omega))) ?_
 refine TD.z [8] rfl (q_fieldAddr rfl rfl FldOf.h (by decide)) ?_
 refine TD.y [36] rfl (hq := q_load1 rfl rfl TySz.h (List.Mem.head _) rfl) (h := ?_)
 refine TD.z [35, 37] rfl (q_rem rfl rfl rfl (by omega) (by omega)) ?_
 refine TD.z [6] rfl (q_move rfl rfl) ?_
 refine TD.z [39] rfl (q_convInt rfl rfl Und.h Und.h (wrap_i64 (by omega))) ?_
 refine TD.z [8] rfl (q_fieldAddr rfl rfl FldOf.h (by decide)) ?_
 refine TD.y [41] rfl (hq := q_load1 rfl rfl TySz.h (List.Mem.head _) rfl) (h := ?_)
 refine TD.z [40, 42] rfl (q_rem rfl rfl rfl (by omega) (by omega)) ?_
 refine TD.z [43] rfl (q_add rfl rfl rfl (by omega)) ?_
 refine TD.y [8] rfl (hq := q_load rfl rfl TySz.h (List.Mem.head _) rfl) (h := ?_)
 refine TD.z [7] rfl (q_move rfl rfl) ?_
 refine TD.cl (pend' := [⟨10, [43], []⟩, ⟨9, [40, 42], []⟩, ⟨8, [41], [(_, _)]⟩, ⟨7, [8], []⟩, ⟨6, [39], []⟩, ⟨5, [6], []⟩, ⟨4, [35, 37], []⟩, ⟨3, [36], [(_, _)]⟩, ⟨2, [8], []⟩, ⟨1, [34], []⟩, ⟨0, [5], []⟩]) [45, 46] rfl rfl rfl rfl rfl (who_ok hT hk7 hf.says) (fun r10 K11 h12 => ⟨?_, ?_⟩)
 ·rcases h12 with ⟨rfl, rfl⟩
  all_goals simp
 obtain ⟨rfl, rfl⟩ := h12
 try simp only [List.cons_append, List.nil_append]
 refine TD.norm (by simp only [List.set]; rfl) ?_
 refine TD.as (pend' := [⟨10, [43], []⟩, ⟨9, [40, 42], []⟩, ⟨8, [41], [(_, _)]⟩, ⟨7, [8], []⟩, ⟨6, [39], []⟩, ⟨5, [6], []⟩]) [38] rfl rfl (q_assign rfl rfl) ?_
 refine TD.as (pend' := []) [44] rfl rfl (q_assign rfl rfl) ?_
 refine TD.as (pend' := []) [47] rfl rfl (q_assign rfl rfl) ?_
 refine TD.fin ?_
 refine au [4, 5, 8, 8] ?_
 refine TK.cl rfl rfl rfl rfl (hear_ok hT (x := x) hse hf.names hf.seen hx) ?_
 rintro r13 K14 h15
 rcases h15 with ⟨hn0, rfl, rfl⟩ | ⟨hn0, j3, j2, rfl, rfl⟩
 ·refine au [1, 10, 10, 22] ?_
  intro jo hjo
  refine au [17, 2, 3, 4, 4] ?_
  refine TK.draw [0, 1, 2, 3, 4, 5, 6, 7, 8, 9, 10, 11, 12, 13, 14, 15, 16, 17, 18, 19, 20, 21, 22, 23, 24, 25, 26, 27, 28, 29, 30, 31, 32, 33] [0, 1, 2, 3, 4, 5, 6, 7, 8, 9, 10, 11, 12, 13, 14, 15, 16, 17, 18, 19, 20, 21, 22, 23, 24, 25, 26, 27, 28, 29, 30, 31, 32, 33] (by kernel_rfl) (by kernel_rfl) ?_
  refine TD.z [21] rfl (q_move rfl rfl) ?_
  refine TD.z [54] rfl (q_cmp rfl rfl rfl rfl) ?_
  refine TD.z [55] rfl (q_move rfl rfl) ?_
  refine TD.sp 56 (fun g5_3 => ?_) (fun g5_3 => ?_)
  ·exact absurd (by simpa using g5_3) hn0
  skip
  refine TD.u [20, 56] rfl ?_
  refine TD.u [8, 56] rfl ?_
  refine TD.u [9, 56] rfl ?_
  refine TD.u [56, 58, 59] rfl ?_
  refine TD.u [56, 57, 60] rfl ?_
  refine TD.u [56, 61] rfl ?_
  refine TD.u [56, 62] rfl ?_
  refine TD.u [20, 63] rfl ?_
  refine TD.u [63, 64] rfl ?_
  refine TD.u [63, 65] rfl ?_
  refine TD.u [56, 63, 66] rfl ?_
  refine TD.u [56, 67] rfl ?_
  refine TD.u [8, 68] rfl ?_
  refine TD.u [20, 68] rfl ?_
  refine TD.u [17, 68] rfl ?_
  refine TD.u [18, 68] rfl ?_
  refine TD.u [19, 68] rfl ?_
  refine TD.u [68, 69, 70, 71, 72, 73] rfl ?_
  refine TD.u [68, 74] rfl ?_
  refine TD.u [56, 68, 75] rfl ?_
  refine TD.z [56, 76] rfl (q_pickF rfl rfl rfl) ?_
  refine TD.z [77] rfl (q_move rfl rfl) ?_
  refine TD.z [21, 78] rfl (q_move rfl rfl) ?_
  refine TD.z [78, 79] rfl (q_cmp rfl rfl rfl rfl) ?_
  refine TD.z [78, 80] rfl (q_move rfl rfl) ?_
  refine TD.sp 81 (fun g5_28 => ?_) (fun g5_28 => ?_)
  ·skip
   refine TD.y [20, 81] rfl (hq := q_load rfl rfl TySz.h (List.Mem.head _) rfl) (h := ?_)
   refine TD.z [81] rfl (q_build (l := [_, _, _, _, _, _]) rfl TyZ.h BlOf.h rfl) ?_
   refine TD.cl (pend' := [⟨26, [78, 79], []⟩, ⟨25, [21, 78], []⟩, ⟨24, [77], []⟩, ⟨23, [56, 76], []⟩, ⟨22, [56, 68, 75], []⟩, ⟨21, [68, 74], []⟩, ⟨20, [68, 69, 70, 71, 72, 73], []⟩, ⟨19, [19, 68], []⟩, ⟨18, [18, 68], []⟩, ⟨17, [17, 68], []⟩, ⟨16, [20, 68], []⟩, ⟨15, [8, 68], []⟩, ⟨14, [56, 67], []⟩, ⟨13, [56, 63, 66], []⟩, ⟨12, [63, 65], []⟩, ⟨11, [63, 64], []⟩, ⟨10, [20, 63], []⟩, ⟨9, [56, 62], []⟩, ⟨8, [56, 61], []⟩, ⟨7, [56, 57, 60], []⟩, ⟨6, [56, 58, 59], []⟩, ⟨5, [9, 56], []⟩, ⟨4, [8, 56], []⟩, ⟨3, [20, 56], []⟩, ⟨2, [55], []⟩, ⟨1, [54], []⟩, ⟨0, [21], []⟩]) [81, 82, 83] rfl rfl rfl rfl rfl (same0_ok hT) (fun r16 K17 h18 => ⟨?_, ?_⟩)
   ·rcases h18 with ⟨rfl, rfl⟩
    all_goals simp
   obtain ⟨rfl, rfl⟩ := h18
   try simp only [List.cons_append, List.nil_append]
   refine TD.norm (by simp only [List.set]; rfl) ?_
   refine TD.z [81, 84] rfl (q_not rfl rfl) ?_
   refine TD.z [78, 81, 85] rfl (q_pickT rfl rfl rfl) ?_
   refine TD.z [78, 86] rfl (q_pickF rfl rfl rfl) ?_
   refine TD.fin ?_
   refine au [20] ?_
   refine ⟨fun hc1 => ?_, fun hc1 => ?_⟩
   ·cases hc1
   refine au [12, 4] ?_
   refine TK.kp [(jo, .cells [_, _, _, _, _, _] 27 true), (jx, _), (jb, _), (0, _), (1, _), (s, _), (e, _)] ?_
   refine au [5, 1] ?_
   refine TK.a rfl (q_convInt rfl rfl Und.h Und.h (wrap_i64 (by omega))) ?_
   refine au [7, 9] ?_
   refine TK.a rfl (q_rem rfl rfl rfl (by omega) (by omega)) ?_
   refine au [1, 39, 22] ?_
   intro jS hjS
   refine au [17, 3, 4, 5, 8, 7, 9, 1] ?_
   refine TK.cl rfl rfl rfl rfl (look_ok hT (n := k3 % b.steps) (sm := sm) hse hf.names hf.seen) ?_
   rintro r19 K20 h21
   rcases h21 with ⟨hn1, rfl, rfl⟩ | ⟨hn1, j7, j8, rfl, rfl⟩
   ·refine au [] ?_
    have hst1 := step_emod hb k3
    have hnl := news_look (x := ⟨k3 % b.steps, sm⟩) hck hst1 hn1
    refine au [1, 10, 10, 17, 2, 3, 4, 4] ?_
    refine TK.draw [0, 1, 2, 3, 4, 5, 6, 7, 8, 9, 10, 11, 12, 13, 14, 15, 16, 17, 18, 19, 20, 21, 22, 23, 24, 25, 26, 27, 28, 29, 30, 31, 32, 33, 34, 35, 36, 37, 38, 39, 40, 41] [0, 1, 2, 3, 4, 5, 6, 7, 8, 9, 10, 11, 12, 13, 14, 15, 16, 17, 18, 19, 20, 21, 22, 23, 24, 25, 26, 27, 28, 29, 30, 31, 32, 33, 34, 35, 36, 37, 38, 39, 40, 41] (by kernel_rfl) (by kernel_rfl) ?_
    refine TD.z [21] rfl (q_move rfl rfl) ?_
    refine TD.z [103] rfl (q_cmp rfl rfl rfl rfl) ?_
    refine TD.z [104] rfl (q_move rfl rfl) ?_
    refine TD.sp 105 (fun g9_3 => ?_) (fun g9_3 => ?_)
    ·exact absurd (by simpa using g9_3) hn1
    skip
    refine TD.u [20, 105] rfl ?_
    refine TD.u [8, 105] rfl ?_
    refine TD.u [22, 105] rfl ?_
    refine TD.u [105, 107, 108] rfl ?_
    refine TD.u [105, 106, 109] rfl ?_
    refine TD.u [105, 110] rfl ?_
    refine TD.u [105, 111] rfl ?_
    refine TD.u [20, 112] rfl ?_
    refine TD.u [112, 113] rfl ?_
    refine TD.u [112, 114] rfl ?_
    refine TD.u [105, 112, 115] rfl ?_
    refine TD.u [105, 116] rfl ?_
    refine TD.u [8, 117] rfl ?_
    refine TD.u [20, 117] rfl ?_
    refine TD.u [17, 117] rfl ?_
    refine TD.u [18, 117] rfl ?_
    refine TD.u [19, 117] rfl ?_
    refine TD.u [117, 118, 119, 120, 121, 122] rfl ?_
    refine TD.u [117, 123] rfl ?_
    refine TD.u [105, 117, 124] rfl ?_
    refine TD.z [105, 125] rfl (q_pickF rfl rfl rfl) ?_
    refine TD.z [126] rfl (q_move rfl rfl) ?_
    refine TD.z [21, 127] rfl (q_move rfl rfl) ?_
    refine TD.z [127, 128] rfl (q_cmp rfl rfl rfl rfl) ?_
    refine TD.z [127, 129] rfl (q_move rfl rfl) ?_
    refine TD.sp 130 (fun g9_28 => ?_) (fun g9_28 => ?_)
    ·skip
     refine TD.z [21, 130] rfl (q_move rfl rfl) ?_
     refine TD.z [130, 131] rfl (q_cmp rfl rfl rfl rfl) ?_
     refine TD.z [130, 132] rfl (q_move rfl rfl) ?_
     refine TD.sp 133 (fun g9_31 => ?_) (fun g9_31 => ?_)
     ·refine TD.z [21, 133] rfl (q_move rfl rfl) ?_
      refine TD.z [133, 134] rfl (q_cmp rfl rfl rfl rfl) ?_
      refine TD.z [130, 133, 135] rfl (q_pickT rfl rfl rfl) ?_
      refine TD.z [130, 136] rfl (q_move rfl rfl) ?_
      refine TD.sp 137 (fun g9_35 => ?_) (fun g9_35 => ?_)
      ·rcases hnl with h | h
       ·rw [h] at g9_31; cases g9_31
       ·rw [h] at g9_35; cases g9_35
      refine TD.y [20, 137] rfl (hq := q_load rfl rfl TySz.h (List.Mem.head _) rfl) (h := ?_)
      refine TD.z [137] rfl (q_build (l := [_, _, _, _, _, _]) rfl TyZ.h BlOf.h rfl) ?_
      refine TD.cl (pend' := [⟨33, [130, 133, 135], []⟩, ⟨32, [133, 134], []⟩, ⟨31, [21, 133], []⟩, ⟨30, [130, 132], []⟩, ⟨29, [130, 131], []⟩, ⟨28, [21, 130], []⟩, ⟨27, [127, 129], []⟩, ⟨26, [127, 128], []⟩, ⟨25, [21, 127], []⟩, ⟨24, [126], []⟩, ⟨23, [105, 125], []⟩, ⟨22, [105, 117, 124], []⟩, ⟨21, [117, 123], []⟩, ⟨20, [117, 118, 119, 120, 121, 122], []⟩, ⟨19, [19, 117], []⟩, ⟨18, [18, 117], []⟩, ⟨17, [17, 117], []⟩, ⟨16, [20, 117], []⟩, ⟨15, [8, 117], []⟩, ⟨14, [105, 116], []⟩, ⟨13, [105, 112, 115], []⟩, ⟨12, [112, 114], []⟩, ⟨11, [112, 113], []⟩, ⟨10, [20, 112], []⟩, ⟨9, [105, 111], []⟩, ⟨8, [105, 110], []⟩, ⟨7, [105, 106, 109], []⟩, ⟨6, [105, 107, 108], []⟩, ⟨5, [22, 105], []⟩, ⟨4, [8, 105], []⟩, ⟨3, [20, 105], []⟩, ⟨2, [104], []⟩, ⟨1, [103], []⟩, ⟨0, [21], []⟩]) [137, 138, 139] rfl rfl rfl rfl rfl (same0_ok hT) (fun r22 K23 h24 => ⟨?_, ?_⟩)
      ·rcases h24 with ⟨rfl, rfl⟩
       all_goals simp
      obtain ⟨rfl, rfl⟩ := h24
      try simp only [List.cons_append, List.nil_append]
      refine TD.norm (by simp only [List.set]; rfl) ?_
      refine TD.z [137, 140] rfl (q_not rfl rfl) ?_
      refine TD.z [130, 137, 141] rfl (q_pickF rfl rfl rfl) ?_
      refine TD.z [127, 130, 142] rfl (q_pickT rfl rfl rfl) ?_
      refine TD.z [127, 143] rfl (q_pickF rfl rfl rfl) ?_
      refine TD.fin ?_
      refine au [20] ?_
      refine ⟨fun hc2 => ?_, fun hc2 => ?_⟩
      ·cases hc2
      refine au [12, 4, 4] ?_
      refine TK.kp [(jo, .cells [_, _, _, _, _, _] 27 true), (jx, _), (jb, _), (0, _), (1, _), (s, _), (e, _)] ?_
      refine au [5, 7, 9, 28, 6, 3, 20] ?_
      refine ⟨fun hc3 => ?_, fun hc3 => ?_⟩
      ·refine au [4, 5] ?_
       refine TK.cl rfl rfl rfl rfl (sought_ok tame) ?_
       rintro r25 K26 ⟨rfl, rfl⟩
       refine au [2, 3] ?_
       refine TK.rt hret [(0, _), (1, _), (s, _), (e, _)] ?_
       exact ⟨rfl, rfl⟩
      obtain ⟨q, hq, hql⟩ := who_some k4 (by simpa using hc3)
      refine au [12, 4, 5, 8, 1] ?_
      refine TK.cl rfl rfl rfl rfl (who_ok hT hk4 hf.says) ?_
      rintro r28 K29 ⟨rfl, rfl⟩
      refine au [] ?_
      rw [hq]
      refine au [2, 3, 4, 5, 8, 1] ?_
      refine TK.cl rfl rfl rfl rfl (give_ok hT (n := (q : Int)) hse hf.names hf.seen) ?_
      rintro r31 K32 h33
      rcases h33 with ⟨hn2, rfl, rfl⟩ | ⟨hn2, j10, j11, rfl, rfl⟩
      ·refine au [] ?_
       have hgb := give_bar hck hql hn2
       refine au [1, 10, 10, 17, 2, 3, 4, 4, 5, 1, 6, 3, 20] ?_
       refine ⟨fun hc4 => ?_, fun hc4 => ?_⟩
       ·skip
        refine au [4, 5, 1, 6, 1] ?_
        refine TK.sp 163 (fun g16_3 => ?_) (fun g16_3 => ?_)
        ·refine au [11, 11, 26, 1, 8, 43] ?_
         refine TK.cl rfl rfl rfl rfl (same0_ok hT) ?_
         rintro r34 K35 ⟨rfl, rfl⟩
         refine au [26, 1] ?_
         refine TK.sp 172 (fun g16_12 => ?_) (fun g16_12 => ?_)
         ·refine TK.cl rfl rfl rfl rfl (sought_ok tame) ?_
          rintro r37 K38 ⟨rfl, rfl⟩
          refine au [26, 2, 3] ?_
          refine TK.rt hret [(0, _), (1, _), (s, _), (e, _)] ?_
          exact ⟨rfl, rfl⟩
         cases g16_12
        refine au [1, 6, 25, 1] ?_
        refine TK.sp 167 (fun g16_7 => ?_) (fun g16_7 => ?_)
        ·refine au [8, 43] ?_
         refine TK.cl rfl rfl rfl rfl (same0_ok hT) ?_
         rintro r40 K41 ⟨rfl, rfl⟩
         refine au [26, 1] ?_
         refine TK.sp 172 (fun g16_12 => ?_) (fun g16_12 => ?_)
         ·refine TK.cl rfl rfl rfl rfl (sought_ok tame) ?_
          rintro r43 K44 ⟨rfl, rfl⟩
          refine au [26, 2, 3] ?_
          refine TK.rt hret [(0, _), (1, _), (s, _), (e, _)] ?_
          exact ⟨rfl, rfl⟩
         cases g16_12
        rcases hgb with h | h
        ·rw [h] at g16_3; cases g16_3
        ·rw [h] at g16_7; cases g16_7
       exact absurd (by simpa using hc4) hn2
      ·refine au [] ?_
       obtain ⟨hgf, hcg, hsg⟩ := give_zero hck hql hn2
       refine TK.nd fun hnd => ?_
       have hj1011 : j10 ≠ j11 := fun h => by subst h; simp [keys] at hnd
       refine au [1, 10, 10, 17, 2, 3, 4, 4, 5, 1, 6, 3, 20] ?_
       refine ⟨fun hc4 => ?_, fun hc4 => ?_⟩
       ·cases hc4
       skip
       refine au [12, 4] ?_
       refine TK.draw [0, 1, 2, 3, 4, 5, 6, 7, 8, 9, 10, 11, 12, 13, 14, 15, 16] [0, 1, 2, 3, 4, 5, 6, 7, 8, 9, 10, 11, 12, 13, 14, 15, 16] (by kernel_rfl) (by kernel_rfl) ?_
       refine TD.y [20] rfl (hq := q_load rfl rfl TySz.h (List.Mem.head _) rfl) (h := ?_)
       refine TD.y [8] rfl (hq := q_load rfl rfl TySz.h (List.Mem.head _) rfl) (h := ?_)
       refine TD.z [23] rfl (q_move rfl rfl) ?_
       refine TD.cl (pend' := [⟨0, [20], [(_, _)]⟩]) [176, 177] rfl rfl rfl rfl rfl (givenR_ok hT hf.says hql) (fun r46 K47 h48 => ⟨?_, ?_⟩)
       ·rcases h48 with ⟨j12, rfl, rfl⟩
        all_goals simp
       obtain ⟨j12, rfl, rfl⟩ := h48
       try simp only [List.cons_append, List.nil_append]
       refine TD.norm (by simp only [List.set]; rfl) ?_
       refine TD.cl (pend' := []) [175, 178] rfl rfl rfl rfl rfl (sameB_ok hT (b := (giveB b q)) (s1 := j10) (e1 := j11) (s2 := j12) (e2 := e) (by simp [hearB, lookB, giveB]; omega) (by simp [hearB, lookB, giveB]; omega)) (fun r49 K50 h51 => ⟨?_, ?_⟩)
       ·rcases h51 with ⟨rfl, rfl⟩
        all_goals simp
       obtain ⟨rfl, rfl⟩ := h51
       try simp only [List.cons_append, List.nil_append]
       refine TD.norm (by simp only [List.set]; rfl) ?_
       refine TD.z [179] rfl (q_move rfl rfl) ?_
       refine TD.sp 180 (fun g17_6 => ?_) (fun g17_6 => ?_)
       ·refine TD.y [8, 180] rfl (hq := q_load rfl rfl TySz.h (List.Mem.head _) rfl) (h := ?_)
        refine TD.y [20, 180] rfl (hq := q_load rfl rfl TySz.h (List.Mem.head _) rfl) (h := ?_)
        refine TD.z [17, 180] rfl (q_move rfl rfl) ?_
        refine TD.z [18, 180] rfl (q_move rfl rfl) ?_
        refine TD.z [19, 180] rfl (q_move rfl rfl) ?_
        refine TD.cl (pend' := []) [180, 181, 182, 183, 184, 185] rfl rfl rfl rfl rfl (better_ok tame (was := b) (now := (giveB b q)) (lo := k5 % b.steps) (w := 1 + k6 % b.steps) (wh := whoM b k7) (less_give hb (bkOk_of hcg) hql hsg) hck (hcg) hse hj1011 hf.names (give_names hf.names) hf.seen (hf.seen) ⟨m5, m5'⟩ ⟨by omega, by omega⟩ ((who_is k7).imp id fun ⟨q, h1, h2⟩ => ⟨q, h1, h2, by rw [giveB_len]; exact h2, fun S _ => right_give _ _ _ _⟩)) (fun r52 K53 h54 => ⟨?_, ?_⟩)
        ·rcases h54 with ⟨rfl, rfl⟩
         all_goals simp
        obtain ⟨rfl, rfl⟩ := h54
        try simp only [List.cons_append, List.nil_append]
        refine TD.norm (by simp only [List.set]; rfl) ?_
        refine TD.z [180, 186] rfl (q_pickT rfl rfl rfl) ?_
        refine TD.z [187] rfl (q_move rfl rfl) ?_
        refine TD.sp 188 (fun g17_14 => ?_) (fun g17_14 => ?_)
        ·refine TD.cl (pend' := [⟨12, [180, 186], []⟩]) [188] rfl rfl rfl rfl rfl (sought_ok tame) (fun r55 K56 h57 => ⟨?_, ?_⟩)
         ·rcases h57 with ⟨rfl, rfl⟩
          all_goals simp
         obtain ⟨rfl, rfl⟩ := h57
         try simp only [List.cons_append, List.nil_append]
         refine TD.norm (by simp only [List.set]; rfl) ?_
         refine TD.z [188, 189] rfl (q_pickT rfl rfl rfl) ?_
         refine TD.as (pend' := []) [190] rfl rfl (q_assign rfl rfl) ?_
         refine TD.fin ?_
         refine au [] ?_
         refine TK.rt hret [(0, _), (1, _), (s, _), (e, _)] ?_
         exact ⟨rfl, rfl⟩
        cases g17_14
       cases g17_6
     refine TD.u [21, 133] rfl ?_
     refine TD.u [133, 134] rfl ?_
     refine TD.z [130, 133, 135] rfl (q_pickF rfl rfl rfl) ?_
     refine TD.z [130, 136] rfl (q_move rfl rfl) ?_
     refine TD.y [20, 137] rfl (hq := q_load rfl rfl TySz.h (List.Mem.head _) rfl) (h := ?_)
     refine TD.z [137] rfl (q_build (l := [_, _, _, _, _, _]) rfl TyZ.h BlOf.h rfl) ?_
     refine TD.cl (pend' := [⟨33, [130, 133, 135], []⟩, ⟨32, [133, 134], []⟩, ⟨31, [21, 133], []⟩, ⟨30, [130, 132], []⟩, ⟨29, [130, 131], []⟩, ⟨28, [21, 130], []⟩, ⟨27, [127, 129], []⟩, ⟨26, [127, 128], []⟩, ⟨25, [21, 127], []⟩, ⟨24, [126], []⟩, ⟨23, [105, 125], []⟩, ⟨22, [105, 117, 124], []⟩, ⟨21, [117, 123], []⟩, ⟨20, [117, 118, 119, 120, 121, 122], []⟩, ⟨19, [19, 117], []⟩, ⟨18, [18, 117], []⟩, ⟨17, [17, 117], []⟩, ⟨16, [20, 117], []⟩, ⟨15, [8, 117], []⟩, ⟨14, [105, 116], []⟩, ⟨13, [105, 112, 115], []⟩, ⟨12, [112, 114], []⟩, ⟨11, [112, 113], []⟩, ⟨10, [20, 112], []⟩, ⟨9, [105, 111], []⟩, ⟨8, [105, 110], []⟩, ⟨7, [105, 106, 109], []⟩, ⟨6, [105, 107, 108], []⟩, ⟨5, [22, 105], []⟩, ⟨4, [8, 105], []⟩, ⟨3, [20, 105], []⟩, ⟨2, [104], []⟩, ⟨1, [103], []⟩, ⟨0, [21], []⟩]) [137, 138, 139] rfl rfl rfl rfl rfl (same0_ok hT) (fun r58 K59 h60 => ⟨?_, ?_⟩)
     ·rcases h60 with ⟨rfl, rfl⟩
      all_goals simp
     obtain ⟨rfl, rfl⟩ := h60
     try simp only [List.cons_append, List.nil_append]
     refine TD.norm (by simp only [List.set]; rfl) ?_
     refine TD.z [137, 140] rfl (q_not rfl rfl) ?_
     refine TD.z [130, 137, 141] rfl (q_pickF rfl rfl rfl) ?_
     refine TD.z [127, 130, 142] rfl (q_pickT rfl rfl rfl) ?_
     refine TD.z [127, 143] rfl (q_pickF rfl rfl rfl) ?_
     refine TD.fin ?_
     refine au [20] ?_
     refine ⟨fun hc2 => ?_, fun hc2 => ?_⟩
     ·cases hc2
     refine au [12, 4, 4] ?_
     refine TK.kp [(jo, .cells [_, _, _, _, _, _] 27 true), (jx, _), (jb, _), (0, _), (1, _), (s, _), (e, _)] ?_
     refine au [5, 7, 9, 28, 6, 3, 20] ?_
     refine ⟨fun hc3 => ?_, fun hc3 => ?_⟩
     ·refine au [4, 5] ?_
      refine TK.cl rfl rfl rfl rfl (sought_ok tame) ?_
      rintro r61 K62 ⟨rfl, rfl⟩
      refine au [2, 3] ?_
      refine TK.rt hret [(0, _), (1, _), (s, _), (e, _)] ?_
      exact ⟨rfl, rfl⟩
     obtain ⟨q, hq, hql⟩ := who_some k4 (by simpa using hc3)
     refine au [12, 4, 5, 8, 1] ?_
     refine TK.cl rfl rfl rfl rfl (who_ok hT hk4 hf.says) ?_
     rintro r64 K65 ⟨rfl, rfl⟩
     refine au [] ?_
     rw [hq]
     refine au [2, 3, 4, 5, 8, 1] ?_
     refine TK.cl rfl rfl rfl rfl (give_ok hT (n := (q : Int)) hse hf.names hf.seen) ?_
     rintro r67 K68 h69
     rcases h69 with ⟨hn2, rfl, rfl⟩ | ⟨hn2, j10, j11, rfl, rfl⟩
     ·refine au [] ?_
      have hgb := give_bar hck hql hn2
      refine au [1, 10, 10, 17, 2, 3, 4, 4, 5, 1, 6, 3, 20] ?_
      refine ⟨fun hc4 => ?_, fun hc4 => ?_⟩
      ·skip
       refine au [4, 5, 1, 6, 1] ?_
       refine TK.sp 163 (fun g16_3 => ?_) (fun g16_3 => ?_)
       ·refine au [11, 11, 26, 1, 8, 43] ?_
        refine TK.cl rfl rfl rfl rfl (same0_ok hT) ?_
        rintro r70 K71 ⟨rfl, rfl⟩
        refine au [26, 1] ?_
        refine TK.sp 172 (fun g16_12 => ?_) (fun g16_12 => ?_)
        ·refine TK.cl rfl rfl rfl rfl (sought_ok tame) ?_
         rintro r73 K74 ⟨rfl, rfl⟩
         refine au [26, 2, 3] ?_
         refine TK.rt hret [(0, _), (1, _), (s, _), (e, _)] ?_
         exact ⟨rfl, rfl⟩
        cases g16_12
       refine au [1, 6, 25, 1] ?_
       refine TK.sp 167 (fun g16_7 => ?_) (fun g16_7 => ?_)
       ·refine au [8, 43] ?_
        refine TK.cl rfl rfl rfl rfl (same0_ok hT) ?_
        rintro r76 K77 ⟨rfl, rfl⟩
        refine au [26, 1] ?_
        refine TK.sp 172 (fun g16_12 => ?_) (fun g16_12 => ?_)
        ·refine TK.cl rfl rfl rfl rfl (sought_ok tame) ?_
         rintro r79 K80 ⟨rfl, rfl⟩
         refine au [26, 2, 3] ?_
         refine TK.rt hret [(0, _), (1, _), (s, _), (e, _)] ?_
         exact ⟨rfl, rfl⟩
        cases g16_12
       rcases hgb with h | h
       ·rw [h] at g16_3; cases g16_3
       ·rw [h] at g16_7; cases g16_7
      exact absurd (by simpa using hc4) hn2
     ·refine au [] ?_
      obtain ⟨hgf, hcg, hsg⟩ := give_zero hck hql hn2
      refine TK.nd fun hnd => ?_
      have hj1011 : j10 ≠ j11 := fun h => by subst h; simp [keys] at hnd
      refine au [1, 10, 10, 17, 2, 3, 4, 4, 5, 1, 6, 3, 20] ?_
      refine ⟨fun hc4 => ?_, fun hc4 => ?_⟩
      ·cases hc4
      skip
      refine au [12, 4] ?_
      refine TK.draw [0, 1, 2, 3, 4, 5, 6, 7, 8, 9, 10, 11, 12, 13, 14, 15, 16] [0, 1, 2, 3, 4, 5, 6, 7, 8, 9, 10, 11, 12, 13, 14, 15, 16] (by kernel_rfl) (by kernel_rfl) ?_
      refine TD.y [20] rfl (hq := q_load rfl rfl TySz.h (List.Mem.head _) rfl) (h := ?_)
      refine TD.y [8] rfl (hq := q_load rfl rfl TySz.h (List.Mem.head _) rfl) (h := ?_)
      refine TD.z [23] rfl (q_move rfl rfl) ?_
      refine TD.cl (pend' := [⟨0, [20], [(_, _)]⟩]) [176, 177] rfl rfl rfl rfl rfl (givenR_ok hT hf.says hql) (fun r82 K83 h84 => ⟨?_, ?_⟩)
      ·rcases h84 with ⟨j12, rfl, rfl⟩
       all_goals simp
      obtain ⟨j12, rfl, rfl⟩ := h84
      try simp only [List.cons_append, List.nil_append]
      refine TD.norm (by simp only [List.set]; rfl) ?_
      refine TD.cl (pend' := []) [175, 178] rfl rfl rfl rfl rfl (sameB_ok hT (b := (giveB b q)) (s1 := j10) (e1 := j11) (s2 := j12) (e2 := e) (by simp [hearB, lookB, giveB]; omega) (by simp [hearB, lookB, giveB]; omega)) (fun r85 K86 h87 => ⟨?_, ?_⟩)
      ·rcases h87 with ⟨rfl, rfl⟩
       all_goals simp
      obtain ⟨rfl, rfl⟩ := h87
      try simp only [List.cons_append, List.nil_append]
      refine TD.norm (by simp only [List.set]; rfl) ?_
      refine TD.z [179] rfl (q_move rfl rfl) ?_
      refine TD.sp 180 (fun g17_6 => ?_) (fun g17_6 => ?_)
      ·refine TD.y [8, 180] rfl (hq := q_load rfl rfl TySz.h (List.Mem.head _) rfl) (h := ?_)
       refine TD.y [20, 180] rfl (hq := q_load rfl rfl TySz.h (List.Mem.head _) rfl) (h := ?_)
       refine TD.z [17, 180] rfl (q_move rfl rfl) ?_
       refine TD.z [18, 180] rfl (q_move rfl rfl) ?_
       refine TD.z [19, 180] rfl (q_move rfl rfl) ?_
       refine TD.cl (pend' := []) [180, 181, 182, 183, 184, 185] rfl rfl rfl rfl rfl (better_ok tame (was := b) (now := (giveB b q)) (lo := k5 % b.steps) (w := 1 + k6 % b.steps) (wh := whoM b k7) (less_give hb (bkOk_of hcg) hql hsg) hck (hcg) hse hj1011 hf.names (give_names hf.names) hf.seen (hf.seen) ⟨m5, m5'⟩ ⟨by omega, by omega⟩ ((who_is k7).imp id fun ⟨q, h1, h2⟩ => ⟨q, h1, h2, by rw [giveB_len]; exact h2, fun S _ => right_give _ _ _ _⟩)) (fun r88 K89 h90 => ⟨?_, ?_⟩)
       ·rcases h90 with ⟨rfl, rfl⟩
        all_goals simp
       obtain ⟨rfl, rfl⟩ := h90
       try simp only [List.cons_append, List.nil_append]
       refine TD.norm (by simp only [List.set]; rfl) ?_
       refine TD.z [180, 186] rfl (q_pickT rfl rfl rfl) ?_
       refine TD.z [187] rfl (q_move rfl rfl) ?_
       refine TD.sp 188 (fun g17_14 => ?_) (fun g17_14 => ?_)
       ·refine TD.cl (pend' := [⟨12, [180, 186], []⟩]) [188] rfl rfl rfl rfl rfl (sought_ok tame) (fun r91 K92 h93 => ⟨?_, ?_⟩)
        ·rcases h93 with ⟨rfl, rfl⟩
         all_goals simp
        obtain ⟨rfl, rfl⟩ := h93
        try simp only [List.cons_append, List.nil_append]
        refine TD.norm (by simp only [List.set]; rfl) ?_
        refine TD.z [188, 189] rfl (q_pickT rfl rfl rfl) ?_
        refine TD.as (pend' := []) [190] rfl rfl (q_assign rfl rfl) ?_
        refine TD.fin ?_
        refine au [] ?_
        refine TK.rt hret [(0, _), (1, _), (s, _), (e, _)] ?_
        exact ⟨rfl, rfl⟩
       cases g17_14
      cases g17_6
    exact absurd (by simpa using g9_28) hn1
   ·refine au [] ?_
    obtain ⟨hcl, hsl⟩ := news_zero hck hn1
    refine TK.nd fun hnd => ?_
    have hj78 : j7 ≠ j8 := fun h => by subst h; simp [keys] at hnd
    refine au [1, 10, 10, 17, 2, 3, 4, 4] ?_
    refine TK.draw [0, 1, 2, 3, 4, 5, 6, 7, 8, 9, 10, 11, 12, 13, 14, 15, 16, 17, 18, 19, 20, 21, 22, 23, 24, 25, 26, 27, 28, 29, 30, 31, 32, 33, 34, 35, 36, 37, 38, 39, 40, 41] [0, 1, 2, 3, 4, 5, 6, 7, 8, 9, 10, 11, 12, 13, 14, 15, 16, 17, 18, 19, 20, 21, 22, 23, 24, 25, 26, 27, 28, 29, 30, 31, 32, 33, 34, 35, 36, 37, 38, 39, 40, 41] (by kernel_rfl) (by kernel_rfl) ?_
    refine TD.z [21] rfl (q_move rfl rfl) ?_
    refine TD.z [103] rfl (q_cmp rfl rfl rfl rfl) ?_
    refine TD.z [104] rfl (q_move rfl rfl) ?_
    refine TD.sp 105 (fun g9_3 => ?_) (fun g9_3 => ?_)
    ·skip
     refine TD.y [20, 105] rfl (hq := q_load rfl rfl TySz.h (List.Mem.head _) rfl) (h := ?_)
     refine TD.y [8, 105] rfl (hq := q_load rfl rfl TySz.h (List.Mem.head _) rfl) (h := ?_)
     refine TD.y [22, 105] rfl (hq := q_load rfl rfl TySz.h (List.Mem.head _) rfl) (h := ?_)
     refine TD.cl (pend' := [⟨3, [20, 105], [(_, _)]⟩, ⟨1, [103], []⟩, ⟨0, [21], []⟩]) [105, 107, 108] rfl rfl rfl rfl rfl (lookedR_ok hT (x := ⟨k3 % b.steps, sm⟩) hf.seen) (fun r94 K95 h96 => ⟨?_, ?_⟩)
     ·rcases h96 with ⟨j9, rfl, rfl⟩
      all_goals simp
     obtain ⟨j9, rfl, rfl⟩ := h96
     try simp only [List.cons_append, List.nil_append]
     refine TD.norm (by simp only [List.set]; rfl) ?_
     refine TD.cl (pend' := [⟨1, [103], []⟩, ⟨0, [21], []⟩]) [105, 106, 109] rfl rfl rfl rfl rfl (sameB_ok hT (b := (lookB b ⟨k3 % b.steps, sm⟩)) (s1 := j7) (e1 := j8) (s2 := s) (e2 := j9) (by simp [hearB, lookB, giveB]; omega) (by simp [hearB, lookB, giveB]; omega)) (fun r97 K98 h99 => ⟨?_, ?_⟩)
     ·rcases h99 with ⟨rfl, rfl⟩
      all_goals simp
     obtain ⟨rfl, rfl⟩ := h99
     try simp only [List.cons_append, List.nil_append]
     refine TD.norm (by simp only [List.set]; rfl) ?_
     refine TD.z [105, 110] rfl (q_not rfl rfl) ?_
     refine TD.z [105, 111] rfl (q_move rfl rfl) ?_
     refine TD.sp 112 (fun g9_10 => ?_) (fun g9_10 => ?_)
     ·cases g9_10
     refine TD.y [20, 112] rfl (hq := q_load rfl rfl TySz.h (List.Mem.head _) rfl) (h := ?_)
     refine TD.cl (pend' := [⟨8, [105, 110], []⟩, ⟨1, [103], []⟩, ⟨0, [21], []⟩]) [112, 113] rfl rfl rfl rfl rfl (checkR_ok hT (b := (lookB b ⟨k3 % b.steps, sm⟩)) hj78 hf.names (by simp [lookB]; omega) (by simp [lookB]; omega)) (fun r100 K101 h102 => ⟨?_, ?_⟩)
     ·rcases h102 with ⟨rfl, rfl⟩
      all_goals simp
     obtain ⟨rfl, rfl⟩ := h102
     try simp only [List.cons_append, List.nil_append]
     refine TD.norm (by simp only [List.set]; rfl) ?_
     rw [hcl]
     refine TD.z [112, 114] rfl (q_cmp rfl rfl rfl rfl) ?_
     refine TD.z [105, 112, 115] rfl (q_pickF rfl rfl rfl) ?_
     refine TD.z [105, 116] rfl (q_move rfl rfl) ?_
     refine TD.sp 117 (fun g9_15 => ?_) (fun g9_15 => ?_)
     ·cases g9_15
     refine TD.y [8, 117] rfl (hq := q_load rfl rfl TySz.h (List.Mem.head _) rfl) (h := ?_)
     refine TD.y [20, 117] rfl (hq := q_load rfl rfl TySz.h (List.Mem.head _) rfl) (h := ?_)
     refine TD.z [17, 117] rfl (q_move rfl rfl) ?_
     refine TD.z [18, 117] rfl (q_move rfl rfl) ?_
     refine TD.z [19, 117] rfl (q_move rfl rfl) ?_
     refine TD.cl (pend' := [⟨13, [105, 112, 115], []⟩, ⟨12, [112, 114], []⟩, ⟨8, [105, 110], []⟩, ⟨1, [103], []⟩, ⟨0, [21], []⟩]) [117, 118, 119, 120, 121, 122] rfl rfl rfl rfl rfl (better_ok tame (was := b) (now := (lookB b ⟨k3 % b.steps, sm⟩)) (lo := k5 % b.steps) (w := 1 + k6 % b.steps) (wh := whoM b k7) (less_look hb (bkOk_of hcl) hsl) hck (hcl) hse hj78 hf.names (hf.names) hf.seen (by simp [lookB]; omega) ⟨m5, m5'⟩ ⟨by omega, by omega⟩ ((who_is k7).imp id fun ⟨q, h1, h2⟩ => ⟨q, h1, h2, h2, fun S _ => rfl⟩)) (fun r103 K104 h105 => ⟨?_, ?_⟩)
     ·rcases h105 with ⟨rfl, rfl⟩
      all_goals simp
     obtain ⟨rfl, rfl⟩ := h105
     try simp only [List.cons_append, List.nil_append]
     refine TD.norm (by simp only [List.set]; rfl) ?_
     refine TD.z [117, 123] rfl (q_not rfl rfl) ?_
     refine TD.z [105, 117, 124] rfl (q_pickF rfl rfl rfl) ?_
     refine TD.z [105, 125] rfl (q_pickT rfl rfl rfl) ?_
     refine TD.z [126] rfl (q_move rfl rfl) ?_
     refine TD.sp 127 (fun g9_25 => ?_) (fun g9_25 => ?_)
     ·cases g9_25
     refine TD.z [21, 127] rfl (q_move rfl rfl) ?_
     refine TD.z [127, 128] rfl (q_cmp rfl rfl rfl rfl) ?_
     refine TD.z [127, 129] rfl (q_move rfl rfl) ?_
     refine TD.sp 130 (fun g9_28 => ?_) (fun g9_28 => ?_)
     ·cases g9_28
     skip
     refine TD.u [21, 130] rfl ?_
     refine TD.u [130, 131] rfl ?_
     refine TD.u [130, 132] rfl ?_
     refine TD.u [21, 133] rfl ?_
     refine TD.u [133, 134] rfl ?_
     refine TD.u [130, 133, 135] rfl ?_
     refine TD.u [130, 136] rfl ?_
     refine TD.u [20, 137] rfl ?_
     refine TD.u [137] rfl ?_
     refine TD.u [137, 138, 139] rfl ?_
     refine TD.u [137, 140] rfl ?_
     refine TD.u [130, 137, 141] rfl ?_
     refine TD.z [127, 130, 142] rfl (q_pickF rfl rfl rfl) ?_
     refine TD.z [127, 143] rfl (q_pickF rfl rfl rfl) ?_
     refine TD.fin ?_
     refine au [19, 12, 4, 4] ?_
     refine TK.kp [(jo, .cells [_, _, _, _, _, _] 27 true), (jx, _), (jb, _), (0, _), (1, _), (s, _), (e, _)] ?_
     refine au [5, 7, 9, 28, 6, 3, 20] ?_
     refine ⟨fun hc3 => ?_, fun hc3 => ?_⟩
     ·refine au [4, 5] ?_
      refine TK.cl rfl rfl rfl rfl (sought_ok tame) ?_
      rintro r106 K107 ⟨rfl, rfl⟩
      refine au [2, 3] ?_
      refine TK.rt hret [(0, _), (1, _), (s, _), (e, _)] ?_
      exact ⟨rfl, rfl⟩
     obtain ⟨q, hq, hql⟩ := who_some k4 (by simpa using hc3)
     refine au [12, 4, 5, 8, 1] ?_
     refine TK.cl rfl rfl rfl rfl (who_ok hT hk4 hf.says) ?_
     rintro r109 K110 ⟨rfl, rfl⟩
     refine au [] ?_
     rw [hq]
     refine au [2, 3, 4, 5, 8, 1] ?_
     refine TK.cl rfl rfl rfl rfl (give_ok hT (n := (q : Int)) hse hf.names hf.seen) ?_
     rintro r112 K113 h114
     rcases h114 with ⟨hn2, rfl, rfl⟩ | ⟨hn2, j10, j11, rfl, rfl⟩
     ·refine au [] ?_
      have hgb := give_bar hck hql hn2
      refine au [1, 10, 10, 17, 2, 3, 4, 4, 5, 1, 6, 3, 20] ?_
      refine ⟨fun hc4 => ?_, fun hc4 => ?_⟩
      ·skip
       refine au [4, 5, 1, 6, 1] ?_
       refine TK.sp 163 (fun g16_3 => ?_) (fun g16_3 => ?_)
       ·refine au [11, 11, 26, 1, 8, 43] ?_
        refine TK.cl rfl rfl rfl rfl (same0_ok hT) ?_
        rintro r115 K116 ⟨rfl, rfl⟩
        refine au [26, 1] ?_
        refine TK.sp 172 (fun g16_12 => ?_) (fun g16_12 => ?_)
        ·refine TK.cl rfl rfl rfl rfl (sought_ok tame) ?_
         rintro r118 K119 ⟨rfl, rfl⟩
         refine au [26, 2, 3] ?_
         refine TK.rt hret [(0, _), (1, _), (s, _), (e, _)] ?_
         exact ⟨rfl, rfl⟩
        cases g16_12
       refine au [1, 6, 25, 1] ?_
       refine TK.sp 167 (fun g16_7 => ?_) (fun g16_7 => ?_)
       ·refine au [8, 43] ?_
        refine TK.cl rfl rfl rfl rfl (same0_ok hT) ?_
        rintro r121 K122 ⟨rfl, rfl⟩
        refine au [26, 1] ?_
        refine TK.sp 172 (fun g16_12 => ?_) (fun g16_12 => ?_)
        ·refine TK.cl rfl rfl rfl rfl (sought_ok tame) ?_
         rintro r124 K125 ⟨rfl, rfl⟩
         refine au [26, 2, 3] ?_
         refine TK.rt hret [(0, _), (1, _), (s, _), (e, _)] ?_
         exact ⟨rfl, rfl⟩
        cases g16_12
       rcases hgb with h | h
       ·rw [h] at g16_3; cases g16_3
       ·rw [h] at g16_7; cases g16_7
      exact absurd (by simpa using hc4) hn2
     ·refine au [] ?_
      obtain ⟨hgf, hcg, hsg⟩ := give_zero hck hql hn2
      refine TK.nd fun hnd => ?_
      have hj1011 : j10 ≠ j11 := fun h => by subst h; simp [keys] at hnd
      refine au [1, 10, 10, 17, 2, 3, 4, 4, 5, 1, 6, 3, 20] ?_
      refine ⟨fun hc4 => ?_, fun hc4 => ?_⟩
      ·cases hc4
      skip
      refine au [12, 4] ?_
      refine TK.draw [0, 1, 2, 3, 4, 5, 6, 7, 8, 9, 10, 11, 12, 13, 14, 15, 16] [0, 1, 2, 3, 4, 5, 6, 7, 8, 9, 10, 11, 12, 13, 14, 15, 16] (by kernel_rfl) (by kernel_rfl) ?_
      refine TD.y [20] rfl (hq := q_load rfl rfl TySz.h (List.Mem.head _) rfl) (h := ?_)
      refine TD.y [8] rfl (hq := q_load rfl rfl TySz.h (List.Mem.head _) rfl) (h := ?_)
      refine TD.z [23] rfl (q_move rfl rfl) ?_
      refine TD.cl (pend' := [⟨0, [20], [(_, _)]⟩]) [176, 177] rfl rfl rfl rfl rfl (givenR_ok hT hf.says hql) (fun r127 K128 h129 => ⟨?_, ?_⟩)
      ·rcases h129 with ⟨j12, rfl, rfl⟩
       all_goals simp
      obtain ⟨j12, rfl, rfl⟩ := h129
      try simp only [List.cons_append, List.nil_append]
      refine TD.norm (by simp only [List.set]; rfl) ?_
      refine TD.cl (pend' := []) [175, 178] rfl rfl rfl rfl rfl (sameB_ok hT (b := (giveB b q)) (s1 := j10) (e1 := j11) (s2 := j12) (e2 := e) (by simp [hearB, lookB, giveB]; omega) (by simp [hearB, lookB, giveB]; omega)) (fun r130 K131 h132 => ⟨?_, ?_⟩)
      ·rcases h132 with ⟨rfl, rfl⟩
       all_goals simp
      obtain ⟨rfl, rfl⟩ := h132
      try simp only [List.cons_append, List.nil_append]
      refine TD.norm (by simp only [List.set]; rfl) ?_
      refine TD.z [179] rfl (q_move rfl rfl) ?_
      refine TD.sp 180 (fun g17_6 => ?_) (fun g17_6 => ?_)
      ·refine TD.y [8, 180] rfl (hq := q_load rfl rfl TySz.h (List.Mem.head _) rfl) (h := ?_)
       refine TD.y [20, 180] rfl (hq := q_load rfl rfl TySz.h (List.Mem.head _) rfl) (h := ?_)
       refine TD.z [17, 180] rfl (q_move rfl rfl) ?_
       refine TD.z [18, 180] rfl (q_move rfl rfl) ?_
       refine TD.z [19, 180] rfl (q_move rfl rfl) ?_
       refine TD.cl (pend' := []) [180, 181, 182, 183, 184, 185] rfl rfl rfl rfl rfl (better_ok tame (was := b) (now := (giveB b q)) (lo := k5 % b.steps) (w := 1 + k6 % b.steps) (wh := whoM b k7) (less_give hb (bkOk_of hcg) hql hsg) hck (hcg) hse hj1011 hf.names (give_names hf.names) hf.seen (hf.seen) ⟨m5, m5'⟩ ⟨by omega, by omega⟩ ((who_is k7).imp id fun ⟨q, h1, h2⟩ => ⟨q, h1, h2, by rw [giveB_len]; exact h2, fun S _ => right_give _ _ _ _⟩)) (fun r133 K134 h135 => ⟨?_, ?_⟩)
       ·rcases h135 with ⟨rfl, rfl⟩
        all_goals simp
       obtain ⟨rfl, rfl⟩ := h135
       try simp only [List.cons_append, List.nil_append]
       refine TD.norm (by simp only [List.set]; rfl) ?_
       refine TD.z [180, 186] rfl (q_pickT rfl rfl rfl) ?_
       refine TD.z [187] rfl (q_move rfl rfl) ?_
       refine TD.sp 188 (fun g17_14 => ?_) (fun g17_14 => ?_)
       ·refine TD.cl (pend' := [⟨12, [180, 186], []⟩]) [188] rfl rfl rfl rfl rfl (sought_ok tame) (fun r136 K137 h138 => ⟨?_, ?_⟩)
        ·rcases h138 with ⟨rfl, rfl⟩
         all_goals simp
        obtain ⟨rfl, rfl⟩ := h138
        try simp only [List.cons_append, List.nil_append]
        refine TD.norm (by simp only [List.set]; rfl) ?_
        refine TD.z [188, 189] rfl (q_pickT rfl rfl rfl) ?_
        refine TD.as (pend' := []) [190] rfl rfl (q_assign rfl rfl) ?_
        refine TD.fin ?_
        refine au [] ?_
        refine TK.rt hret [(0, _), (1, _), (s, _), (e, _)] ?_
        exact ⟨rfl, rfl⟩
       cases g17_14
      cases g17_6
    cases g9_3
  exact absurd (by simpa using g5_28) hn0
 ·refine au [] ?_
  obtain ⟨hco, hso⟩ := news_zero hck hn0
  refine TK.nd fun hnd => ?_
  have hj32 : j3 ≠ j2 := fun h => by subst h; simp [keys] at hnd
  refine au [1, 10, 10, 22] ?_
  intro jo hjo
  refine au [17, 2, 3, 4, 4] ?_
  refine TK.draw [0, 1, 2, 3, 4, 5, 6, 7, 8, 9, 10, 11, 12, 13, 14, 15, 16, 17, 18, 19, 20, 21, 22, 23, 24, 25, 26, 27, 28, 29, 30, 31, 32, 33] [0, 1, 2, 3, 4, 5, 6, 7, 8, 9, 10, 11, 12, 13, 14, 15, 16, 17, 18, 19, 20, 21, 22, 23, 24, 25, 26, 27, 28, 29, 30, 31, 32, 33] (by kernel_rfl) (by kernel_rfl) ?_
  refine TD.z [21] rfl (q_move rfl rfl) ?_
  refine TD.z [54] rfl (q_cmp rfl rfl rfl rfl) ?_
  refine TD.z [55] rfl (q_move rfl rfl) ?_
  refine TD.sp 56 (fun g5_3 => ?_) (fun g5_3 => ?_)
  ·skip
   refine TD.y [20, 56] rfl (hq := q_load rfl rfl TySz.h (List.Mem.head _) rfl) (h := ?_)
   refine TD.y [8, 56] rfl (hq := q_load rfl rfl TySz.h (List.Mem.head _) rfl) (h := ?_)
   refine TD.y [9, 56] rfl (hq := q_load rfl rfl TySz.h (List.Mem.head _) rfl) (h := ?_)
   refine TD.cl (pend' := [⟨3, [20, 56], [(_, _)]⟩, ⟨1, [54], []⟩, ⟨0, [21], []⟩]) [56, 58, 59] rfl rfl rfl rfl rfl (heardR_ok hT (x := x) hf.says) (fun r139 K140 h141 => ⟨?_, ?_⟩)
   ·rcases h141 with ⟨j5, rfl, rfl⟩
    all_goals simp
   obtain ⟨j5, rfl, rfl⟩ := h141
   try simp only [List.cons_append, List.nil_append]
   refine TD.norm (by simp only [List.set]; rfl) ?_
   refine TD.cl (pend' := [⟨1, [54], []⟩, ⟨0, [21], []⟩]) [56, 57, 60] rfl rfl rfl rfl rfl (sameB_ok hT (b := (hearB b x)) (s1 := j3) (e1 := j2) (s2 := j5) (e2 := e) (by simp [hearB, lookB, giveB]; omega) (by simp [hearB, lookB, giveB]; omega)) (fun r142 K143 h144 => ⟨?_, ?_⟩)
   ·rcases h144 with ⟨rfl, rfl⟩
    all_goals simp
   obtain ⟨rfl, rfl⟩ := h144
   try simp only [List.cons_append, List.nil_append]
   refine TD.norm (by simp only [List.set]; rfl) ?_
   refine TD.z [56, 61] rfl (q_not rfl rfl) ?_
   refine TD.z [56, 62] rfl (q_move rfl rfl) ?_
   refine TD.sp 63 (fun g5_10 => ?_) (fun g5_10 => ?_)
   ·cases g5_10
   refine TD.y [20, 63] rfl (hq := q_load rfl rfl TySz.h (List.Mem.head _) rfl) (h := ?_)
   refine TD.cl (pend' := [⟨8, [56, 61], []⟩, ⟨1, [54], []⟩, ⟨0, [21], []⟩]) [63, 64] rfl rfl rfl rfl rfl (checkR_ok hT (b := (hearB b x)) hj32 (hear_names hf.names hx) (by simp [hearB]; omega) (by simp [hearB]; omega)) (fun r145 K146 h147 => ⟨?_, ?_⟩)
   ·rcases h147 with ⟨rfl, rfl⟩
    all_goals simp
   obtain ⟨rfl, rfl⟩ := h147
   try simp only [List.cons_append, List.nil_append]
   refine TD.norm (by simp only [List.set]; rfl) ?_
   rw [hco]
   refine TD.z [63, 65] rfl (q_cmp rfl rfl rfl rfl) ?_
   refine TD.z [56, 63, 66] rfl (q_pickF rfl rfl rfl) ?_
   refine TD.z [56, 67] rfl (q_move rfl rfl) ?_
   refine TD.sp 68 (fun g5_15 => ?_) (fun g5_15 => ?_)
   ·cases g5_15
   refine TD.y [8, 68] rfl (hq := q_load rfl rfl TySz.h (List.Mem.head _) rfl) (h := ?_)
   refine TD.y [20, 68] rfl (hq := q_load rfl rfl TySz.h (List.Mem.head _) rfl) (h := ?_)
   refine TD.z [17, 68] rfl (q_move rfl rfl) ?_
   refine TD.z [18, 68] rfl (q_move rfl rfl) ?_
   refine TD.z [19, 68] rfl (q_move rfl rfl) ?_
   refine TD.cl (pend' := [⟨13, [56, 63, 66], []⟩, ⟨12, [63, 65], []⟩, ⟨8, [56, 61], []⟩, ⟨1, [54], []⟩, ⟨0, [21], []⟩]) [68, 69, 70, 71, 72, 73] rfl rfl rfl rfl rfl (better_ok tame (was := b) (now := (hearB b x)) (lo := k5 % b.steps) (w := 1 + k6 % b.steps) (wh := whoM b k7) (less_hear hb (bkOk_of hco) hso) hck (hco) hse hj32 hf.names (hear_names hf.names hx) hf.seen (by simp [hearB]; omega) ⟨m5, m5'⟩ ⟨by omega, by omega⟩ ((who_is k7).imp id fun ⟨q, h1, h2⟩ => ⟨q, h1, h2, by simp [hearB]; omega, fun S _ => right_hear h2⟩)) (fun r148 K149 h150 => ⟨?_, ?_⟩)
   ·rcases h150 with ⟨rfl, rfl⟩
    all_goals simp
   obtain ⟨rfl, rfl⟩ := h150
   try simp only [List.cons_append, List.nil_append]
   refine TD.norm (by simp only [List.set]; rfl) ?_
   refine TD.z [68, 74] rfl (q_not rfl rfl) ?_
   refine TD.z [56, 68, 75] rfl (q_pickF rfl rfl rfl) ?_
   refine TD.z [56, 76] rfl (q_pickT rfl rfl rfl) ?_
   refine TD.z [77] rfl (q_move rfl rfl) ?_
   refine TD.sp 78 (fun g5_25 => ?_) (fun g5_25 => ?_)
   ·cases g5_25
   refine TD.z [21, 78] rfl (q_move rfl rfl) ?_
   refine TD.z [78, 79] rfl (q_cmp rfl rfl rfl rfl) ?_
   refine TD.z [78, 80] rfl (q_move rfl rfl) ?_
   refine TD.sp 81 (fun g5_28 => ?_) (fun g5_28 => ?_)
   ·cases g5_28
   skip
   refine TD.u [20, 81] rfl ?_
   refine TD.u [81] rfl ?_
   refine TD.u [81, 82, 83] rfl ?_
   refine TD.u [81, 84] rfl ?_
   refine TD.z [78, 81, 85] rfl (q_pickF rfl rfl rfl) ?_
   refine TD.z [78, 86] rfl (q_pickF rfl rfl rfl) ?_
   refine TD.fin ?_
   refine au [19, 12, 4] ?_
   refine TK.kp [(jo, .cells [_, _, _, _, _, _] 27 true), (jx, _), (jb, _), (0, _), (1, _), (s, _), (e, _)] ?_
   refine au [5, 1] ?_
   refine TK.a rfl (q_convInt rfl rfl Und.h Und.h (wrap_i64 (by omega))) ?_
   refine au [7, 9] ?_
   refine TK.a rfl (q_rem rfl rfl rfl (by omega) (by omega)) ?_
   refine au [1, 39, 22] ?_
   intro jS hjS
   refine au [17, 3, 4, 5, 8, 7, 9, 1] ?_
   refine TK.cl rfl rfl rfl rfl (look_ok hT (n := k3 % b.steps) (sm := sm) hse hf.names hf.seen) ?_
   rintro r151 K152 h153
   rcases h153 with ⟨hn1, rfl, rfl⟩ | ⟨hn1, j7, j8, rfl, rfl⟩
   ·refine au [] ?_
    have hst1 := step_emod hb k3
    have hnl := news_look (x := ⟨k3 % b.steps, sm⟩) hck hst1 hn1
    refine au [1, 10, 10, 17, 2, 3, 4, 4] ?_
    refine TK.draw [0, 1, 2, 3, 4, 5, 6, 7, 8, 9, 10, 11, 12, 13, 14, 15, 16, 17, 18, 19, 20, 21, 22, 23, 24, 25, 26, 27, 28, 29, 30, 31, 32, 33, 34, 35, 36, 37, 38, 39, 40, 41] [0, 1, 2, 3, 4, 5, 6, 7, 8, 9, 10, 11, 12, 13, 14, 15, 16, 17, 18, 19, 20, 21, 22, 23, 24, 25, 26, 27, 28, 29, 30, 31, 32, 33, 34, 35, 36, 37, 38, 39, 40, 41] (by kernel_rfl) (by kernel_rfl) ?_
    refine TD.z [21] rfl (q_move rfl rfl) ?_
    refine TD.z [103] rfl (q_cmp rfl rfl rfl rfl) ?_
    refine TD.z [104] rfl (q_move rfl rfl) ?_
    refine TD.sp 105 (fun g9_3 => ?_) (fun g9_3 => ?_)
    ·exact absurd (by simpa using g9_3) hn1
    skip
    refine TD.u [20, 105] rfl ?_
    refine TD.u [8, 105] rfl ?_
    refine TD.u [22, 105] rfl ?_
    refine TD.u [105, 107, 108] rfl ?_
    refine TD.u [105, 106, 109] rfl ?_
    refine TD.u [105, 110] rfl ?_
    refine TD.u [105, 111] rfl ?_
    refine TD.u [20, 112] rfl ?_
    refine TD.u [112, 113] rfl ?_
    refine TD.u [112, 114] rfl ?_
    refine TD.u [105, 112, 115] rfl ?_
    refine TD.u [105, 116] rfl ?_
    refine TD.u [8, 117] rfl ?_
    refine TD.u [20, 117] rfl ?_
    refine TD.u [17, 117] rfl ?_
    refine TD.u [18, 117] rfl ?_
    refine TD.u [19, 117] rfl ?_
    refine TD.u [117, 118, 119, 120, 121, 122] rfl ?_
    refine TD.u [117, 123] rfl ?_
    refine TD.u [105, 117, 124] rfl ?_
    refine TD.z [105, 125] rfl (q_pickF rfl rfl rfl) ?_
    refine TD.z [126] rfl (q_move rfl rfl) ?_
    refine TD.z [21, 127] rfl (q_move rfl rfl) ?_
    refine TD.z [127, 128] rfl (q_cmp rfl rfl rfl rfl) ?_
    refine TD.z [127, 129] rfl (q_move rfl rfl) ?_
    refine TD.sp 130 (fun g9_28 => ?_) (fun g9_28 => ?_)
    ·skip
     refine TD.z [21, 130] rfl (q_move rfl rfl) ?_
     refine TD.z [130, 131] rfl (q_cmp rfl rfl rfl rfl) ?_
     refine TD.z [130, 132] rfl (q_move rfl rfl) ?_
     refine TD.sp 133 (fun g9_31 => ?_) (fun g9_31 => ?_)
     ·refine TD.z [21, 133] rfl (q_move rfl rfl) ?_
      refine TD.z [133, 134] rfl (q_cmp rfl rfl rfl rfl) ?_
      refine TD.z [130, 133, 135] rfl (q_pickT rfl rfl rfl) ?_
      refine TD.z [130, 136] rfl (q_move rfl rfl) ?_
      refine TD.sp 137 (fun g9_35 => ?_) (fun g9_35 => ?_)
      ·rcases hnl with h | h
       ·rw [h] at g9_31; cases g9_31
       ·rw [h] at g9_35; cases g9_35
      refine TD.y [20, 137] rfl (hq := q_load rfl rfl TySz.h (List.Mem.head _) rfl) (h := ?_)
      refine TD.z [137] rfl (q_build (l := [_, _, _, _, _, _]) rfl TyZ.h BlOf.h rfl) ?_
      refine TD.cl (pend' := [⟨33, [130, 133, 135], []⟩, ⟨32, [133, 134], []⟩, ⟨31, [21, 133], []⟩, ⟨30, [130, 132], []⟩, ⟨29, [130, 131], []⟩, ⟨28, [21, 130], []⟩, ⟨27, [127, 129], []⟩, ⟨26, [127, 128], []⟩, ⟨25, [21, 127], []⟩, ⟨24, [126], []⟩, ⟨23, [105, 125], []⟩, ⟨22, [105, 117, 124], []⟩, ⟨21, [117, 123], []⟩, ⟨20, [117, 118, 119, 120, 121, 122], []⟩, ⟨19, [19, 117], []⟩, ⟨18, [18, 117], []⟩, ⟨17, [17, 117], []⟩, ⟨16, [20, 117], []⟩, ⟨15, [8, 117], []⟩, ⟨14, [105, 116], []⟩, ⟨13, [105, 112, 115], []⟩, ⟨12, [112, 114], []⟩, ⟨11, [112, 113], []⟩, ⟨10, [20, 112], []⟩, ⟨9, [105, 111], []⟩, ⟨8, [105, 110], []⟩, ⟨7, [105, 106, 109], []⟩, ⟨6, [105, 107, 108], []⟩, ⟨5, [22, 105], []⟩, ⟨4, [8, 105], []⟩, ⟨3, [20, 105], []⟩, ⟨2, [104], []⟩, ⟨1, [103], []⟩, ⟨0, [21], []⟩]) [137, 138, 139] rfl rfl rfl rfl rfl (same0_ok hT) (fun r154 K155 h156 => ⟨?_, ?_⟩)
      ·rcases h156 with ⟨rfl, rfl⟩
       all_goals simp
      obtain ⟨rfl, rfl⟩ := h156
      try simp only [List.cons_append, List.nil_append]
      refine TD.norm (by simp only [List.set]; rfl) ?_
      refine TD.z [137, 140] rfl (q_not rfl rfl) ?_
      refine TD.z [130, 137, 141] rfl (q_pickF rfl rfl rfl) ?_
      refine TD.z [127, 130, 142] rfl (q_pickT rfl rfl rfl) ?_
      refine TD.z [127, 143] rfl (q_pickF rfl rfl rfl) ?_
      refine TD.fin ?_
      refine au [20] ?_
      refine ⟨fun hc2 => ?_, fun hc2 => ?_⟩
      ·cases hc2
      refine au [12, 4, 4] ?_
      refine TK.kp [(jo, .cells [_, _, _, _, _, _] 27 true), (jx, _), (jb, _), (0, _), (1, _), (s, _), (e, _)] ?_
      refine au [5, 7, 9, 28, 6, 3, 20] ?_
      refine ⟨fun hc3 => ?_, fun hc3 => ?_⟩
      ·refine au [4, 5] ?_
       refine TK.cl rfl rfl rfl rfl (sought_ok tame) ?_
       rintro r157 K158 ⟨rfl, rfl⟩
       refine au [2, 3] ?_
       refine TK.rt hret [(0, _), (1, _), (s, _), (e, _)] ?_
       exact ⟨rfl, rfl⟩
      obtain ⟨q, hq, hql⟩ := who_some k4 (by simpa using hc3)
      refine au [12, 4, 5, 8, 1] ?_
      refine TK.cl rfl rfl rfl rfl (who_ok hT hk4 hf.says) ?_
      rintro r160 K161 ⟨rfl, rfl⟩
      refine au [] ?_
      rw [hq]
      refine au [2, 3, 4, 5, 8, 1] ?_
      refine TK.cl rfl rfl rfl rfl (give_ok hT (n := (q : Int)) hse hf.names hf.seen) ?_
      rintro r163 K164 h165
      rcases h165 with ⟨hn2, rfl, rfl⟩ | ⟨hn2, j10, j11, rfl, rfl⟩
      ·refine au [] ?_
       have hgb := give_bar hck hql hn2
       refine au [1, 10, 10, 17, 2, 3, 4, 4, 5, 1, 6, 3, 20] ?_
       refine ⟨fun hc4 => ?_, fun hc4 => ?_⟩
       ·skip
        refine au [4, 5, 1, 6, 1] ?_
        refine TK.sp 163 (fun g16_3 => ?_) (fun g16_3 => ?_)
        ·refine au [11, 11, 26, 1, 8, 43] ?_
         refine TK.cl rfl rfl rfl rfl (same0_ok hT) ?_
         rintro r166 K167 ⟨rfl, rfl⟩
         refine au [26, 1] ?_
         refine TK.sp 172 (fun g16_12 => ?_) (fun g16_12 => ?_)
         ·refine TK.cl rfl rfl rfl rfl (sought_ok tame) ?_
          rintro r169 K170 ⟨rfl, rfl⟩
          refine au [26, 2, 3] ?_
          refine TK.rt hret [(0, _), (1, _), (s, _), (e, _)] ?_
          exact ⟨rfl, rfl⟩
         cases g16_12
        refine au [1, 6, 25, 1] ?_
        refine TK.sp 167 (fun g16_7 => ?_) (fun g16_7 => ?_)
        ·refine au [8, 43] ?_
         refine TK.cl rfl rfl rfl rfl (same0_ok hT) ?_
         rintro r172 K173 ⟨rfl, rfl⟩
         refine au [26, 1] ?_
         refine TK.sp 172 (fun g16_12 => ?_) (fun g16_12 => ?_)
         ·refine TK.cl rfl rfl rfl rfl (sought_ok tame) ?_
          rintro r175 K176 ⟨rfl, rfl⟩
          refine au [26, 2, 3] ?_
          refine TK.rt hret [(0, _), (1, _), (s, _), (e, _)] ?_
          exact ⟨rfl, rfl⟩
         cases g16_12
        rcases hgb with h | h
        ·rw [h] at g16_3; cases g16_3
        ·rw [h] at g16_7; cases g16_7
       exact absurd (by simpa using hc4) hn2
      ·refine au [] ?_
       obtain ⟨hgf, hcg, hsg⟩ := give_zero hck hql hn2
       refine TK.nd fun hnd => ?_
       have hj1011 : j10 ≠ j11 := fun h => by subst h; simp [keys] at hnd
       refine au [1, 10, 10, 17, 2, 3, 4, 4, 5, 1, 6, 3, 20] ?_
       refine ⟨fun hc4 => ?_, fun hc4 => ?_⟩
       ·cases hc4
       skip
       refine au [12, 4] ?_
       refine TK.draw [0, 1, 2, 3, 4, 5, 6, 7, 8, 9, 10, 11, 12, 13, 14, 15, 16] [0, 1, 2, 3, 4, 5, 6, 7, 8, 9, 10, 11, 12, 13, 14, 15, 16] (by kernel_rfl) (by kernel_rfl) ?_
       refine TD.y [20] rfl (hq := q_load rfl rfl TySz.h (List.Mem.head _) rfl) (h := ?_)
       refine TD.y [8] rfl (hq := q_load rfl rfl TySz.h (List.Mem.head _) rfl) (h := ?_)
       refine TD.z [23] rfl (q_move rfl rfl) ?_
       refine TD.cl (pend' := [⟨0, [20], [(_, _)]⟩]) [176, 177] rfl rfl rfl rfl rfl (givenR_ok hT hf.says hql) (fun r178 K179 h180 => ⟨?_, ?_⟩)
       ·rcases h180 with ⟨j12, rfl, rfl⟩
        all_goals simp
       obtain ⟨j12, rfl, rfl⟩ := h180
       try simp only [List.cons_append, List.nil_append]
       refine TD.norm (by simp only [List.set]; rfl) ?_
       refine TD.cl (pend' := []) [175, 178] rfl rfl rfl rfl rfl (sameB_ok hT (b := (giveB b q)) (s1 := j10) (e1 := j11) (s2 := j12) (e2 := e) (by simp [hearB, lookB, giveB]; omega) (by simp [hearB, lookB, giveB]; omega)) (fun r181 K182 h183 => ⟨?_, ?_⟩)
       ·rcases h183 with ⟨rfl, rfl⟩
        all_goals simp
       obtain ⟨rfl, rfl⟩ := h183
       try simp only [List.cons_append, List.nil_append]
       refine TD.norm (by simp only [List.set]; rfl) ?_
       refine TD.z [179] rfl (q_move rfl rfl) ?_
       refine TD.sp 180 (fun g17_6 => ?_) (fun g17_6 => ?_)
       ·refine TD.y [8, 180] rfl (hq := q_load rfl rfl TySz.h (List.Mem.head _) rfl) (h := ?_)
        refine TD.y [20, 180] rfl (hq := q_load rfl rfl TySz.h (List.Mem.head _) rfl) (h := ?_)
        refine TD.z [17, 180] rfl (q_move rfl rfl) ?_
        refine TD.z [18, 180] rfl (q_move rfl rfl) ?_
        refine TD.z [19, 180] rfl (q_move rfl rfl) ?_
        refine TD.cl (pend' := []) [180, 181, 182, 183, 184, 185] rfl rfl rfl rfl rfl (better_ok tame (was := b) (now := (giveB b q)) (lo := k5 % b.steps) (w := 1 + k6 % b.steps) (wh := whoM b k7) (less_give hb (bkOk_of hcg) hql hsg) hck (hcg) hse hj1011 hf.names (give_names hf.names) hf.seen (hf.seen) ⟨m5, m5'⟩ ⟨by omega, by omega⟩ ((who_is k7).imp id fun ⟨q, h1, h2⟩ => ⟨q, h1, h2, by rw [giveB_len]; exact h2, fun S _ => right_give _ _ _ _⟩)) (fun r184 K185 h186 => ⟨?_, ?_⟩)
        ·rcases h186 with ⟨rfl, rfl⟩
         all_goals simp
        obtain ⟨rfl, rfl⟩ := h186
        try simp only [List.cons_append, List.nil_append]
        refine TD.norm (by simp only [List.set]; rfl) ?_
        refine TD.z [180, 186] rfl (q_pickT rfl rfl rfl) ?_
        refine TD.z [187] rfl (q_move rfl rfl) ?_
        refine TD.sp 188 (fun g17_14 => ?_) (fun g17_14 => ?_)
        ·refine TD.cl (pend' := [⟨12, [180, 186], []⟩]) [188] rfl rfl rfl rfl rfl (sought_ok tame) (fun r187 K188 h189 => ⟨?_, ?_⟩)
         ·rcases h189 with ⟨rfl, rfl⟩
          all_goals simp
         obtain ⟨rfl, rfl⟩ := h189
         try simp only [List.cons_append, List.nil_append]
         refine TD.norm (by simp only [List.set]; rfl) ?_
         refine TD.z [188, 189] rfl (q_pickT rfl rfl rfl) ?_
         refine TD.as (pend' := []) [190] rfl rfl (q_assign rfl rfl) ?_
         refine TD.fin ?_
         refine au [] ?_
         refine TK.rt hret [(0, _), (1, _), (s, _), (e, _)] ?_
         exact ⟨rfl, rfl⟩
        cases g17_14
       cases g17_6
     refine TD.u [21, 133] rfl ?_
     refine TD.u [133, 134] rfl ?_
     refine TD.z [130, 133, 135] rfl (q_pickF rfl rfl rfl) ?_
     refine TD.z [130, 136] rfl (q_move rfl rfl) ?_
     refine TD.y [20, 137] rfl (hq := q_load rfl rfl TySz.h (List.Mem.head _) rfl) (h := ?_)
     refine TD.z [137] rfl (q_build (l := [_, _, _, _, _, _]) rfl TyZ.h BlOf.h rfl) ?_
     refine TD.cl (pend' := [⟨33, [130, 133, 135], []⟩, ⟨32, [133, 134], []⟩, ⟨31, [21, 133], []⟩, ⟨30, [130, 132], []⟩, ⟨29, [130, 131], []⟩, ⟨28, [21, 130], []⟩, ⟨27, [127, 129], []⟩, ⟨26, [127, 128], []⟩, ⟨25, [21, 127], []⟩, ⟨24, [126], []⟩, ⟨23, [105, 125], []⟩, ⟨22, [105, 117, 124], []⟩, ⟨21, [117, 123], []⟩, ⟨20, [117, 118, 119, 120, 121, 122], []⟩, ⟨19, [19, 117], []⟩, ⟨18, [18, 117], []⟩, ⟨17, [17, 117], []⟩, ⟨16, [20, 117], []⟩, ⟨15, [8, 117], []⟩, ⟨14, [105, 116], []⟩, ⟨13, [105, 112, 115], []⟩, ⟨12, [112, 114], []⟩, ⟨11, [112, 113], []⟩, ⟨10, [20, 112], []⟩, ⟨9, [105, 111], []⟩, ⟨8, [105, 110], []⟩, ⟨7, [105, 106, 109], []⟩, ⟨6, [105, 107, 108], []⟩, ⟨5, [22, 105], []⟩, ⟨4, [8, 105], []⟩, ⟨3, [20, 105], []⟩, ⟨2, [104], []⟩, ⟨1, [103], []⟩, ⟨0, [21], []⟩]) [137, 138, 139] rfl rfl rfl rfl rfl (same0_ok hT) (fun r190 K191 h192 => ⟨?_, ?_⟩)
     ·rcases h192 with ⟨rfl, rfl⟩
      all_goals simp
     obtain ⟨rfl, rfl⟩ := h192
     try simp only [List.cons_append, List.nil_append]
     refine TD.norm (by simp only [List.set]; rfl) ?_
     refine TD.z [137, 140] rfl (q_not rfl rfl) ?_
     refine TD.z [130, 137, 141] rfl (q_pickF rfl rfl rfl) ?_
     refine TD.z [127, 130, 142] rfl (q_pickT rfl rfl rfl) ?_
     refine TD.z [127, 143] rfl (q_pickF rfl rfl rfl) ?_
     refine TD.fin ?_
     refine au [20] ?_
     refine ⟨fun hc2 => ?_, fun hc2 => ?_⟩
     ·cases hc2
     refine au [12, 4, 4] ?_
     refine TK.kp [(jo, .cells [_, _, _, _, _, _] 27 true), (jx, _), (jb, _), (0, _), (1, _), (s, _), (e, _)] ?_
     refine au [5, 7, 9, 28, 6, 3, 20] ?_
     refine ⟨fun hc3 => ?_, fun hc3 => ?_⟩
     ·refine au [4, 5] ?_
      refine TK.cl rfl rfl rfl rfl (sought_ok tame) ?_
      rintro r193 K194 ⟨rfl, rfl⟩
      refine au [2, 3] ?_
      refine TK.rt hret [(0, _), (1, _), (s, _), (e, _)] ?_
      exact ⟨rfl, rfl⟩
     obtain ⟨q, hq, hql⟩ := who_some k4 (by simpa using hc3)
     refine au [12, 4, 5, 8, 1] ?_
     refine TK.cl rfl rfl rfl rfl (who_ok hT hk4 hf.says) ?_
     rintro r196 K197 ⟨rfl, rfl⟩
     refine au [] ?_
     rw [hq]
     refine au [2, 3, 4, 5, 8, 1] ?_
     refine TK.cl rfl rfl rfl rfl (give_ok hT (n := (q : Int)) hse hf.names hf.seen) ?_
     rintro r199 K200 h201
     rcases h201 with ⟨hn2, rfl, rfl⟩ | ⟨hn2, j10, j11, rfl, rfl⟩
     ·refine au [] ?_
      have hgb := give_bar hck hql hn2
      refine au [1, 10, 10, 17, 2, 3, 4, 4, 5, 1, 6, 3, 20] ?_
      refine ⟨fun hc4 => ?_, fun hc4 => ?_⟩
      ·skip
       refine au [4, 5, 1, 6, 1] ?_
       refine TK.sp 163 (fun g16_3 => ?_) (fun g16_3 => ?_)
       ·refine au [11, 11, 26, 1, 8, 43] ?_
        refine TK.cl rfl rfl rfl rfl (same0_ok hT) ?_
        rintro r202 K203 ⟨rfl, rfl⟩
        refine au [26, 1] ?_
        refine TK.sp 172 (fun g16_12 => ?_) (fun g16_12 => ?_)
        ·refine TK.cl rfl rfl rfl rfl (sought_ok tame) ?_
         rintro r205 K206 ⟨rfl, rfl⟩
         refine au [26, 2, 3] ?_
         refine TK.rt hret [(0, _), (1, _), (s, _), (e, _)] ?_
         exact ⟨rfl, rfl⟩
        cases g16_12
       refine au [1, 6, 25, 1] ?_
       refine TK.sp 167 (fun g16_7 => ?_) (fun g16_7 => ?_)
       ·refine au [8, 43] ?_
        refine TK.cl rfl rfl rfl rfl (same0_ok hT) ?_
        rintro r208 K209 ⟨rfl, rfl⟩
        refine au [26, 1] ?_
        refine TK.sp 172 (fun g16_12 => ?_) (fun g16_12 => ?_)
        ·refine TK.cl rfl rfl rfl rfl (sought_ok tame) ?_
         rintro r211 K212 ⟨rfl, rfl⟩
         refine au [26, 2, 3] ?_
         refine TK.rt hret [(0, _), (1, _), (s, _), (e, _)] ?_
         exact ⟨rfl, rfl⟩
        cases g16_12
       rcases hgb with h | h
       ·rw [h] at g16_3; cases g16_3
       ·rw [h] at g16_7; cases g16_7
      exact absurd (by simpa using hc4) hn2
     ·refine au [] ?_
      obtain ⟨hgf, hcg, hsg⟩ := give_zero hck hql hn2
      refine TK.nd fun hnd => ?_
      have hj1011 : j10 ≠ j11 := fun h => by subst h; simp [keys] at hnd
      refine au [1, 10, 10, 17, 2, 3, 4, 4, 5, 1, 6, 3, 20] ?_
      refine ⟨fun hc4 => ?_, fun hc4 => ?_⟩
      ·cases hc4
      skip
      refine au [12, 4] ?_
      refine TK.draw [0, 1, 2, 3, 4, 5, 6, 7, 8, 9, 10, 11, 12, 13, 14, 15, 16] [0, 1, 2, 3, 4, 5, 6, 7, 8, 9, 10, 11, 12, 13, 14, 15, 16] (by kernel_rfl) (by kernel_rfl) ?_
      refine TD.y [20] rfl (hq := q_load rfl rfl TySz.h (List.Mem.head _) rfl) (h := ?_)
      refine TD.y [8] rfl (hq := q_load rfl rfl TySz.h (List.Mem.head _) rfl) (h := ?_)
      refine TD.z [23] rfl (q_move rfl rfl) ?_
      refine TD.cl (pend' := [⟨0, [20], [(_, _)]⟩]) [176, 177] rfl rfl rfl rfl rfl (givenR_ok hT hf.says hql) (fun r214 K215 h216 => ⟨?_, ?_⟩)
      ·rcases h216 with ⟨j12, rfl, rfl⟩
       all_goals simp
      obtain ⟨j12, rfl, rfl⟩ := h216
      try simp only [List.cons_append, List.nil_append]
      refine TD.norm (by simp only [List.set]; rfl) ?_
      refine TD.cl (pend' := []) [175, 178] rfl rfl rfl rfl rfl (sameB_ok hT (b := (giveB b q)) (s1 := j10) (e1 := j11) (s2 := j12) (e2 := e) (by simp [hearB, lookB, giveB]; omega) (by simp [hearB, lookB, giveB]; omega)) (fun r217 K218 h219 => ⟨?_, ?_⟩)
      ·rcases h219 with ⟨rfl, rfl⟩
       all_goals simp
      obtain ⟨rfl, rfl⟩ := h219
      try simp only [List.cons_append, List.nil_append]
      refine TD.norm (by simp only [List.set]; rfl) ?_
      refine TD.z [179] rfl (q_move rfl rfl) ?_
      refine TD.sp 180 (fun g17_6 => ?_) (fun g17_6 => ?_)
      ·refine TD.y [8, 180] rfl (hq := q_load rfl rfl TySz.h (List.Mem.head _) rfl) (h := ?_)
       refine TD.y [20, 180] rfl (hq := q_load rfl rfl TySz.h (List.Mem.head _) rfl) (h := ?_)
       refine TD.z [17, 180] rfl (q_move rfl rfl) ?_
       refine TD.z [18, 180] rfl (q_move rfl rfl) ?_
       refine TD.z [19, 180] rfl (q_move rfl rfl) ?_
       refine TD.cl (pend' := []) [180, 181, 182, 183, 184, 185] rfl rfl rfl rfl rfl (better_ok tame (was := b) (now := (giveB b q)) (lo := k5 % b.steps) (w := 1 + k6 % b.steps) (wh := whoM b k7) (less_give hb (bkOk_of hcg) hql hsg) hck (hcg) hse hj1011 hf.names (give_names hf.names) hf.seen (hf.seen) ⟨m5, m5'⟩ ⟨by omega, by omega⟩ ((who_is k7).imp id fun ⟨q, h1, h2⟩ => ⟨q, h1, h2, by rw [giveB_len]; exact h2, fun S _ => right_give _ _ _ _⟩)) (fun r220 K221 h222 => ⟨?_, ?_⟩)
       ·rcases h222 with ⟨rfl, rfl⟩
        all_goals simp
       obtain ⟨rfl, rfl⟩ := h222
       try simp only [List.cons_append, List.nil_append]
       refine TD.norm (by simp only [List.set]; rfl) ?_
       refine TD.z [180, 186] rfl (q_pickT rfl rfl rfl) ?_
       refine TD.z [187] rfl (q_move rfl rfl) ?_
       refine TD.sp 188 (fun g17_14 => ?_) (fun g17_14 => ?_)
       ·refine TD.cl (pend' := [⟨12, [180, 186], []⟩]) [188] rfl rfl rfl rfl rfl (sought_ok tame) (fun r223 K224 h225 => ⟨?_, ?_⟩)
        ·rcases h225 with ⟨rfl, rfl⟩
         all_goals simp
        obtain ⟨rfl, rfl⟩ := h225
        try simp only [List.cons_append, List.nil_append]
        refine TD.norm (by simp only [List.set]; rfl) ?_
        refine TD.z [188, 189] rfl (q_pickT rfl rfl rfl) ?_
        refine TD.as (pend' := []) [190] rfl rfl (q_assign rfl rfl) ?_
        refine TD.fin ?_
        refine au [] ?_
        refine TK.rt hret [(0, _), (1, _), (s, _), (e, _)] ?_
        exact ⟨rfl, rfl⟩
       cases g17_14
      cases g17_6
    exact absurd (by simpa using g9_28) hn1
   ·refine au [] ?_
    obtain ⟨hcl, hsl⟩ := news_zero hck hn1
    refine TK.nd fun hnd => ?_
    have hj78 : j7 ≠ j8 := fun h => by subst h; simp [keys] at hnd
    refine au [1, 10, 10, 17, 2, 3, 4, 4] ?_
    refine TK.draw [0, 1, 2, 3, 4, 5, 6, 7, 8, 9, 10, 11, 12, 13, 14, 15, 16, 17, 18, 19, 20, 21, 22, 23, 24, 25, 26, 27, 28, 29, 30, 31, 32, 33, 34, 35, 36, 37, 38, 39, 40, 41] [0, 1, 2, 3, 4, 5, 6, 7, 8, 9, 10, 11, 12, 13, 14, 15, 16, 17, 18, 19, 20, 21, 22, 23, 24, 25, 26, 27, 28, 29, 30, 31, 32, 33, 34, 35, 36, 37, 38, 39, 40, 41] (by kernel_rfl) (by kernel_rfl) ?_
    refine TD.z [21] rfl (q_move rfl rfl) ?_
    refine TD.z [103] rfl (q_cmp rfl rfl rfl rfl) ?_
    refine TD.z [104] rfl (q_move rfl rfl) ?_
    refine TD.sp 105 (fun g9_3 => ?_) (fun g9_3 => ?_)
    ·skip
     refine TD.y [20, 105] rfl (hq := q_load rfl rfl TySz.h (List.Mem.head _) rfl) (h := ?_)
     refine TD.y [8, 105] rfl (hq := q_load rfl rfl TySz.h (List.Mem.head _) rfl) (h := ?_)
     refine TD.y [22, 105] rfl (hq := q_load rfl rfl TySz.h (List.Mem.head _) rfl) (h := ?_)
     refine TD.cl (pend' := [⟨3, [20, 105], [(_, _)]⟩, ⟨1, [103], []⟩, ⟨0, [21], []⟩]) [105, 107, 108] rfl rfl rfl rfl rfl (lookedR_ok hT (x := ⟨k3 % b.steps, sm⟩) hf.seen) (fun r226 K227 h228 => ⟨?_, ?_⟩)
     ·rcases h228 with ⟨j9, rfl, rfl⟩
      all_goals simp
     obtain ⟨j9, rfl, rfl⟩ := h228
     try simp only [List.cons_append, List.nil_append]
     refine TD.norm (by simp only [List.set]; rfl) ?_
     refine TD.cl (pend' := [⟨1, [103], []⟩, ⟨0, [21], []⟩]) [105, 106, 109] rfl rfl rfl rfl rfl (sameB_ok hT (b := (lookB b ⟨k3 % b.steps, sm⟩)) (s1 := j7) (e1 := j8) (s2 := s) (e2 := j9) (by simp [hearB, lookB, giveB]; omega) (by simp [hearB, lookB, giveB]; omega)) (fun r229 K230 h231 => ⟨?_, ?_⟩)
     ·rcases h231 with ⟨rfl, rfl⟩
      all_goals simp
     obtain ⟨rfl, rfl⟩ := h231
     try simp only [List.cons_append, List.nil_append]
     refine TD.norm (by simp only [List.set]; rfl) ?_
     refine TD.z [105, 110] rfl (q_not rfl rfl) ?_
     refine TD.z [105, 111] rfl (q_move rfl rfl) ?_
     refine TD.sp 112 (fun g9_10 => ?_) (fun g9_10 => ?_)
     ·cases g9_10
     refine TD.y [20, 112] rfl (hq := q_load rfl rfl TySz.h (List.Mem.head _) rfl) (h := ?_)
     refine TD.cl (pend' := [⟨8, [105, 110], []⟩, ⟨1, [103], []⟩, ⟨0, [21], []⟩]) [112, 113] rfl rfl rfl rfl rfl (checkR_ok hT (b := (lookB b ⟨k3 % b.steps, sm⟩)) hj78 hf.names (by simp [lookB]; omega) (by simp [lookB]; omega)) (fun r232 K233 h234 => ⟨?_, ?_⟩)
     ·rcases h234 with ⟨rfl, rfl⟩
      all_goals simp
     obtain ⟨rfl, rfl⟩ := h234
     try simp only [List.cons_append, List.nil_append]
     refine TD.norm (by simp only [List.set]; rfl) ?_
     rw [hcl]
     refine TD.z [112, 114] rfl (q_cmp rfl rfl rfl rfl) ?_
     refine TD.z [105, 112, 115] rfl (q_pickF rfl rfl rfl) ?_
     refine TD.z [105, 116] rfl (q_move rfl rfl) ?_
     refine TD.sp 117 (fun g9_15 => ?_) (fun g9_15 => ?_)
     ·cases g9_15
     refine TD.y [8, 117] rfl (hq := q_load rfl rfl TySz.h (List.Mem.head _) rfl) (h := ?_)
     refine TD.y [20, 117] rfl (hq := q_load rfl rfl TySz.h (List.Mem.head _) rfl) (h := ?_)
     refine TD.z [17, 117] rfl (q_move rfl rfl) ?_
     refine TD.z [18, 117] rfl (q_move rfl rfl) ?_
     refine TD.z [19, 117] rfl (q_move rfl rfl) ?_
     refine TD.cl (pend' := [⟨13, [105, 112, 115], []⟩, ⟨12, [112, 114], []⟩, ⟨8, [105, 110], []⟩, ⟨1, [103], []⟩, ⟨0, [21], []⟩]) [117, 118, 119, 120, 121, 122] rfl rfl rfl rfl rfl (better_ok tame (was := b) (now := (lookB b ⟨k3 % b.steps, sm⟩)) (lo := k5 % b.steps) (w := 1 + k6 % b.steps) (wh := whoM b k7) (less_look hb (bkOk_of hcl) hsl) hck (hcl) hse hj78 hf.names (hf.names) hf.seen (by simp [lookB]; omega) ⟨m5, m5'⟩ ⟨by omega, by omega⟩ ((who_is k7).imp id fun ⟨q, h1, h2⟩ => ⟨q, h1, h2, h2, fun S _ => rfl⟩)) (fun r235 K236 h237 => ⟨?_, ?_⟩)
     ·rcases h237 with ⟨rfl, rfl⟩
      all_goals simp
     obtain ⟨rfl, rfl⟩ := h237
     try simp only [List.cons_append, List.nil_append]
     refine TD.norm (by simp only [List.set]; rfl) ?_
     refine TD.z [117, 123] rfl (q_not rfl rfl) ?_
     refine TD.z [105, 117, 124] rfl (q_pickF rfl rfl rfl) ?_
     refine TD.z [105, 125] rfl (q_pickT rfl rfl rfl) ?_
     refine TD.z [126] rfl (q_move rfl rfl) ?_
     refine TD.sp 127 (fun g9_25 => ?_) (fun g9_25 => ?_)
     ·cases g9_25
     refine TD.z [21, 127] rfl (q_move rfl rfl) ?_
     refine TD.z [127, 128] rfl (q_cmp rfl rfl rfl rfl) ?_
     refine TD.z [127, 129] rfl (q_move rfl rfl) ?_
     refine TD.sp 130 (fun g9_28 => ?_) (fun g9_28 => ?_)
     ·cases g9_28
     skip
     refine TD.u [21, 130] rfl ?_
     refine TD.u [130, 131] rfl ?_
     refine TD.u [130, 132] rfl ?_
     refine TD.u [21, 133] rfl ?_
     refine TD.u [133, 134] rfl ?_
     refine TD.u [130, 133, 135] rfl ?_
     refine TD.u [130, 136] rfl ?_
     refine TD.u [20, 137] rfl ?_
     refine TD.u [137] rfl ?_
     refine TD.u [137, 138, 139] rfl ?_
     refine TD.u [137, 140] rfl ?_
     refine TD.u [130, 137, 141] rfl ?_
     refine TD.z [127, 130, 142] rfl (q_pickF rfl rfl rfl) ?_
     refine TD.z [127, 143] rfl (q_pickF rfl rfl rfl) ?_
     refine TD.fin ?_
     refine au [19, 12, 4, 4] ?_
     refine TK.kp [(jo, .cells [_, _, _, _, _, _] 27 true), (jx, _), (jb, _), (0, _), (1, _), (s, _), (e, _)] ?_
     refine au [5, 7, 9, 28, 6, 3, 20] ?_
     refine ⟨fun hc3 => ?_, fun hc3 => ?_⟩
     ·refine au [4, 5] ?_
      refine TK.cl rfl rfl rfl rfl (sought_ok tame) ?_
      rintro r238 K239 ⟨rfl, rfl⟩
      refine au [2, 3] ?_
      refine TK.rt hret [(0, _), (1, _), (s, _), (e, _)] ?_
      exact ⟨rfl, rfl⟩
     obtain ⟨q, hq, hql⟩ := who_some k4 (by simpa using hc3)
     refine au [12, 4, 5, 8, 1] ?_
     refine TK.cl rfl rfl rfl rfl (who_ok hT hk4 hf.says) ?_
     rintro r241 K242 ⟨rfl, rfl⟩
     refine au [] ?_
     rw [hq]
     refine au [2, 3, 4, 5, 8, 1] ?_
     refine TK.cl rfl rfl rfl rfl (give_ok hT (n := (q : Int)) hse hf.names hf.seen) ?_
     rintro r244 K245 h246
     rcases h246 with ⟨hn2, rfl, rfl⟩ | ⟨hn2, j10, j11, rfl, rfl⟩
     ·refine au [] ?_
      have hgb := give_bar hck hql hn2
      refine au [1, 10, 10, 17, 2, 3, 4, 4, 5, 1, 6, 3, 20] ?_
      refine ⟨fun hc4 => ?_, fun hc4 => ?_⟩
      ·skip
       refine au [4, 5, 1, 6, 1] ?_
       refine TK.sp 163 (fun g16_3 => ?_) (fun g16_3 => ?_)
       ·refine au [11, 11, 26, 1, 8, 43] ?_
        refine TK.cl rfl rfl rfl rfl (same0_ok hT) ?_
        rintro r247 K248 ⟨rfl, rfl⟩
        refine au [26, 1] ?_
        refine TK.sp 172 (fun g16_12 => ?_) (fun g16_12 => ?_)
        ·refine TK.cl rfl rfl rfl rfl (sought_ok tame) ?_
         rintro r250 K251 ⟨rfl, rfl⟩
         refine au [26, 2, 3] ?_
         refine TK.rt hret [(0, _), (1, _), (s, _), (e, _)] ?_
         exact ⟨rfl, rfl⟩
        cases g16_12
       refine au [1, 6, 25, 1] ?_
       refine TK.sp 167 (fun g16_7 => ?_) (fun g16_7 => ?_)
       ·refine au [8, 43] ?_
        refine TK.cl rfl rfl rfl rfl (same0_ok hT) ?_
        rintro r253 K254 ⟨rfl, rfl⟩
        refine au [26, 1] ?_
        refine TK.sp 172 (fun g16_12 => ?_) (fun g16_12 => ?_)
        ·refine TK.cl rfl rfl rfl rfl (sought_ok tame) ?_
         rintro r256 K257 ⟨rfl, rfl⟩
         refine au [26, 2, 3] ?_
         refine TK.rt hret [(0, _), (1, _), (s, _), (e, _)] ?_
         exact ⟨rfl, rfl⟩
        cases g16_12
       rcases hgb with h | h
       ·rw [h] at g16_3; cases g16_3
       ·rw [h] at g16_7; cases g16_7
      exact absurd (by simpa using hc4) hn2
     ·refine au [] ?_
      obtain ⟨hgf, hcg, hsg⟩ := give_zero hck hql hn2
      refine TK.nd fun hnd => ?_
      have hj1011 : j10 ≠ j11 := fun h => by subst h; simp [keys] at hnd
      refine au [1, 10, 10, 17, 2, 3, 4, 4, 5, 1, 6, 3, 20] ?_
      refine ⟨fun hc4 => ?_, fun hc4 => ?_⟩
      ·cases hc4
      skip
      refine au [12, 4] ?_
      refine TK.draw [0, 1, 2, 3, 4, 5, 6, 7, 8, 9, 10, 11, 12, 13, 14, 15, 16] [0, 1, 2, 3, 4, 5, 6, 7, 8, 9, 10, 11, 12, 13, 14, 15, 16] (by kernel_rfl) (by kernel_rfl) ?_
      refine TD.y [20] rfl (hq := q_load rfl rfl TySz.h (List.Mem.head _) rfl) (h := ?_)
      refine TD.y [8] rfl (hq := q_load rfl rfl TySz.h (List.Mem.head _) rfl) (h := ?_)
      refine TD.z [23] rfl (q_move rfl rfl) ?_
      refine TD.cl (pend' := [⟨0, [20], [(_, _)]⟩]) [176, 177] rfl rfl rfl rfl rfl (givenR_ok hT hf.says hql) (fun r259 K260 h261 => ⟨?_, ?_⟩)
      ·rcases h261 with ⟨j12, rfl, rfl⟩
       all_goals simp
      obtain ⟨j12, rfl, rfl⟩ := h261
      try simp only [List.cons_append, List.nil_append]
      refine TD.norm (by simp only [List.set]; rfl) ?_
      refine TD.cl (pend' := []) [175, 178] rfl rfl rfl rfl rfl (sameB_ok hT (b := (giveB b q)) (s1 := j10) (e1 := j11) (s2 := j12) (e2 := e) (by simp [hearB, lookB, giveB]; omega) (by simp [hearB, lookB, giveB]; omega)) (fun r262 K263 h264 => ⟨?_, ?_⟩)
      ·rcases h264 with ⟨rfl, rfl⟩
       all_goals simp
      obtain ⟨rfl, rfl⟩ := h264
      try simp only [List.cons_append, List.nil_append]
      refine TD.norm (by simp only [List.set]; rfl) ?_
      refine TD.z [179] rfl (q_move rfl rfl) ?_
      refine TD.sp 180 (fun g17_6 => ?_) (fun g17_6 => ?_)
      ·refine TD.y [8, 180] rfl (hq := q_load rfl rfl TySz.h (List.Mem.head _) rfl) (h := ?_)
       refine TD.y [20, 180] rfl (hq := q_load rfl rfl TySz.h (List.Mem.head _) rfl) (h := ?_)
       refine TD.z [17, 180] rfl (q_move rfl rfl) ?_
       refine TD.z [18, 180] rfl (q_move rfl rfl) ?_
       refine TD.z [19, 180] rfl (q_move rfl rfl) ?_
       refine TD.cl (pend' := []) [180, 181, 182, 183, 184, 185] rfl rfl rfl rfl rfl (better_ok tame (was := b) (now := (giveB b q)) (lo := k5 % b.steps) (w := 1 + k6 % b.steps) (wh := whoM b k7) (less_give hb (bkOk_of hcg) hql hsg) hck (hcg) hse hj1011 hf.names (give_names hf.names) hf.seen (hf.seen) ⟨m5, m5'⟩ ⟨by omega, by omega⟩ ((who_is k7).imp id fun ⟨q, h1, h2⟩ => ⟨q, h1, h2, by rw [giveB_len]; exact h2, fun S _ => right_give _ _ _ _⟩)) (fun r265 K266 h267 => ⟨?_, ?_⟩)
       ·rcases h267 with ⟨rfl, rfl⟩
        all_goals simp
       obtain ⟨rfl, rfl⟩ := h267
       try simp only [List.cons_append, List.nil_append]
       refine TD.norm (by simp only [List.set]; rfl) ?_
       refine TD.z [180, 186] rfl (q_pickT rfl rfl rfl) ?_
       refine TD.z [187] rfl (q_move rfl rfl) ?_
       refine TD.sp 188 (fun g17_14 => ?_) (fun g17_14 => ?_)
       ·refine TD.cl (pend' := [⟨12, [180, 186], []⟩]) [188] rfl rfl rfl rfl rfl (sought_ok tame) (fun r268 K269 h270 => ⟨?_, ?_⟩)
        ·rcases h270 with ⟨rfl, rfl⟩
         all_goals simp
        obtain ⟨rfl, rfl⟩ := h270
        try simp only [List.cons_append, List.nil_append]
        refine TD.norm (by simp only [List.set]; rfl) ?_
        refine TD.z [188, 189] rfl (q_pickT rfl rfl rfl) ?_
        refine TD.as (pend' := []) [190] rfl rfl (q_assign rfl rfl) ?_
        refine TD.fin ?_
        refine au [] ?_
        refine TK.rt hret [(0, _), (1, _), (s, _), (e, _)] ?_
        exact ⟨rfl, rfl⟩
       cases g17_14
      cases g17_6
    cases g9_3
  cases g5_3
end Go.Vel
end
section
set_option linter.all false
set_option maxRecDepth 20000
set_option maxHeartbeats 60000000
namespace Go.Vel
open Go Go.Conc Go.Proofs Go.ChangeShapes Go.WideShapes Go.ChangeAt Go.RowKit
open Go.Proofs.YtpdioiojfgknbaaGreatDoor (Tryz.pinned)
def seekerLearntPhi (x0a x0b : Value) : Nat → Loc3
 | 0 => ⟨0, 0, 0⟩
 | 1 => ⟨1, 0, 0⟩
 | 2 => locV x0a
 | 3 => locV x0b
 | _ => ⟨0, 0, 0⟩
theorem seekerLearnt_run {W : World} (hl : laidMetH Tryz.prog tblLaid W) {b0 : Bk} {x0a x0b : Value} {z1 : Says} {k2 : Bool} {k3 : Int} {k4 : Int} {k5 : Int} {k6 : Int} {k7 : Int} (h0a : SlIn W saysV 5 b0.seekers x0a) (h0b : SlIn W seenV 2 b0.seen x0b) (h3 : 0 ≤ k3 ∧ k3 < 256) (h4 : 0 ≤ k4 ∧ k4 < 256) (h5 : 0 ≤ k5 ∧ k5 < 256) (h6 : 0 ≤ k6 ∧ k6 < 256) (h7 : 0 ≤ k7 ∧ k7 < 256) :
  ∃ M last o w' t', runNT Tryz.prog (M + 1) (solo (G (Frame.enter Tryz.prog 3 #[.agg #[.int .i64 b0.steps, .int .i64 b0.wrong, .int .i64 b0.low, .int .i64 b0.high, x0a, x0b], .agg (saysV z1).toArray, .bool k2, .int .u8 k3, .int .u8 k4, .int .u8 k5, .int .u8 k6, .int .u8 k7] .normal) []) W) #[] = (.ended o w', t') ∧
   runN Tryz.prog M (solo (G (Frame.enter Tryz.prog 3 #[.agg #[.int .i64 b0.steps, .int .i64 b0.wrong, .int .i64 b0.low, .int .i64 b0.high, x0a, x0b], .agg (saysV z1).toArray, .bool k2, .int .u8 k3, .int .u8 k4, .int .u8 k5, .int .u8 k6, .int .u8 k7] .normal) []) W) = .next last ∧
   step Tryz.prog last = .ended o w' ∧ Conc.Good Tryz.prog (fun v w => v = .bool true ∧ w.os = W.os ∧ w.output = W.output ∧ KeptAll W w) last o w' t' := by
 refine good_run (R := fun v w => v = .bool true ∧ KeptAll W w) (R' := fun v w => v = .bool true ∧ w.os = W.os ∧ w.output = W.output ∧ KeptAll W w) Tryz.func3 rfl (by kernel_rfl) (fun v w' ho hu hr => ⟨hr.1, ho, hu, hr.2⟩) (fun v w τ d h => h) (holdAll_fits W) ?_
 obtain ⟨ht0, ht1⟩ := of_laid hl
 refine lawLearnt_top (b := b0) (s := 2) (e := 3) (x := z1) (sm := k2) (k3 := k3) (k4 := k4) (k5 := k5) (k6 := k6) (k7 := k7) (by decide) h3 h4 h5 h6 h7 (A := [checksG, saysG, saysO b0, seenO b0]) (φ := seekerLearntPhi x0a x0b) (F := holdAll W) ?_ ?_ ?_ ?_ ?_ ?_
 ·intro x hx
  simp only [List.mem_cons, List.not_mem_nil, or_false] at hx
  rcases hx with rfl | rfl | rfl | rfl <;> rfl
 ·simp [keys]
 ·intro g i hg
  match g, hg with
  | 0, hg => cases hg; exact ⟨by simp, rfl, rfl⟩
  | 1, hg => cases hg; exact ⟨by simp, rfl, rfl⟩
  | g + 2, hg => cases hg
 ·refine ⟨fun i o ho => ?_, fun i j o o' hi _ _ hx => ?_, fun b x h => h, fun i o hi hx => ?_⟩
  ·match i, ho with
   | 0, ho => cases ho; exact tbl_rel ht0
   | 1, ho => cases ho; exact tbl_rel ht1
   | 2, ho => cases ho; exact relO_in h0a (fun _ => rfl) says_rel
   | 3, ho => cases ho; exact relO_in h0b (fun _ => rfl) seen_rel
   | i + 4, ho => simp at ho
  ·match i, hi with
   | 0, hi => cases hi; cases hx
   | 1, hi => cases hi; cases hx
   | 2, hi => cases hi; cases hx
   | 3, hi => cases hi; cases hx
   | i + 4, hi => simp at hi
  ·match i, hi with
   | 0, hi => cases hi; cases hx
   | 1, hi => cases hi; cases hx
   | 2, hi => cases hi; cases hx
   | 3, hi => cases hi; cases hx
   | i + 4, hi => simp at hi
 ·refine ⟨rfl, fun j a y ha hy => ?_⟩
  match j, ha, hy with
  | 0, ha, hy =>
   cases ha; cases hy
   refine .agg rfl fun t u z hu hz => ?_
   match t, hu, hz with
   | 0, hu, hz => cases hu; cases hz; exact .v _
   | 1, hu, hz => cases hu; cases hz; exact .v _
   | 2, hu, hz => cases hu; cases hz; exact .v _
   | 3, hu, hz => cases hu; cases hz; exact .v _
   | 4, hu, hz => cases hu; cases hz; exact relV_in h0a (by simp) rfl
   | 5, hu, hz => cases hu; cases hz; exact relV_in h0b (by simp) rfl
   | t + 6, hu, hz => simp [bookC] at hu
  | 1, ha, hy =>
   cases ha; cases hy
   refine .agg rfl fun t u y hu hy => ?_
   obtain ⟨y', h1, h2⟩ := says_rel z1 t u hu
   have h3 : (saysV z1)[t]? = some y := by simpa using hy
   rw [h1] at h3
   cases h3
   exact h2
  | 2, ha, hy =>
   cases ha; cases hy; exact .v _
  | 3, ha, hy =>
   cases ha; cases hy; exact .v _
  | 4, ha, hy =>
   cases ha; cases hy; exact .v _
  | 5, ha, hy =>
   cases ha; cases hy; exact .v _
  | 6, ha, hy =>
   cases ha; cases hy; exact .v _
  | 7, ha, hy =>
   cases ha; cases hy; exact .v _
  | j + 8, ha, hy => simp at ha
 ·rintro r K' φ' A' H' v w ⟨rfl, _⟩ hH' hv' hfit
  refine ⟨inv_v hv', fun i hi => ?_⟩
  have hh := Array.getElem?_eq_getElem hi
  rw [hh]
  exact hfit i false _ (hH'.fr _ _ (holdAll_get hh))
set_option maxRecDepth 100000 in
theorem seekerLearnt_lifted (os : Os) (started : os.Started) (H : Type) (enc : TypeId × Value → H) :
  ReturnsInLeavingWide Go.Proofs.YtpdioiojfgknbaaGreatDoor.Rows.seekerLearntRow.assume Tryz.checked os 3 .any (Go.Proofs.YtpdioiojfgknbaaGreatDoor.Rows.seekerLearntRow.pre enc Tryz.prog Tryz.f3 (OpenSpec.ofChange Go.Proofs.YtpdioiojfgknbaaGreatDoor.Rows.seekerLearntSpec))
   (Go.Proofs.YtpdioiojfgknbaaGreatDoor.Rows.seekerLearntSpec.post enc Tryz.prog Tryz.f3 false true false false) := by
 refine returnsInLeavingWide_of_good (C := Tryz.checked) own started
  (ChangeSpec.witness_shaped (enc := enc) (C := Tryz.checked) (os := os) (X := fun w _ => laidMetH Tryz.prog tblLaid w) false (World.doorLaid Tryz.prog 400 os) #[.agg #[.int .i64 0, .int .i64 0, .int .i64 0, .int .i64 0, .slice none 0 0, .slice none 0 0], .agg #[.string ⟨#[]⟩, .int .i64 0, .int .i64 0, .int .i64 0, .bool false], .bool false, .int .u8 0, .int .u8 0, .int .u8 0, .int .u8 0, .int .u8 0] 8 rfl (World.shaped_of_RefB (by kernel_rfl) (by kernel_rfl)) (by kernel_rfl) (by kernel_rfl) (by kernel_rfl) (door_met os _)) ?_
 intro w tape i _ _ _ hok hpre _
 obtain ⟨_, _, _, fn', hfn', _, _, _, _, hval0⟩ := hok
 obtain rfl : fn' = Tryz.f3 := Option.some.inj (hfn'.symm.trans Tryz.func3)
 obtain ⟨⟨⟨ds, gs, before, hw, hc⟩, hL0⟩, _⟩ := hpre
 have hW := DataW.Whole.of_heap (w' := w.forCall tape i) (by rfl) hw
 have hL : laidMetH Tryz.prog tblLaid (w.forCall tape i) := laidMetH.of_heap (by rfl) hL0
 obtain ⟨bl, args, vars⟩ := i
 generalize w.forCall tape ⟨bl, args, vars⟩ = W at hW hL hval0 ⊢
 have hW' := hW
 obtain ⟨p, q, hA0, hV0, rfl, _, _⟩ := hW
 have hA : DataW.TrodAll enc Tryz.prog W 0 (fun _ => true) true [27, 30, 4, 5, 5, 5, 5, 5] args.toList ds p := hA0
 obtain ⟨v0, u0, d0, ds0, p0, q0, hargs, rfl, rfl, t0, hr0⟩ := trodAll_cons hA
 obtain ⟨v1, u1, d1, ds1, p1, q1, rfl, rfl, rfl, t1, hr1⟩ := trodAll_cons hr0
 obtain ⟨v2, u2, d2, ds2, p2, q2, rfl, rfl, rfl, t2, hr2⟩ := trodAll_cons hr1
 obtain ⟨v3, u3, d3, ds3, p3, q3, rfl, rfl, rfl, t3, hr3⟩ := trodAll_cons hr2
 obtain ⟨v4, u4, d4, ds4, p4, q4, rfl, rfl, rfl, t4, hr4⟩ := trodAll_cons hr3
 obtain ⟨v5, u5, d5, ds5, p5, q5, rfl, rfl, rfl, t5, hr5⟩ := trodAll_cons hr4
 obtain ⟨v6, u6, d6, ds6, p6, q6, rfl, rfl, rfl, t6, hr6⟩ := trodAll_cons hr5
 obtain ⟨v7, u7, d7, ds7, p7, q7, rfl, rfl, rfl, t7, hr7⟩ := trodAll_cons hr6
 obtain ⟨rfl, rfl, rfl⟩ := trodAll_nil hr7
 obtain rfl : args = #[v0, v1, v2, v3, v4, v5, v6, v7] := by cases args; simp_all
 obtain ⟨rfl, rfl⟩ := trodVars_none hV0
 obtain ⟨b0, x0a, x0b, rfl, s0a, s0b⟩ := open_book (okAgg Tryz.underlying27 (hval0 0 27 v0 rfl rfl)) t0
 obtain ⟨z1, rfl⟩ := open_says (okAgg Tryz.underlying30 (hval0 1 30 v1 rfl rfl)) t1
 obtain ⟨k2, rfl, rfl, rfl⟩ := open_bool Tryz.underlying4 (hval0 2 4 v2 rfl rfl) t2
 obtain ⟨k3, rfl, rfl, rfl, s3⟩ := open_int Tryz.underlying5 (hval0 3 5 v3 rfl rfl) t3
 obtain ⟨k4, rfl, rfl, rfl, s4⟩ := open_int Tryz.underlying5 (hval0 4 5 v4 rfl rfl) t4
 obtain ⟨k5, rfl, rfl, rfl, s5⟩ := open_int Tryz.underlying5 (hval0 5 5 v5 rfl rfl) t5
 obtain ⟨k6, rfl, rfl, rfl, s6⟩ := open_int Tryz.underlying5 (hval0 6 5 v6 rfl rfl) t6
 obtain ⟨k7, rfl, rfl, rfl, s7⟩ := open_int Tryz.underlying5 (hval0 7 5 v7 rfl rfl) t7
 obtain ⟨M, last, o, w', t', g1, g2, g3, g4⟩ := seekerLearnt_run hL s0a s0b (u8_wf s3) (u8_wf s4) (u8_wf s5) (u8_wf s6) (u8_wf s7) (k2 := k2) (z1 := z1)
 refine ⟨M, last, o, w', t', g1, g2, g3, g4.mono fun v hF => ?_⟩
 obtain ⟨rfl, ho, hu, hkp⟩ := hF
 refine ChangeSpec.post_blind ?_
 exact ⟨_, _, _, [], _, [], hW', trodAll_mk1 (shut_bool Tryz.underlying4 true), ⟨_, _, trod_mono laid_out t0 hkp, ⟨_, _, trod_mono laid_out t1 hkp, ⟨_, _, trod_mono laid_out t2 hkp, ⟨_, _, trod_mono laid_out t3 hkp, ⟨_, _, trod_mono laid_out t4 hkp, ⟨_, _, trod_mono laid_out t5 hkp, ⟨_, _, trod_mono laid_out t6 hkp, ⟨_, _, trod_mono laid_out t7 hkp, trodAll_mk0, rfl⟩, rfl⟩, rfl⟩, rfl⟩, rfl⟩, rfl⟩, rfl⟩, rfl⟩, rfl, kept_but ho hu hkp _, fun h => by cases h⟩
open Go.Proofs.YtpdioiojfgknbaaGreatDoor in
theorem seekerLearnt_said : Rows.SeekerLearntSaid :=
 OpenClaim.holds_of_wide_leaving 3 Tryz.f3 rfl rfl rfl rfl rfl rfl rfl ⟨rfl, rfl, rfl, rfl, rfl⟩ rfl rfl rfl rfl rfl (by kernel_rfl) Tryz.func3 (by kernel_rfl)
  (of_decide_eq_true (by kernel_rfl)) (by unfold Func.isWrapper; first | (rw [if_pos (by decide +kernel)]; kernel_rfl) | (rw [if_neg (by decide +kernel)]; exact ⟨rfl, rfl⟩))
  (fun os started H enc _ => seekerLearnt_lifted os started H enc)
end Go.Vel
namespace Go.Proofs.YtpdioiojfgknbaaGreatDoor
open Go
theorem seekerLearnt_holds : Rows.SeekerLearntCardSaid :=
 Go.Vel.holds_tied_goes .later [.funcs, .funcs] true (true, "37dd52168c01ab0eac968363d817f0761de49dbe13f8b8dbc59b7d9be7780b69") false
  Go.Vel.seekerLearnt_said (by kernel_rfl) seekerLearnt_row_tie rfl ⟨rfl, rfl⟩ (by kernel_rfl) rfl
  (fun f fn hf hfn => by
   obtain rfl : f = 3 := Option.some.inj ((show Tryz.prog.funcNamed "velarium/velariumlaw09.SeekerLearnt" = some 3 by kernel_rfl).symm.trans hf) |>.symm
   obtain rfl : fn = Tryz.f3 := (Option.some.inj (Tryz.func3.symm.trans hfn)).symm
   exact ⟨by kernel_rfl, fun j t ht => by
    rw [Tryz.params3] at ht
    have hm : t ∈ [27, 30, 4, 5, 5, 5, 5, 5] := by simpa using Array.mem_of_getElem? ht
    have hall : ([27, 30, 4, 5, 5, 5, 5, 5].all fun u => !Tryz.prog.wantsStandIn u) = true := by kernel_rfl
    exact (show Tryz.prog.wantsStandIn t = false by simpa using List.all_eq_true.1 hall t hm)⟩)
  (by kernel_rfl)
#print axioms seekerLearnt_holds
end Go.Proofs.YtpdioiojfgknbaaGreatDoor
end
