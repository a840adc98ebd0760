/- Texts for the statements of chapter 8: what all of them need, part 10. It holds of every program, tape and world that the statements name, as each theorem says. -/
import Derived.Test.YtamcohjpanjdiaaGreatDoorV8
section
set_option linter.all false
set_option maxRecDepth 20000
set_option maxHeartbeats 60000000
namespace Go.Vel
open Go Go.Conc Go.Proofs
instance:BlOf Tryz.prog 49 [(0,1),(1,1),(2,1)]:=⟨by kernel_rfl⟩
instance:Cal Tryz.prog 20:=⟨by kernel_rfl⟩
instance:Cal Tryz.prog 22:=⟨by kernel_rfl⟩
instance:Cal Tryz.prog 26:=⟨by kernel_rfl⟩
instance:Cal Tryz.prog 27:=⟨by kernel_rfl⟩
instance:Cal Tryz.prog 30:=⟨by kernel_rfl⟩
instance:Cal Tryz.prog 32:=⟨by kernel_rfl⟩
instance:Cal Tryz.prog 34:=⟨by kernel_rfl⟩
instance:Cal Tryz.prog 36:=⟨by kernel_rfl⟩
instance:Cal Tryz.prog 38:=⟨by kernel_rfl⟩
instance:Cal Tryz.prog 40:=⟨by kernel_rfl⟩
instance:Cal Tryz.prog 42:=⟨by kernel_rfl⟩
instance:Cal Tryz.prog 45:=⟨by kernel_rfl⟩
instance:Cal Tryz.prog 47:=⟨by kernel_rfl⟩
instance:Cal Tryz.prog 51:=⟨by kernel_rfl⟩
instance:Cal Tryz.prog 52:=⟨by kernel_rfl⟩
instance:Cal Tryz.prog 53:=⟨by kernel_rfl⟩
instance:Cal Tryz.prog 54:=⟨by kernel_rfl⟩
instance:Cal Tryz.prog 59:=⟨by kernel_rfl⟩
instance:Cal Tryz.prog 70:=⟨by kernel_rfl⟩
instance:Cal Tryz.prog 88:=⟨by kernel_rfl⟩
instance:Cal Tryz.prog 89:=⟨by kernel_rfl⟩
instance:EqG Tryz.prog 51:=⟨by kernel_rfl⟩
instance:FlatF Tryz.prog 51 [(3,0),(3,1)]:=⟨by kernel_rfl⟩
instance {a0 a1 a2 a3 a4 a5 a6 a7 a8 a9 a10 a11 a12 a13 a14 a15 a16 a17 a18 a19 a20 a21 a22 a23 a24 a25 a26 a27 a28 a29 a30 a31 a32 a33 a34 a35 a36 a37:Oper}:RgL #[a0,a1,a2,a3,a4,a5,a6,a7,a8,a9,a10,a11,a12,a13,a14,a15,a16,a17,a18,a19,a20,a21,a22,a23,a24,a25,a26,a27,a28,a29,a30,a31,a32,a33,a34,a35,a36,a37] [0,1,2,3,4,5,6,7,8,9,10,11,12,13,14,15,16,17,18,19,20,21,22,23,24,25,26,27,28,29,30,31,32,33,34,35,36,37]:=⟨rfl⟩
theorem hung_ok {Ψ:Goroutine->World->Prop}  :
  CallK Tryz.prog (BT Tryz.prog Ψ) gmR 19 [] [(0,checksG)] (fun r K'=>r=boolA true/\K'=[(0,checksG)]):=by
 have hT:=shut_BT (P:=Tryz.prog) Ψ
 refine callK_in 407 hT Tryz.func19 fun Y hret=>?_
 refine au [4,5,2,3,4,5] ?_
 refine TK.cl rfl rfl rfl rfl (example_ok hT) ?_
 rintro r1 K2 ⟨s,h,e,rfl,rfl⟩
 refine au [22] ?_
 intro j1 hj1
 refine au [17,3,4] ?_
 refine TK.kp [(0,_),(s,_),(h,_),(e,_),(j1,_)] ?_
 refine au [5,8] ?_
 refine TK.newR rfl rfl rfl (n_buildSlice (l:=[_,_]) rfl SlEl.h TyZ.h dQ dQ rfl) (fun _=>putS rfl (by simp only [List.set]; rfl)) fun ja2 hja2=>?_
 refine TK.asSl 35 rfl mQ ?_
 refine TK.frzRow (j:=ja2) ?_
 refine au [] ?_
 refine TK.cl rfl rfl rfl rfl ((cut_ok hT (b:=exB) (l:=[1,2]) x_len.1 x_len.2 dQ).mono (fun _ _ h=>or2 h x_cut12)) ?_
 rintro r4 K5 ⟨jr,rfl,rfl⟩
 refine au [] ?_
 rw [x_strips]
 refine au [1,10,10,2,2,3,4] ?_
 refine TK.asSl 2 rfl mQ ?_
 refine TK.frzRow (j:=jr) ?_
 refine au [] ?_
 refine TK.kp [(0,_),(s,_),(h,_),(e,_),(j1,_),(jr,_)] ?_
 refine au [5,8] ?_
 refine TK.newR rfl rfl rfl (n_buildSlice (l:=[_,_]) rfl SlEl.h TyZ.h dQ dQ rfl) (fun _=>putS rfl (by simp only [List.set]; rfl)) fun ja3 hja3=>?_
 refine TK.asSl 41 rfl mQ ?_
 refine TK.frzRow (j:=ja3) ?_
 refine au [] ?_
 refine TK.cl rfl rfl rfl rfl (fitsApi_ok hT (b:=exB) (l:=[0,1]) x_len.1 x_len.2 dQ) ?_
 rintro r7 K8 ⟨rfl,rfl⟩
 refine au [] ?_
 rw [x_cut01,x_fits01]
 refine au [1,10,10,2,2,3,4] ?_
 refine TK.kp [(0,_),(s,_),(h,_),(e,_),(j1,_),(jr,_)] ?_
 refine au [5,8] ?_
 refine TK.newR rfl rfl rfl (n_buildSlice (l:=[_,_]) rfl SlEl.h TyZ.h dQ dQ rfl) (fun _=>putS rfl (by simp only [List.set]; rfl)) fun ja4 hja4=>?_
 refine TK.asSl 47 rfl mQ ?_
 refine TK.frzRow (j:=ja4) ?_
 refine au [] ?_
 refine TK.cl rfl rfl rfl rfl (fitsApi_ok hT (b:=exB) (l:=[0,2]) x_len.1 x_len.2 dQ) ?_
 rintro r10 K11 ⟨rfl,rfl⟩
 refine au [] ?_
 rw [x_cut02,x_fits02]
 refine au [1,10,10,2,2,3,4] ?_
 refine TK.kp [(0,_),(s,_),(h,_),(e,_),(j1,_),(jr,_)] ?_
 refine au [5,8] ?_
 refine TK.newR rfl rfl rfl (n_buildSlice (l:=[_,_]) rfl SlEl.h TyZ.h dQ dQ rfl) (fun _=>putS rfl (by simp only [List.set]; rfl)) fun ja5 hja5=>?_
 refine TK.newR rfl rfl rfl (n_buildSlice (l:=[_,_,_]) rfl SlEl.h TyZ.h dQ dQ rfl) (fun _=>putS rfl (by simp only [List.set]; rfl)) fun jb5 hjb5=>?_
 refine TK.asSl 53 rfl mQ ?_
 refine TK.frzRow (j:=ja5) ?_
 refine au [] ?_
 refine TK.asSl 54 rfl mQ ?_
 refine TK.frzRow (j:=jb5) ?_
 refine au [] ?_
 refine TK.cl rfl rfl rfl rfl ((hangApi_ok hT (b:=exB) (l:=[0,1]) (st:=[1,0,1]) x_len.1 x_len.2 dQ).mono (fun _ _ h=>or3b h x_h1 (by rw [x_hang1]; exact fun h=>nomatch h))) ?_
 rintro r13 K14 ⟨w5,q5,jw,hw,rfl,rfl⟩
 refine au [] ?_
 rw [x_hang1] at hw
 cases hw
 refine au [1,10,10,10,10,2,2,2,2,3,4] ?_
 refine TK.kp [(0,_),(s,_),(h,_),(e,_),(j1,_),(jr,_),(jw,_)] ?_
 refine au [5,8] ?_
 refine TK.newR rfl rfl rfl (n_buildSlice (l:=[_,_]) rfl SlEl.h TyZ.h dQ dQ rfl) (fun _=>putS rfl (by simp only [List.set]; rfl)) fun ja6 hja6=>?_
 refine TK.newR rfl rfl rfl (n_buildSlice (l:=[_,_,_]) rfl SlEl.h TyZ.h dQ dQ rfl) (fun _=>putS rfl (by simp only [List.set]; rfl)) fun jb6 hjb6=>?_
 refine TK.asSl 62 rfl mQ ?_
 refine TK.frzRow (j:=ja6) ?_
 refine au [] ?_
 refine TK.asSl 63 rfl mQ ?_
 refine TK.frzRow (j:=jb6) ?_
 refine au [] ?_
 refine TK.cl rfl rfl rfl rfl ((placesApi_ok hT (b:=exB) (l:=[0,1]) (st:=[0,0,1]) x_len.1 x_len.2 dQ).mono (fun _ _ h=>or3b h x_h2 (by rw [x_hang2]; exact fun h=>nomatch h))) ?_
 rintro r16 K17 ⟨w6,q6,jp,hw,rfl,rfl⟩
 refine au [] ?_
 rw [x_hang2] at hw
 cases hw
 rw [x_places]
 refine au [1,10,10,10,2,2,2,3,4] ?_
 refine TK.asSl 12 rfl mQ ?_
 refine TK.frzRow (j:=jp) ?_
 refine au [] ?_
 refine TK.kp [(0,_),(s,_),(h,_),(e,_),(j1,_),(jr,_),(jw,_),(jp,_)] ?_
 refine au [5,8] ?_
 refine TK.cl rfl rfl rfl rfl (statesApi_ok hT (b:=exB) x_len.1 x_len.2) ?_
 rintro r19 K20 ⟨rfl,rfl⟩
 refine au [] ?_
 rw [x_check,if_pos rfl,x_states]
 refine au [1,10,10,2,2,3,4] ?_
 refine TK.kp [(0,_),(s,_),(h,_),(e,_),(j1,_),(jr,_),(jw,_),(jp,_)] ?_
 refine au [5,8] ?_
 refine TK.cl rfl rfl rfl rfl ((shrinks_ok hT (b:=exB) (n:=2) x_len.1 x_len.2 (by rw [x_states]; decide)).mono (fun _ _ h=>or3 h x_th2 x_ne)) ?_
 rintro r22 K23 ⟨js8,zs8,rfl,rfl⟩
 refine au [] ?_
 rw [x_shr2]
 refine au [1,10,10,2,2,3,4] ?_
 refine TK.kp [(0,_),(s,_),(h,_),(e,_),(j1,_),(jr,_),(jw,_),(jp,_),(js8,_)] ?_
 refine au [5,8] ?_
 refine TK.cl rfl rfl rfl rfl ((new_ok hT (b:=exB) x_len.1 x_len.2).mono (fun _ _ h=>or3 h x_check x_ne)) ?_
 rintro r25 K26 ⟨rfl,rfl⟩
 refine au [] ?_
 rw [x_new]
 refine au [1,10,10,22] ?_
 intro j19 hj19
 refine au [17,2,3,4] ?_
 refine TK.kp [(0,_),(s,_),(h,_),(e,_),(j1,_),(jr,_),(jw,_),(jp,_),(js8,_),(j19,_)] ?_
 refine au [5,8] ?_
 refine TK.newR rfl rfl rfl (n_buildSlice (l:=[_,_]) rfl SlEl.h TyZ.h dQ dQ rfl) (fun _=>putS rfl (by simp only [List.set]; rfl)) fun ja10 hja10=>?_
 refine TK.asSl 85 rfl mQ ?_
 refine TK.frzRow (j:=ja10) ?_
 refine au [] ?_
 refine TK.cl rfl rfl rfl rfl ((can_ok hT (b:=exB) (l:=[0,1]) x_len.1 x_len.2 dQ).mono (fun _ _ h=>or3 h x_cut01 x_ne)) ?_
 rintro r28 K29 ⟨rfl,rfl⟩
 refine au [] ?_
 rw [x_can01]
 refine au [1,10,10,2,2,3,4] ?_
 refine TK.kp [(0,_),(s,_),(h,_),(e,_),(j1,_),(jr,_),(jw,_),(jp,_),(js8,_),(j19,_)] ?_
 refine au [5,8] ?_
 refine TK.newR rfl rfl rfl (n_buildSlice (l:=[_,_]) rfl SlEl.h TyZ.h dQ dQ rfl) (fun _=>putS rfl (by simp only [List.set]; rfl)) fun ja11 hja11=>?_
 refine TK.asSl 91 rfl mQ ?_
 refine TK.frzRow (j:=ja11) ?_
 refine au [] ?_
 refine TK.cl rfl rfl rfl rfl ((can_ok hT (b:=exB) (l:=[0,2]) x_len.1 x_len.2 dQ).mono (fun _ _ h=>or3 h x_cut02 x_ne)) ?_
 rintro r31 K32 ⟨rfl,rfl⟩
 refine au [] ?_
 rw [x_can02]
 refine au [1,10,10,2,2,3,4,4] ?_
 refine TK.kp [(0,_),(s,_),(h,_),(e,_),(j1,_),(jr,_),(jw,_),(jp,_),(js8,_),(j19,_)] ?_
 refine au [5,1,6,1,1,6,25,1,1,6,25,1,1,6,25,1,1,6,25,1,1,6,25,1,1,6,25,1,1,6,25,1,1,6,25,1,1,6,25,3,19,12,4,4] ?_
 refine TK.kp [(0,_),(s,_),(h,_),(e,_),(j1,_),(jr,_),(jw,_),(jp,_),(js8,_),(j19,_)] ?_
 refine TK.draw [0,1,2,3,4,5,6,7,8,9,10,11,12,13,14,15,16,17,18,19,20,21,22,23,24,25,26,27,28,29,30,31,32,33,34,35,36,37,38,39,40,41,42,43,44,45,46,47,48,49,50,51,52,53,54,55,56,57,58,59] [0,1,2,3,4,5,6,7,8,9,10,11,12,13,14,15,16,17,18,19,20,21,22,23,24,25,26,27,28,29,30,31,32,33,34,35,36,37,38,39,40,41,42,43,44,45,46,47,48,49,50,51,52,53,54,55,56,57,58,59] (by kernel_rfl) (by kernel_rfl) ?_
 refine TD.z [2] rfl (q_move rfl rfl) ?_
 refine TD.z [] rfl (q_build (l:=[_,_]) rfl TyZ.h BlOf.h rfl) ?_
 refine TD.z [] rfl (q_build (l:=[_,_]) rfl TyZ.h BlOf.h rfl) ?_
 refine TD.cnewR (pend':=[Pd.mk 0 [2] []]) [134,135] rfl rfl rfl (pendS (es:=[1,2]) rfl rfl) rfl (n_buildSlice (l:=[_,_,_,_]) rfl SlEl.h TyZ.h dQ dQ rfl) (fun _=>putS rfl (by simp only [List.set]; rfl)) sQ fun jy1 hjy1=>?_
 refine TD.cl (pend':=[]) [133,136] rfl (pendS (es:=[0,3]) rfl rfl) rfl rfl rfl ((sameStripsR_ok hT (xs:=[(1,4),(2,8)]) (ys:=[(1,4),(2,8)]) (off:=0) (ob:=.cells (([(1,4),(2,8)]:List (Int×Int)).flatMap pairC) 96 false) (fun i x hx=>flat_at (c:=2) (f:=pairC) (fun _=>rfl) hx rfl dQ) dQ).mono (fun _ _ h=>trT h rfl)) (fun r34 K35 h36=>⟨?_,?_⟩)
 ·rcases h36 with ⟨rfl,rfl⟩
  all_goals simp
 obtain ⟨rfl,rfl⟩:=h36
 try simp only [List.cons_append,List.nil_append]
 refine TD.norm (by simp only [List.set]; rfl) ?_
 refine TD.z [137] rfl (q_not rfl rfl) ?_
 refine TD.z [138] rfl (q_move rfl rfl) ?_
 refine TD.z [4,139] rfl (q_move rfl rfl) ?_
 refine TD.z [139,140] rfl (q_not rfl rfl) ?_
 refine TD.z [139,141] rfl (q_pickF rfl rfl rfl) ?_
 refine TD.z [142] rfl (q_move rfl rfl) ?_
 refine TD.z [6,143] rfl (q_move rfl rfl) ?_
 refine TD.z [143,144] rfl (q_pickF rfl rfl rfl) ?_
 refine TD.z [145] rfl (q_move rfl rfl) ?_
 refine TD.z [8,146] rfl (q_move rfl rfl) ?_
 refine TD.cnewR (pend':=[Pd.mk 14 [8,146] [],Pd.mk 12 [143,144] [],Pd.mk 11 [6,143] [],Pd.mk 10 [142] [],Pd.mk 9 [139,141] [],Pd.mk 8 [139,140] [],Pd.mk 7 [4,139] [],Pd.mk 6 [138] [],Pd.mk 5 [137] []]) [146] rfl rfl rfl (pendS (es:=[13]) rfl rfl) rfl (n_buildSlice (l:=[_,_]) rfl SlEl.h TyZ.h dQ dQ rfl) (fun _=>putS rfl (by simp only [List.set]; rfl)) sQ fun jy2 hjy2=>?_
 refine TD.cl (pend':=[Pd.mk 12 [143,144] [],Pd.mk 11 [6,143] [],Pd.mk 10 [142] [],Pd.mk 9 [139,141] [],Pd.mk 8 [139,140] [],Pd.mk 7 [4,139] [],Pd.mk 6 [138] [],Pd.mk 5 [137] []]) [146,147,148] rfl (pendS (es:=[14,15,13,13]) rfl rfl) rfl rfl rfl ((list_ok hT (xs:=[3,2]) (ys:=[3,2]) (off:=0) (ob:=.cells (([3,2]:List Int).map intA) 3 false) (fun i x hx=>ints_at hx rfl) dQ).mono (fun _ _ h=>trT h rfl)) (fun r37 K38 h39=>⟨?_,?_⟩)
 ·rcases h39 with ⟨rfl,rfl⟩
  all_goals simp
 obtain ⟨rfl,rfl⟩:=h39
 try simp only [List.cons_append,List.nil_append]
 refine TD.norm (by simp only [List.set]; rfl) ?_
 refine TD.z [146,149] rfl (q_not rfl rfl) ?_
 refine TD.z [146,150] rfl (q_pickF rfl rfl rfl) ?_
 refine TD.z [151] rfl (q_move rfl rfl) ?_
 refine TD.z [9,152] rfl (q_move rfl rfl) ?_
 refine TD.z [152,153] rfl (q_cmp rfl rfl rfl rfl) ?_
 refine TD.z [152,154] rfl (q_pickF rfl rfl rfl) ?_
 refine TD.z [155] rfl (q_move rfl rfl) ?_
 refine TD.z [10,156] rfl (q_move rfl rfl) ?_
 refine TD.z [156,157] rfl (q_not rfl rfl) ?_
 refine TD.z [156,158] rfl (q_pickF rfl rfl rfl) ?_
 refine TD.z [159] rfl (q_move rfl rfl) ?_
 refine TD.z [12,160] rfl (q_move rfl rfl) ?_
 refine TD.cnewR (pend':=[Pd.mk 28 [12,160] [],Pd.mk 26 [156,158] [],Pd.mk 25 [156,157] [],Pd.mk 24 [10,156] [],Pd.mk 23 [155] [],Pd.mk 22 [152,154] [],Pd.mk 21 [152,153] [],Pd.mk 20 [9,152] [],Pd.mk 19 [151] [],Pd.mk 18 [146,150] [],Pd.mk 17 [146,149] [],Pd.mk 12 [143,144] [],Pd.mk 11 [6,143] [],Pd.mk 10 [142] [],Pd.mk 9 [139,141] [],Pd.mk 8 [139,140] [],Pd.mk 7 [4,139] [],Pd.mk 6 [138] [],Pd.mk 5 [137] []]) [160] rfl rfl rfl (pendS (es:=[27]) rfl rfl) rfl (n_buildSlice (l:=[_,_]) rfl SlEl.h TyZ.h dQ dQ rfl) (fun _=>putS rfl (by simp only [List.set]; rfl)) sQ fun jy3 hjy3=>?_
 refine TD.cl (pend':=[Pd.mk 26 [156,158] [],Pd.mk 25 [156,157] [],Pd.mk 24 [10,156] [],Pd.mk 23 [155] [],Pd.mk 22 [152,154] [],Pd.mk 21 [152,153] [],Pd.mk 20 [9,152] [],Pd.mk 19 [151] [],Pd.mk 18 [146,150] [],Pd.mk 17 [146,149] [],Pd.mk 12 [143,144] [],Pd.mk 11 [6,143] [],Pd.mk 10 [142] [],Pd.mk 9 [139,141] [],Pd.mk 8 [139,140] [],Pd.mk 7 [4,139] [],Pd.mk 6 [138] [],Pd.mk 5 [137] []]) [160,161,162] rfl (pendS (es:=[28,29,27,27]) rfl rfl) rfl rfl rfl ((list_ok hT (xs:=[0,7]) (ys:=[0,7]) (off:=0) (ob:=.cells (([0,7]:List Int).map intA) 3 false) (fun i x hx=>ints_at hx rfl) dQ).mono (fun _ _ h=>trT h rfl)) (fun r40 K41 h42=>⟨?_,?_⟩)
 ·rcases h42 with ⟨rfl,rfl⟩
  all_goals simp
 obtain ⟨rfl,rfl⟩:=h42
 try simp only [List.cons_append,List.nil_append]
 refine TD.norm (by simp only [List.set]; rfl) ?_
 refine TD.z [160,163] rfl (q_not rfl rfl) ?_
 refine TD.z [160,164] rfl (q_pickF rfl rfl rfl) ?_
 refine TD.z [165] rfl (q_move rfl rfl) ?_
 refine TD.z [13,166] rfl (q_move rfl rfl) ?_
 refine TD.z [166,167] rfl (q_not rfl rfl) ?_
 refine TD.z [166,168] rfl (q_pickF rfl rfl rfl) ?_
 refine TD.z [169] rfl (q_move rfl rfl) ?_
 refine TD.z [15,170] rfl (q_move rfl rfl) ?_
 refine TD.z [170,171] rfl (q_cmp rfl rfl rfl rfl) ?_
 refine TD.z [170,172] rfl (q_pickF rfl rfl rfl) ?_
 refine TD.z [173] rfl (q_move rfl rfl) ?_
 refine TD.z [17,174] rfl (q_move rfl rfl) ?_
 refine TD.cnewR (pend':=[Pd.mk 42 [17,174] [],Pd.mk 40 [170,172] [],Pd.mk 39 [170,171] [],Pd.mk 38 [15,170] [],Pd.mk 37 [169] [],Pd.mk 36 [166,168] [],Pd.mk 35 [166,167] [],Pd.mk 34 [13,166] [],Pd.mk 33 [165] [],Pd.mk 32 [160,164] [],Pd.mk 31 [160,163] [],Pd.mk 26 [156,158] [],Pd.mk 25 [156,157] [],Pd.mk 24 [10,156] [],Pd.mk 23 [155] [],Pd.mk 22 [152,154] [],Pd.mk 21 [152,153] [],Pd.mk 20 [9,152] [],Pd.mk 19 [151] [],Pd.mk 18 [146,150] [],Pd.mk 17 [146,149] [],Pd.mk 12 [143,144] [],Pd.mk 11 [6,143] [],Pd.mk 10 [142] [],Pd.mk 9 [139,141] [],Pd.mk 8 [139,140] [],Pd.mk 7 [4,139] [],Pd.mk 6 [138] [],Pd.mk 5 [137] []]) [174] rfl rfl rfl (pendS (es:=[41]) rfl rfl) rfl (n_buildSlice (l:=[_,_]) rfl SlEl.h TyZ.h dQ dQ rfl) (fun _=>putS rfl (by simp only [List.set]; rfl)) sQ fun jy4 hjy4=>?_
 refine TD.cl (pend':=[Pd.mk 40 [170,172] [],Pd.mk 39 [170,171] [],Pd.mk 38 [15,170] [],Pd.mk 37 [169] [],Pd.mk 36 [166,168] [],Pd.mk 35 [166,167] [],Pd.mk 34 [13,166] [],Pd.mk 33 [165] [],Pd.mk 32 [160,164] [],Pd.mk 31 [160,163] [],Pd.mk 26 [156,158] [],Pd.mk 25 [156,157] [],Pd.mk 24 [10,156] [],Pd.mk 23 [155] [],Pd.mk 22 [152,154] [],Pd.mk 21 [152,153] [],Pd.mk 20 [9,152] [],Pd.mk 19 [151] [],Pd.mk 18 [146,150] [],Pd.mk 17 [146,149] [],Pd.mk 12 [143,144] [],Pd.mk 11 [6,143] [],Pd.mk 10 [142] [],Pd.mk 9 [139,141] [],Pd.mk 8 [139,140] [],Pd.mk 7 [4,139] [],Pd.mk 6 [138] [],Pd.mk 5 [137] []]) [174,175,176] rfl (pendS (es:=[42,43,41,41]) rfl rfl) rfl rfl rfl ((list_ok hT (xs:=[0,1]) (ys:=[0,1]) (off:=0) (ob:=.cells (([0,1]++zs8).map intA) 3 false) (fun i x hx=>ints_pre hx) dQ).mono (fun _ _ h=>trT h rfl)) (fun r43 K44 h45=>⟨?_,?_⟩)
 ·rcases h45 with ⟨rfl,rfl⟩
  all_goals simp
 obtain ⟨rfl,rfl⟩:=h45
 try simp only [List.cons_append,List.nil_append]
 refine TD.norm (by simp only [List.set]; rfl) ?_
 refine TD.z [174,177] rfl (q_not rfl rfl) ?_
 refine TD.z [174,178] rfl (q_pickF rfl rfl rfl) ?_
 refine TD.z [179] rfl (q_move rfl rfl) ?_
 refine TD.y [19,180] rfl (hq:=q_load rfl rfl TySz.h (List.Mem.head _) rfl) (h:=?_)
 refine TD.cl (pend':=[Pd.mk 48 [19,180] [(_,_)],Pd.mk 46 [174,178] [],Pd.mk 45 [174,177] [],Pd.mk 40 [170,172] [],Pd.mk 39 [170,171] [],Pd.mk 38 [15,170] [],Pd.mk 37 [169] [],Pd.mk 36 [166,168] [],Pd.mk 35 [166,167] [],Pd.mk 34 [13,166] [],Pd.mk 33 [165] [],Pd.mk 32 [160,164] [],Pd.mk 31 [160,163] [],Pd.mk 26 [156,158] [],Pd.mk 25 [156,157] [],Pd.mk 24 [10,156] [],Pd.mk 23 [155] [],Pd.mk 22 [152,154] [],Pd.mk 21 [152,153] [],Pd.mk 20 [9,152] [],Pd.mk 19 [151] [],Pd.mk 18 [146,150] [],Pd.mk 17 [146,149] [],Pd.mk 12 [143,144] [],Pd.mk 11 [6,143] [],Pd.mk 10 [142] [],Pd.mk 9 [139,141] [],Pd.mk 8 [139,140] [],Pd.mk 7 [4,139] [],Pd.mk 6 [138] [],Pd.mk 5 [137] []]) [180] rfl (pendS (es:=[47,47]) rfl rfl) rfl rfl rfl (to_ok hT) (fun r46 K47 h48=>⟨?_,?_⟩)
 ·rcases h48 with ⟨rfl,rfl⟩
  all_goals simp
 obtain ⟨rfl,rfl⟩:=h48
 try simp only [List.cons_append,List.nil_append]
 refine TD.norm (by simp only [List.set]; rfl) ?_
 refine TD.z [180,181,182] rfl (q_neqFlat rfl rfl rfl rfl rfl FlatF.h EqG.h) ?_
 refine TD.z [180,183] rfl (q_pickF rfl rfl rfl) ?_
 refine TD.z [184] rfl (q_move rfl rfl) ?_
 refine TD.z [21,185] rfl (q_move rfl rfl) ?_
 refine TD.z [185,186] rfl (q_cmp rfl rfl rfl rfl) ?_
 refine TD.z [185,187] rfl (q_pickF rfl rfl rfl) ?_
 refine TD.z [188] rfl (q_move rfl rfl) ?_
 refine TD.z [23,189] rfl (q_move rfl rfl) ?_
 refine TD.z [189,190] rfl (q_cmp rfl rfl rfl rfl) ?_
 refine TD.z [189,191] rfl (q_pickF rfl rfl rfl) ?_
 refine TD.fin ?_
 refine au [19,12,4] ?_
 refine TK.kp [(0,_),(s,_),(h,_),(e,_),(j1,_),(j19,_)] ?_
 refine au [5,8] ?_
 refine TK.cl rfl rfl rfl rfl ((hall_ok hT (b:=exB) (r0:=16) x_len.1 x_len.2).mono (fun _ _ h=>or3c h x_check x_hall)) ?_
 rintro r49 K50 ⟨s6,h6,e6,rfl,rfl⟩
 refine au [1,10,10,22] ?_
 intro j25 hj25
 refine au [17,2,3,4] ?_
 refine TK.kp [(0,_),(s,_),(h,_),(e,_),(j1,_),(j19,_),(s6,_),(h6,_),(e6,_),(j25,_)] ?_
 refine au [5,8] ?_
 refine TK.newR rfl rfl rfl (n_buildSlice (l:=[_,_]) rfl SlEl.h TyZ.h dQ dQ rfl) (fun _=>putS rfl (by simp only [List.set]; rfl)) fun ja17 hja17=>?_
 refine TK.asSl 200 rfl mQ ?_
 refine TK.frzRow (j:=ja17) ?_
 refine au [] ?_
 refine TK.cl rfl rfl rfl rfl ((can_ok hT (b:=atRound exB 16) (s:=s6) (h:=h6) (e:=e6) (l:=[0,1]) dQ dQ dQ).mono (fun _ _ h=>or3 h x_c16b x_ne16)) ?_
 rintro r52 K53 ⟨rfl,rfl⟩
 refine au [] ?_
 rw [x_can16]
 refine au [1,10,10,2,2,3,4] ?_
 refine TK.kp [(0,_),(s,_),(h,_),(e,_),(j1,_),(j19,_)] ?_
 refine au [5,8] ?_
 refine TK.newR rfl rfl rfl (n_buildSlice (l:=[_,_]) rfl SlEl.h TyZ.h dQ dQ rfl) (fun _=>putS rfl (by simp only [List.set]; rfl)) fun ja18 hja18=>?_
 refine TK.asSl 206 rfl mQ ?_
 refine TK.frzRow (j:=ja18) ?_
 refine au [] ?_
 refine TK.cl rfl rfl rfl rfl ((squaresApi_ok hT (b:=exB) (l:=[1,2]) x_len.1 x_len.2 dQ).mono (fun _ _ h=>or3 h x_cut12 x_ne)) ?_
 rintro r55 K56 ⟨rfl,rfl⟩
 refine au [] ?_
 rw [x_v12.1,x_v12.2.1,x_v12.2.2,show (if true=true then (0:Int) else 8)=0 from rfl]
 refine au [1,10,10,17,2,3,4] ?_
 refine TK.kp [(0,_),(s,_),(h,_),(e,_),(j1,_),(j19,_)] ?_
 refine au [5,8] ?_
 refine TK.newR rfl rfl rfl (n_buildSlice (l:=[_,_]) rfl SlEl.h TyZ.h dQ dQ rfl) (fun _=>putS rfl (by simp only [List.set]; rfl)) fun ja19 hja19=>?_
 refine TK.asSl 212 rfl mQ ?_
 refine TK.frzRow (j:=ja19) ?_
 refine au [] ?_
 refine TK.cl rfl rfl rfl rfl ((squaresApi_ok hT (b:=exB) (l:=[0,2]) x_len.1 x_len.2 dQ).mono (fun _ _ h=>or3 h x_cut02 x_ne)) ?_
 rintro r58 K59 ⟨rfl,rfl⟩
 refine au [] ?_
 rw [x_v02.1,x_v02.2.1,x_v02.2.2,show (if false=true then (0:Int) else 8)=8 from rfl]
 refine au [1,10,10,2,3,4] ?_
 refine TK.kp [(0,_),(s,_),(h,_),(e,_),(j1,_),(j19,_)] ?_
 refine au [5,8] ?_
 refine TK.cl rfl rfl rfl rfl ((best_ok (b:=exB) x_len.1 x_len.2).mono (fun _ _ h=>or3 h x_check x_ne)) ?_
 rintro r61 K62 h63
 rcases h63 with ⟨hno,rfl,rfl⟩ | ⟨c,jc,ec,hpl,rfl,rfl⟩
 ·refine au [] ?_
  exact (x_noplan hno).elim
 ·refine au [] ?_
  obtain ⟨hq1,hq2⟩:=x_plan (.inl rfl) hpl
  rw [hq2,hq1]
  refine au [1,10,10,10,10,2,2,2,2,3,4] ?_
  refine TK.kp [(0,_),(s,_),(h,_),(e,_),(j1,_),(j19,_),(jc,_)] ?_
  refine au [5,8] ?_
  refine TK.cl rfl rfl rfl rfl ((fewest_ok (b:=exB) x_len.1 x_len.2).mono (fun _ _ h=>or3 h x_check x_ne)) ?_
  rintro r64 K65 h66
  rcases h66 with ⟨hno,rfl,rfl⟩ | ⟨c2,jf,ef,hpl2,rfl,rfl⟩
  ·refine au [] ?_
   exact (x_noplan hno).elim
  ·refine au [] ?_
   obtain ⟨hq3,hq4⟩:=x_plan (.inr rfl) hpl2
   rw [hq3]
   refine au [1,10,10,10,2,2,2,3,4] ?_
   refine TK.kp [(0,_),(s,_),(h,_),(e,_),(j1,_),(j19,_),(jc,_),(jf,_)] ?_
   refine au [5,8] ?_
   refine TK.cl rfl rfl rfl rfl ((widest_ok (b:=exB) x_len.1 x_len.2).mono (fun _ _ h=>or3 h x_check x_ne)) ?_
   rintro r67 K68 ⟨rfl,rfl⟩
   refine au [] ?_
   rw [x_widest]
   refine au [1,10,10,10,2,2,2,3,4,4] ?_
   refine TK.kp [(0,_),(s,_),(h,_),(e,_),(j1,_),(j19,_),(jc,_),(jf,_)] ?_
   refine TK.draw [0,1,2,3,4,5,6,7,8,9,10,11,12,13,14,15,16,17,18,19,20,21,22,23,24,25,26,27,28,29,30,31,32,33,34,35,36,37,38,39,40,41,42,43,44,45,46,47,48,49,50,51,52,53,54,55,56,57,58,59,60,61,62,63,64,65,66] [0,1,2,3,4,5,6,7,8,9,10,11,12,13,14,15,16,17,18,19,20,21,22,23,24,25,26,27,28,29,30,31,32,33,34,35,36,37,38,39,40,41,42,43,44,45,46,47,48,49,50,51,52,53,54,55,56,57,58,59,60,61,62,63,64,65,66] (by kernel_rfl) (by kernel_rfl) ?_
   refine TD.z [3] rfl (q_move rfl rfl) ?_
   refine TD.z [235] rfl (q_cmp rfl rfl rfl rfl) ?_
   refine TD.z [236] rfl (q_move rfl rfl) ?_
   refine TD.z [5,237] rfl (q_move rfl rfl) ?_
   refine TD.z [237,238] rfl (q_cmp rfl rfl rfl rfl) ?_
   refine TD.z [237,239] rfl (q_pickF rfl rfl rfl) ?_
   refine TD.z [240] rfl (q_move rfl rfl) ?_
   refine TD.z [7,241] rfl (q_move rfl rfl) ?_
   refine TD.z [241,242] rfl (q_cmp rfl rfl rfl rfl) ?_
   refine TD.z [241,243] rfl (q_pickF rfl rfl rfl) ?_
   refine TD.z [244] rfl (q_move rfl rfl) ?_
   refine TD.z [11,245] rfl (q_move rfl rfl) ?_
   refine TD.z [245,246] rfl (q_cmp rfl rfl rfl rfl) ?_
   refine TD.z [245,247] rfl (q_pickF rfl rfl rfl) ?_
   refine TD.z [248] rfl (q_move rfl rfl) ?_
   refine TD.z [14,249] rfl (q_move rfl rfl) ?_
   refine TD.z [249,250] rfl (q_cmp rfl rfl rfl rfl) ?_
   refine TD.z [249,251] rfl (q_pickF rfl rfl rfl) ?_
   refine TD.z [252] rfl (q_move rfl rfl) ?_
   refine TD.z [16,253] rfl (q_move rfl rfl) ?_
   refine TD.z [253,254] rfl (q_cmp rfl rfl rfl rfl) ?_
   refine TD.z [253,255] rfl (q_pickF rfl rfl rfl) ?_
   refine TD.z [256] rfl (q_move rfl rfl) ?_
   refine TD.z [18,257] rfl (q_move rfl rfl) ?_
   refine TD.z [257,258] rfl (q_cmp rfl rfl rfl rfl) ?_
   refine TD.z [257,259] rfl (q_pickF rfl rfl rfl) ?_
   refine TD.z [260] rfl (q_move rfl rfl) ?_
   refine TD.z [21,261] rfl (q_move rfl rfl) ?_
   refine TD.z [261,262] rfl (q_cmp rfl rfl rfl rfl) ?_
   refine TD.z [261,263] rfl (q_pickF rfl rfl rfl) ?_
   refine TD.z [264] rfl (q_move rfl rfl) ?_
   refine TD.y [19,265] rfl (hq:=q_load rfl rfl TySz.h (List.Mem.head _) rfl) (h:=?_)
   refine TD.cl (pend':=[Pd.mk 31 [19,265] [(_,_)],Pd.mk 29 [261,263] [],Pd.mk 28 [261,262] [],Pd.mk 27 [21,261] [],Pd.mk 26 [260] [],Pd.mk 25 [257,259] [],Pd.mk 24 [257,258] [],Pd.mk 23 [18,257] [],Pd.mk 22 [256] [],Pd.mk 21 [253,255] [],Pd.mk 20 [253,254] [],Pd.mk 19 [16,253] [],Pd.mk 18 [252] [],Pd.mk 17 [249,251] [],Pd.mk 16 [249,250] [],Pd.mk 15 [14,249] [],Pd.mk 14 [248] [],Pd.mk 13 [245,247] [],Pd.mk 12 [245,246] [],Pd.mk 11 [11,245] [],Pd.mk 10 [244] [],Pd.mk 9 [241,243] [],Pd.mk 8 [241,242] [],Pd.mk 7 [7,241] [],Pd.mk 6 [240] [],Pd.mk 5 [237,239] [],Pd.mk 4 [237,238] [],Pd.mk 3 [5,237] [],Pd.mk 2 [236] [],Pd.mk 1 [235] [],Pd.mk 0 [3] []]) [265] rfl (pendS (es:=[30,30]) rfl rfl) rfl rfl rfl (to_ok hT) (fun r70 K71 h72=>⟨?_,?_⟩)
   ·rcases h72 with ⟨rfl,rfl⟩
    all_goals simp
   obtain ⟨rfl,rfl⟩:=h72
   try simp only [List.cons_append,List.nil_append]
   refine TD.norm (by simp only [List.set]; rfl) ?_
   refine TD.z [265,266,267] rfl (q_neqFlat rfl rfl rfl rfl rfl FlatF.h EqG.h) ?_
   refine TD.z [265,268] rfl (q_pickF rfl rfl rfl) ?_
   refine TD.z [269] rfl (q_move rfl rfl) ?_
   refine TD.z [26,270] rfl (q_move rfl rfl) ?_
   refine TD.cnewR (pend':=[Pd.mk 36 [26,270] [],Pd.mk 34 [265,268] [],Pd.mk 33 [265,266,267] [],Pd.mk 31 [19,265] [(_,_)],Pd.mk 29 [261,263] [],Pd.mk 28 [261,262] [],Pd.mk 27 [21,261] [],Pd.mk 26 [260] [],Pd.mk 25 [257,259] [],Pd.mk 24 [257,258] [],Pd.mk 23 [18,257] [],Pd.mk 22 [256] [],Pd.mk 21 [253,255] [],Pd.mk 20 [253,254] [],Pd.mk 19 [16,253] [],Pd.mk 18 [252] [],Pd.mk 17 [249,251] [],Pd.mk 16 [249,250] [],Pd.mk 15 [14,249] [],Pd.mk 14 [248] [],Pd.mk 13 [245,247] [],Pd.mk 12 [245,246] [],Pd.mk 11 [11,245] [],Pd.mk 10 [244] [],Pd.mk 9 [241,243] [],Pd.mk 8 [241,242] [],Pd.mk 7 [7,241] [],Pd.mk 6 [240] [],Pd.mk 5 [237,239] [],Pd.mk 4 [237,238] [],Pd.mk 3 [5,237] [],Pd.mk 2 [236] [],Pd.mk 1 [235] [],Pd.mk 0 [3] []]) [270] rfl rfl rfl (pendS (es:=[35]) rfl rfl) rfl (n_buildSlice (l:=[_,_]) rfl SlEl.h TyZ.h dQ dQ rfl) (fun _=>putS rfl (by simp only [List.set]; rfl)) sQ fun jz1 hjz1=>?_
   refine TD.cl (pend':=[Pd.mk 34 [265,268] [],Pd.mk 33 [265,266,267] [],Pd.mk 31 [19,265] [(_,_)],Pd.mk 29 [261,263] [],Pd.mk 28 [261,262] [],Pd.mk 27 [21,261] [],Pd.mk 26 [260] [],Pd.mk 25 [257,259] [],Pd.mk 24 [257,258] [],Pd.mk 23 [18,257] [],Pd.mk 22 [256] [],Pd.mk 21 [253,255] [],Pd.mk 20 [253,254] [],Pd.mk 19 [16,253] [],Pd.mk 18 [252] [],Pd.mk 17 [249,251] [],Pd.mk 16 [249,250] [],Pd.mk 15 [14,249] [],Pd.mk 14 [248] [],Pd.mk 13 [245,247] [],Pd.mk 12 [245,246] [],Pd.mk 11 [11,245] [],Pd.mk 10 [244] [],Pd.mk 9 [241,243] [],Pd.mk 8 [241,242] [],Pd.mk 7 [7,241] [],Pd.mk 6 [240] [],Pd.mk 5 [237,239] [],Pd.mk 4 [237,238] [],Pd.mk 3 [5,237] [],Pd.mk 2 [236] [],Pd.mk 1 [235] [],Pd.mk 0 [3] []]) [270,271,272] rfl (pendS (es:=[36,37,35,35]) rfl rfl) rfl rfl rfl ((list_ok hT (xs:=[0,1]) (ys:=[0,1]) (off:=0) (ob:=.cells (([0,1]:List Int).map intA) ec false) (fun i x hx=>ints_at hx rfl) dQ).mono (fun _ _ h=>trT h rfl)) (fun r73 K74 h75=>⟨?_,?_⟩)
   ·rcases h75 with ⟨rfl,rfl⟩
    all_goals simp
   obtain ⟨rfl,rfl⟩:=h75
   try simp only [List.cons_append,List.nil_append]
   refine TD.norm (by simp only [List.set]; rfl) ?_
   refine TD.z [270,273] rfl (q_not rfl rfl) ?_
   refine TD.z [270,274] rfl (q_pickF rfl rfl rfl) ?_
   refine TD.z [275] rfl (q_move rfl rfl) ?_
   refine TD.z [9,276] rfl (q_move rfl rfl) ?_
   refine TD.z [276,277] rfl (q_cmp rfl rfl rfl rfl) ?_
   refine TD.z [276,278] rfl (q_pickF rfl rfl rfl) ?_
   refine TD.z [279] rfl (q_move rfl rfl) ?_
   refine TD.z [10,280] rfl (q_move rfl rfl) ?_
   refine TD.z [280,281] rfl (q_not rfl rfl) ?_
   refine TD.z [280,282] rfl (q_pickF rfl rfl rfl) ?_
   refine TD.z [283] rfl (q_move rfl rfl) ?_
   refine TD.z [27,284] rfl (q_move rfl rfl) ?_
   refine TD.cnewR (pend':=[Pd.mk 50 [27,284] [],Pd.mk 48 [280,282] [],Pd.mk 47 [280,281] [],Pd.mk 46 [10,280] [],Pd.mk 45 [279] [],Pd.mk 44 [276,278] [],Pd.mk 43 [276,277] [],Pd.mk 42 [9,276] [],Pd.mk 41 [275] [],Pd.mk 40 [270,274] [],Pd.mk 39 [270,273] [],Pd.mk 34 [265,268] [],Pd.mk 33 [265,266,267] [],Pd.mk 31 [19,265] [(_,_)],Pd.mk 29 [261,263] [],Pd.mk 28 [261,262] [],Pd.mk 27 [21,261] [],Pd.mk 26 [260] [],Pd.mk 25 [257,259] [],Pd.mk 24 [257,258] [],Pd.mk 23 [18,257] [],Pd.mk 22 [256] [],Pd.mk 21 [253,255] [],Pd.mk 20 [253,254] [],Pd.mk 19 [16,253] [],Pd.mk 18 [252] [],Pd.mk 17 [249,251] [],Pd.mk 16 [249,250] [],Pd.mk 15 [14,249] [],Pd.mk 14 [248] [],Pd.mk 13 [245,247] [],Pd.mk 12 [245,246] [],Pd.mk 11 [11,245] [],Pd.mk 10 [244] [],Pd.mk 9 [241,243] [],Pd.mk 8 [241,242] [],Pd.mk 7 [7,241] [],Pd.mk 6 [240] [],Pd.mk 5 [237,239] [],Pd.mk 4 [237,238] [],Pd.mk 3 [5,237] [],Pd.mk 2 [236] [],Pd.mk 1 [235] [],Pd.mk 0 [3] []]) [284] rfl rfl rfl (pendS (es:=[49]) rfl rfl) rfl (n_buildSlice (l:=[_,_]) rfl SlEl.h TyZ.h dQ dQ rfl) (fun _=>putS rfl (by simp only [List.set]; rfl)) sQ fun jz2 hjz2=>?_
   refine TD.cl (pend':=[Pd.mk 48 [280,282] [],Pd.mk 47 [280,281] [],Pd.mk 46 [10,280] [],Pd.mk 45 [279] [],Pd.mk 44 [276,278] [],Pd.mk 43 [276,277] [],Pd.mk 42 [9,276] [],Pd.mk 41 [275] [],Pd.mk 40 [270,274] [],Pd.mk 39 [270,273] [],Pd.mk 34 [265,268] [],Pd.mk 33 [265,266,267] [],Pd.mk 31 [19,265] [(_,_)],Pd.mk 29 [261,263] [],Pd.mk 28 [261,262] [],Pd.mk 27 [21,261] [],Pd.mk 26 [260] [],Pd.mk 25 [257,259] [],Pd.mk 24 [257,258] [],Pd.mk 23 [18,257] [],Pd.mk 22 [256] [],Pd.mk 21 [253,255] [],Pd.mk 20 [253,254] [],Pd.mk 19 [16,253] [],Pd.mk 18 [252] [],Pd.mk 17 [249,251] [],Pd.mk 16 [249,250] [],Pd.mk 15 [14,249] [],Pd.mk 14 [248] [],Pd.mk 13 [245,247] [],Pd.mk 12 [245,246] [],Pd.mk 11 [11,245] [],Pd.mk 10 [244] [],Pd.mk 9 [241,243] [],Pd.mk 8 [241,242] [],Pd.mk 7 [7,241] [],Pd.mk 6 [240] [],Pd.mk 5 [237,239] [],Pd.mk 4 [237,238] [],Pd.mk 3 [5,237] [],Pd.mk 2 [236] [],Pd.mk 1 [235] [],Pd.mk 0 [3] []]) [284,285,286] rfl (pendS (es:=[50,51,49,49]) rfl rfl) rfl rfl rfl ((list_ok hT (xs:=[0,1]) (ys:=[0,1]) (off:=0) (ob:=.cells (([0,1]:List Int).map intA) ef false) (fun i x hx=>ints_at hx rfl) dQ).mono (fun _ _ h=>trT h rfl)) (fun r76 K77 h78=>⟨?_,?_⟩)
   ·rcases h78 with ⟨rfl,rfl⟩
    all_goals simp
   obtain ⟨rfl,rfl⟩:=h78
   try simp only [List.cons_append,List.nil_append]
   refine TD.norm (by simp only [List.set]; rfl) ?_
   refine TD.z [284,287] rfl (q_not rfl rfl) ?_
   refine TD.z [284,288] rfl (q_pickF rfl rfl rfl) ?_
   refine TD.z [289] rfl (q_move rfl rfl) ?_
   refine TD.z [13,290] rfl (q_move rfl rfl) ?_
   refine TD.z [290,291] rfl (q_not rfl rfl) ?_
   refine TD.z [290,292] rfl (q_pickF rfl rfl rfl) ?_
   refine TD.z [293] rfl (q_move rfl rfl) ?_
   refine TD.z [15,294] rfl (q_move rfl rfl) ?_
   refine TD.z [294,295] rfl (q_cmp rfl rfl rfl rfl) ?_
   refine TD.z [294,296] rfl (q_pickF rfl rfl rfl) ?_
   refine TD.z [297] rfl (q_move rfl rfl) ?_
   refine TD.z [4,298] rfl (q_move rfl rfl) ?_
   refine TD.z [298,299] rfl (q_not rfl rfl) ?_
   refine TD.z [298,300] rfl (q_pickF rfl rfl rfl) ?_
   refine TD.fin ?_
   refine au [19,12,4] ?_
   refine TK.kp [(0,_),(s,_),(h,_),(e,_),(j1,_),(j19,_)] ?_
   refine au [5,8] ?_
   refine TK.cl rfl rfl rfl rfl ((ask_ok hT (b:=exB) x_len.1 x_len.2).mono (fun _ _ h=>or3 h x_check x_ne)) ?_
   rintro r79 K80 ⟨rfl,rfl⟩
   refine au [] ?_
   rw [x_ask]
   refine au [1,10,10,10,2,2,2,3,4] ?_
   refine TK.kp [(0,_),(s,_),(h,_),(e,_),(j1,_),(j19,_)] ?_
   refine au [5,8,40] ?_
   refine TK.cl rfl rfl rfl rfl ((measure_ok hT (b:=exB) (m:=⟨2,2,7⟩) x_len.1 x_len.2).mono (fun _ _ h=>agr3 (or2 h x_check) x_mc x_mne)) ?_
   rintro r82 K83 ⟨s7,h7,e7,rfl,rfl⟩
   refine au [1,10,10,22] ?_
   intro j30 hj30
   refine au [17,2,3,4] ?_
   refine TK.kp [(0,_),(s,_),(h,_),(e,_),(j1,_),(j19,_),(s7,_),(h7,_),(e7,_),(j30,_)] ?_
   refine au [5,8] ?_
   refine TK.cl rfl rfl rfl rfl (statesApi_ok hT (b:=exM) (s:=s7) (h:=h7) (e:=e7) dQ dQ) ?_
   rintro r85 K86 ⟨rfl,rfl⟩
   refine au [] ?_
   rw [x_mc,if_pos rfl,x_mst]
   refine au [1,10,10,2,2,3,4] ?_
   refine TK.kp [(0,_),(s,_),(h,_),(e,_),(j1,_),(j19,_),(s7,_),(h7,_),(e7,_),(j30,_)] ?_
   refine au [5,8] ?_
   refine TK.cl rfl rfl rfl rfl ((new_ok hT (b:=exM) (s:=s7) (h:=h7) (e:=e7) dQ dQ).mono (fun _ _ h=>or3 h x_mc x_mne)) ?_
   rintro r88 K89 ⟨rfl,rfl⟩
   refine au [] ?_
   rw [x_mnew]
   refine au [1,10,10,17,2,3,4] ?_
   refine TK.kp [(0,_),(s,_),(h,_),(e,_),(j1,_),(j19,_),(j30,_)] ?_
   refine TK.draw [0,1,2,3,4,5,6,7] [0,1,2,3,4,6,5,7] (by kernel_rfl) (by kernel_rfl) ?_
   refine TD.y [1] rfl (hq:=q_load rfl rfl TySz.h (List.Mem.head _) rfl) (h:=?_)
   refine TD.cl (pend':=[⟨0,[1],[(_,_)]⟩]) [] rfl rfl rfl rfl rfl (to_ok hT) (fun r91 K92 h93=>⟨?_,?_⟩)
   ·rcases h93 with ⟨rfl,rfl⟩
    all_goals simp
   obtain ⟨rfl,rfl⟩:=h93
   try simp only [List.cons_append,List.nil_append]
   refine TD.norm (by simp only [List.set]; rfl) ?_
   refine TD.cl (pend':=[]) [325,326] rfl rfl rfl rfl rfl ((dry_ok hT (b:=exB) (n:=0) (x:=⟨1,5⟩) x_len.1 x_len.2).mono (fun _ _ h=>agr3 (or4 h x_d1) x_dc x_dne)) (fun r94 K95 h96=>⟨?_,?_⟩)
   ·rcases h96 with ⟨s8,h8,e8,rfl,rfl⟩
    all_goals simp
   obtain ⟨s8,h8,e8,rfl,rfl⟩:=h96
   try simp only [List.cons_append,List.nil_append]
   refine TD.norm (by simp only [List.set]; rfl) ?_
   refine TD.z [327] rfl (q_move rfl rfl) ?_
   refine TD.z [324] rfl (q_extract rfl rfl rfl) ?_
   refine TD.z [324] rfl (q_extract rfl rfl rfl) ?_
   refine TD.s (pend':=[⟨5,[324],[]⟩]) [30,328] rfl rfl (q_store rfl rfl TySz.h rfl rfl mQ rfl) ?_
   refine TD.as (pend':=[]) [329] rfl rfl (q_assign rfl rfl) ?_
   refine TD.fin ?_
   refine au [4] ?_
   refine TK.kp [(0,_),(s,_),(h,_),(e,_),(j1,_),(j19,_),(j30,_),(s8,_),(h8,_),(e8,_)] ?_
   refine au [5,8] ?_
   refine TK.cl rfl rfl rfl rfl ((shrinks_ok hT (b:=exD) (s:=s8) (h:=h8) (e:=e8) (n:=0) dQ dQ (by rw [x_dst]; decide)).mono (fun _ _ h=>or3 h x_dth x_dne)) ?_
   rintro r97 K98 ⟨js9,zs9,rfl,rfl⟩
   refine au [] ?_
   rw [x_dshr]
   refine au [1,10,10,2,2,3,4] ?_
   refine TK.kp [(0,_),(s,_),(h,_),(e,_),(j1,_),(j19,_),(js9,_)] ?_
   refine TK.draw [0,1,2,3,4,5,6] [0,1,2,3,4,5,6] (by kernel_rfl) (by kernel_rfl) ?_
   refine TD.y [1] rfl (hq:=q_load rfl rfl TySz.h (List.Mem.head _) rfl) (h:=?_)
   refine TD.cl (pend':=[⟨0,[1],[(_,_)]⟩]) [] rfl rfl rfl rfl rfl (to_ok hT) (fun r100 K101 h102=>⟨?_,?_⟩)
   ·rcases h102 with ⟨rfl,rfl⟩
    all_goals simp
   obtain ⟨rfl,rfl⟩:=h102
   try simp only [List.cons_append,List.nil_append]
   refine TD.norm (by simp only [List.set]; rfl) ?_
   refine TD.cl (pend':=[]) [336,337] rfl rfl rfl rfl rfl ((dry_ok hT (b:=exB) (n:=1) (x:=⟨1,2⟩) x_len.1 x_len.2).mono (fun _ _ h=>or4c h x_d2)) (fun r103 K104 h105=>⟨?_,?_⟩)
   ·rcases h105 with ⟨rfl,rfl⟩
    all_goals simp
   obtain ⟨rfl,rfl⟩:=h105
   try simp only [List.cons_append,List.nil_append]
   refine TD.norm (by simp only [List.set]; rfl) ?_
   refine TD.z [338] rfl (q_move rfl rfl) ?_
   refine TD.z [335] rfl (q_extract rfl rfl rfl) ?_
   refine TD.z [335] rfl (q_extract rfl rfl rfl) ?_
   refine TD.as (pend':=[]) [340] rfl rfl (q_assign rfl rfl) ?_
   refine TD.fin ?_
   refine au [4] ?_
   refine TK.kp [(0,_),(s,_),(h,_),(e,_),(j1,_),(j19,_),(js9,_)] ?_
   refine au [5,8,40] ?_
   refine TK.cl rfl rfl rfl rfl (measured_ok hT (b:=exB) (m:=⟨0,1,5⟩) dQ) ?_
   rintro r106 K107 ⟨e9,rfl,rfl⟩
   refine au [40] ?_
   refine TK.cl rfl rfl rfl rfl (measured_ok hT (b:=exC1) (m:=⟨2,2,6⟩) dQ) ?_
   rintro r109 K110 ⟨e10,rfl,rfl⟩
   refine au [] ?_
   refine TK.cl rfl rfl rfl rfl ((clash_ok hT (b:=exC) (s:=s) (h:=h) (e:=e10) dQ dQ).mono (fun _ _ h=>orCl h x_cc x_cst (by rw [x_clash]; exact fun h=>nomatch h))) ?_
   rintro r112 K113 ⟨l0,j10,e11,hcl,rfl,rfl⟩
   refine au [] ?_
   rw [x_clash] at hcl
   cases hcl
   refine au [1,10,10,2,2,3,4] ?_
   refine TK.kp [(0,_),(j19,_),(js9,_),(j10,_)] ?_
   refine TK.draw [0,1,2,3,4,5,6,7,8,9,10,11,12,13,14,15,16,17,18,19,20,21,22,23,24,25,26,27,28,29,30,31,32,33,34,35,36,37,38,39,40,41,42,43,44,45,46,47,48,49,50,51,52,53,54,55,56,57] [0,1,2,3,4,5,6,7,8,9,10,11,12,13,14,15,16,17,18,19,20,21,22,23,24,25,26,27,28,29,30,31,32,33,34,35,36,37,38,39,40,41,42,43,44,45,46,47,48,49,50,51,52,53,54,55,56,57] (by kernel_rfl) (by kernel_rfl) ?_
   refine TD.z [3] rfl (q_move rfl rfl) ?_
   refine TD.z [350] rfl (q_cmp rfl rfl rfl rfl) ?_
   refine TD.z [351] rfl (q_move rfl rfl) ?_
   refine TD.z [5,352] rfl (q_move rfl rfl) ?_
   refine TD.z [352,353] rfl (q_cmp rfl rfl rfl rfl) ?_
   refine TD.z [352,354] rfl (q_pickT rfl rfl rfl) ?_
   refine TD.z [355] rfl (q_move rfl rfl) ?_
   refine TD.z [7,356] rfl (q_move rfl rfl) ?_
   refine TD.z [356,357] rfl (q_cmp rfl rfl rfl rfl) ?_
   refine TD.z [356,358] rfl (q_pickT rfl rfl rfl) ?_
   refine TD.z [359] rfl (q_move rfl rfl) ?_
   refine TD.z [11,360] rfl (q_move rfl rfl) ?_
   refine TD.z [360,361] rfl (q_cmp rfl rfl rfl rfl) ?_
   refine TD.z [360,362] rfl (q_pickT rfl rfl rfl) ?_
   refine TD.z [363] rfl (q_move rfl rfl) ?_
   refine TD.z [14,364] rfl (q_move rfl rfl) ?_
   refine TD.z [364,365] rfl (q_cmp rfl rfl rfl rfl) ?_
   refine TD.z [364,366] rfl (q_pickT rfl rfl rfl) ?_
   refine TD.z [367] rfl (q_move rfl rfl) ?_
   refine TD.z [16,368] rfl (q_move rfl rfl) ?_
   refine TD.z [368,369] rfl (q_cmp rfl rfl rfl rfl) ?_
   refine TD.z [368,370] rfl (q_pickT rfl rfl rfl) ?_
   refine TD.z [371] rfl (q_move rfl rfl) ?_
   refine TD.z [18,372] rfl (q_move rfl rfl) ?_
   refine TD.z [372,373] rfl (q_cmp rfl rfl rfl rfl) ?_
   refine TD.z [372,374] rfl (q_pickT rfl rfl rfl) ?_
   refine TD.z [375] rfl (q_move rfl rfl) ?_
   refine TD.z [20,376] rfl (q_move rfl rfl) ?_
   refine TD.z [376,377] rfl (q_cmp rfl rfl rfl rfl) ?_
   refine TD.z [376,378] rfl (q_pickT rfl rfl rfl) ?_
   refine TD.z [379] rfl (q_move rfl rfl) ?_
   refine TD.z [28,380] rfl (q_move rfl rfl) ?_
   refine TD.z [380,381] rfl (q_cmp rfl rfl rfl rfl) ?_
   refine TD.z [380,382] rfl (q_pickT rfl rfl rfl) ?_
   refine TD.z [383] rfl (q_move rfl rfl) ?_
   refine TD.z [29,384] rfl (q_move rfl rfl) ?_
   refine TD.z [384,385] rfl (q_cmp rfl rfl rfl rfl) ?_
   refine TD.z [384,386] rfl (q_pickT rfl rfl rfl) ?_
   refine TD.z [387] rfl (q_move rfl rfl) ?_
   refine TD.z [15,388] rfl (q_move rfl rfl) ?_
   refine TD.z [388,389] rfl (q_cmp rfl rfl rfl rfl) ?_
   refine TD.z [388,390] rfl (q_pickT rfl rfl rfl) ?_
   refine TD.z [391] rfl (q_move rfl rfl) ?_
   refine TD.y [19,392] rfl (hq:=q_load rfl rfl TySz.h (List.Mem.head _) rfl) (h:=?_)
   refine TD.cl (pend':=[⟨43,[19,392],[(_,_)]⟩,⟨41,[388,390],[]⟩,⟨40,[388,389],[]⟩,⟨39,[15,388],[]⟩,⟨38,[387],[]⟩,⟨37,[384,386],[]⟩,⟨36,[384,385],[]⟩,⟨35,[29,384],[]⟩,⟨34,[383],[]⟩,⟨33,[380,382],[]⟩,⟨32,[380,381],[]⟩,⟨31,[28,380],[]⟩,⟨30,[379],[]⟩,⟨29,[376,378],[]⟩,⟨28,[376,377],[]⟩,⟨27,[20,376],[]⟩,⟨26,[375],[]⟩,⟨25,[372,374],[]⟩,⟨24,[372,373],[]⟩,⟨23,[18,372],[]⟩,⟨22,[371],[]⟩,⟨21,[368,370],[]⟩,⟨20,[368,369],[]⟩,⟨19,[16,368],[]⟩,⟨18,[367],[]⟩,⟨17,[364,366],[]⟩,⟨16,[364,365],[]⟩,⟨15,[14,364],[]⟩,⟨14,[363],[]⟩,⟨13,[360,362],[]⟩,⟨12,[360,361],[]⟩,⟨11,[11,360],[]⟩,⟨10,[359],[]⟩,⟨9,[356,358],[]⟩,⟨8,[356,357],[]⟩,⟨7,[7,356],[]⟩,⟨6,[355],[]⟩,⟨5,[352,354],[]⟩,⟨4,[352,353],[]⟩,⟨3,[5,352],[]⟩,⟨2,[351],[]⟩,⟨1,[350],[]⟩,⟨0,[3],[]⟩]) [392] rfl rfl rfl rfl rfl (to_ok hT) (fun r115 K116 h117=>⟨?_,?_⟩)
   ·rcases h117 with ⟨rfl,rfl⟩
    all_goals simp
   obtain ⟨rfl,rfl⟩:=h117
   try simp only [List.cons_append,List.nil_append]
   refine TD.norm (by simp only [List.set]; rfl) ?_
   refine TD.z [392,393,394] rfl (q_eqFlat rfl rfl rfl rfl rfl FlatF.h EqG.h) ?_
   refine TD.z [392,395] rfl (q_pickT rfl rfl rfl) ?_
   refine TD.z [396] rfl (q_move rfl rfl) ?_
   refine TD.z [17,397] rfl (q_move rfl rfl) ?_
   refine TD.cnewR (pend':=[⟨48,[17,397],[]⟩,⟨46,[392,395],[]⟩,⟨45,[392,393,394],[]⟩,⟨43,[19,392],[(_,_)]⟩,⟨41,[388,390],[]⟩,⟨40,[388,389],[]⟩,⟨39,[15,388],[]⟩,⟨38,[387],[]⟩,⟨37,[384,386],[]⟩,⟨36,[384,385],[]⟩,⟨35,[29,384],[]⟩,⟨34,[383],[]⟩,⟨33,[380,382],[]⟩,⟨32,[380,381],[]⟩,⟨31,[28,380],[]⟩,⟨30,[379],[]⟩,⟨29,[376,378],[]⟩,⟨28,[376,377],[]⟩,⟨27,[20,376],[]⟩,⟨26,[375],[]⟩,⟨25,[372,374],[]⟩,⟨24,[372,373],[]⟩,⟨23,[18,372],[]⟩,⟨22,[371],[]⟩,⟨21,[368,370],[]⟩,⟨20,[368,369],[]⟩,⟨19,[16,368],[]⟩,⟨18,[367],[]⟩,⟨17,[364,366],[]⟩,⟨16,[364,365],[]⟩,⟨15,[14,364],[]⟩,⟨14,[363],[]⟩,⟨13,[360,362],[]⟩,⟨12,[360,361],[]⟩,⟨11,[11,360],[]⟩,⟨10,[359],[]⟩,⟨9,[356,358],[]⟩,⟨8,[356,357],[]⟩,⟨7,[7,356],[]⟩,⟨6,[355],[]⟩,⟨5,[352,354],[]⟩,⟨4,[352,353],[]⟩,⟨3,[5,352],[]⟩,⟨2,[351],[]⟩,⟨1,[350],[]⟩,⟨0,[3],[]⟩]) [397] rfl rfl rfl rfl rfl (n_buildSlice (l:=[_]) rfl SlEl.h TyZ.h dQ dQ rfl) (fun _=>putS rfl (by simp only [List.set]; rfl)) sQ fun jq1 hjq1=>?_
   refine TD.cl (pend':=[⟨46,[392,395],[]⟩,⟨45,[392,393,394],[]⟩,⟨43,[19,392],[(_,_)]⟩,⟨41,[388,390],[]⟩,⟨40,[388,389],[]⟩,⟨39,[15,388],[]⟩,⟨38,[387],[]⟩,⟨37,[384,386],[]⟩,⟨36,[384,385],[]⟩,⟨35,[29,384],[]⟩,⟨34,[383],[]⟩,⟨33,[380,382],[]⟩,⟨32,[380,381],[]⟩,⟨31,[28,380],[]⟩,⟨30,[379],[]⟩,⟨29,[376,378],[]⟩,⟨28,[376,377],[]⟩,⟨27,[20,376],[]⟩,⟨26,[375],[]⟩,⟨25,[372,374],[]⟩,⟨24,[372,373],[]⟩,⟨23,[18,372],[]⟩,⟨22,[371],[]⟩,⟨21,[368,370],[]⟩,⟨20,[368,369],[]⟩,⟨19,[16,368],[]⟩,⟨18,[367],[]⟩,⟨17,[364,366],[]⟩,⟨16,[364,365],[]⟩,⟨15,[14,364],[]⟩,⟨14,[363],[]⟩,⟨13,[360,362],[]⟩,⟨12,[360,361],[]⟩,⟨11,[11,360],[]⟩,⟨10,[359],[]⟩,⟨9,[356,358],[]⟩,⟨8,[356,357],[]⟩,⟨7,[7,356],[]⟩,⟨6,[355],[]⟩,⟨5,[352,354],[]⟩,⟨4,[352,353],[]⟩,⟨3,[5,352],[]⟩,⟨2,[351],[]⟩,⟨1,[350],[]⟩,⟨0,[3],[]⟩]) [397,398,399] rfl rfl rfl rfl rfl ((list_ok hT (xs:=[1]) (ys:=[1]) (off:=0) (ob:=.cells (([1]++zs9).map intA) 3 false) (fun i x hx=>ints_pre hx) dQ).mono (fun _ _ h=>trT h rfl)) (fun r118 K119 h120=>⟨?_,?_⟩)
   ·rcases h120 with ⟨rfl,rfl⟩
    all_goals simp
   obtain ⟨rfl,rfl⟩:=h120
   try simp only [List.cons_append,List.nil_append]
   refine TD.norm (by simp only [List.set]; rfl) ?_
   refine TD.z [397,400] rfl (q_pickT rfl rfl rfl) ?_
   refine TD.z [401] rfl (q_move rfl rfl) ?_
   refine TD.z [31,402] rfl (q_move rfl rfl) ?_
   refine TD.cnewR (pend':=[⟨53,[31,402],[]⟩,⟨51,[397,400],[]⟩,⟨46,[392,395],[]⟩,⟨45,[392,393,394],[]⟩,⟨43,[19,392],[(_,_)]⟩,⟨41,[388,390],[]⟩,⟨40,[388,389],[]⟩,⟨39,[15,388],[]⟩,⟨38,[387],[]⟩,⟨37,[384,386],[]⟩,⟨36,[384,385],[]⟩,⟨35,[29,384],[]⟩,⟨34,[383],[]⟩,⟨33,[380,382],[]⟩,⟨32,[380,381],[]⟩,⟨31,[28,380],[]⟩,⟨30,[379],[]⟩,⟨29,[376,378],[]⟩,⟨28,[376,377],[]⟩,⟨27,[20,376],[]⟩,⟨26,[375],[]⟩,⟨25,[372,374],[]⟩,⟨24,[372,373],[]⟩,⟨23,[18,372],[]⟩,⟨22,[371],[]⟩,⟨21,[368,370],[]⟩,⟨20,[368,369],[]⟩,⟨19,[16,368],[]⟩,⟨18,[367],[]⟩,⟨17,[364,366],[]⟩,⟨16,[364,365],[]⟩,⟨15,[14,364],[]⟩,⟨14,[363],[]⟩,⟨13,[360,362],[]⟩,⟨12,[360,361],[]⟩,⟨11,[11,360],[]⟩,⟨10,[359],[]⟩,⟨9,[356,358],[]⟩,⟨8,[356,357],[]⟩,⟨7,[7,356],[]⟩,⟨6,[355],[]⟩,⟨5,[352,354],[]⟩,⟨4,[352,353],[]⟩,⟨3,[5,352],[]⟩,⟨2,[351],[]⟩,⟨1,[350],[]⟩,⟨0,[3],[]⟩]) [402] rfl rfl rfl rfl rfl (n_buildSlice (l:=[_,_]) rfl SlEl.h TyZ.h dQ dQ rfl) (fun _=>putS rfl (by simp only [List.set]; rfl)) sQ fun jq2 hjq2=>?_
   refine TD.cl (pend':=[⟨51,[397,400],[]⟩,⟨46,[392,395],[]⟩,⟨45,[392,393,394],[]⟩,⟨43,[19,392],[(_,_)]⟩,⟨41,[388,390],[]⟩,⟨40,[388,389],[]⟩,⟨39,[15,388],[]⟩,⟨38,[387],[]⟩,⟨37,[384,386],[]⟩,⟨36,[384,385],[]⟩,⟨35,[29,384],[]⟩,⟨34,[383],[]⟩,⟨33,[380,382],[]⟩,⟨32,[380,381],[]⟩,⟨31,[28,380],[]⟩,⟨30,[379],[]⟩,⟨29,[376,378],[]⟩,⟨28,[376,377],[]⟩,⟨27,[20,376],[]⟩,⟨26,[375],[]⟩,⟨25,[372,374],[]⟩,⟨24,[372,373],[]⟩,⟨23,[18,372],[]⟩,⟨22,[371],[]⟩,⟨21,[368,370],[]⟩,⟨20,[368,369],[]⟩,⟨19,[16,368],[]⟩,⟨18,[367],[]⟩,⟨17,[364,366],[]⟩,⟨16,[364,365],[]⟩,⟨15,[14,364],[]⟩,⟨14,[363],[]⟩,⟨13,[360,362],[]⟩,⟨12,[360,361],[]⟩,⟨11,[11,360],[]⟩,⟨10,[359],[]⟩,⟨9,[356,358],[]⟩,⟨8,[356,357],[]⟩,⟨7,[7,356],[]⟩,⟨6,[355],[]⟩,⟨5,[352,354],[]⟩,⟨4,[352,353],[]⟩,⟨3,[5,352],[]⟩,⟨2,[351],[]⟩,⟨1,[350],[]⟩,⟨0,[3],[]⟩]) [402,403,404] rfl rfl rfl rfl rfl ((list_ok hT (xs:=[0,1]) (ys:=[0,1]) (off:=0) (ob:=.cells (([0,1]:List Int).map intA) e11 false) (fun i x hx=>ints_at hx rfl) dQ).mono (fun _ _ h=>trT h rfl)) (fun r121 K122 h123=>⟨?_,?_⟩)
   ·rcases h123 with ⟨rfl,rfl⟩
    all_goals simp
   obtain ⟨rfl,rfl⟩:=h123
   try simp only [List.cons_append,List.nil_append]
   refine TD.norm (by simp only [List.set]; rfl) ?_
   refine TD.z [402,405] rfl (q_pickT rfl rfl rfl) ?_
   refine TD.as (pend':=[]) [406] rfl rfl (q_assign rfl rfl) ?_
   refine TD.fin ?_
   refine au [] ?_
   refine TK.rt hret [(0,_)] ?_
   exact ⟨rfl,rfl⟩
end Go.Vel
end
