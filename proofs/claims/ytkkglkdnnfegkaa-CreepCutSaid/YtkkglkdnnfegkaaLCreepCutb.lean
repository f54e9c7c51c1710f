/-
  Walks through the functions of the seat, printed by a program of ours (gowalk), a theorem a function: what the call returns and what it leaves in memory.
-/
import Derived.Test.YtkkglkdnnfegkaaLCreepCuta
import Derived.Test.YtkkglkdnnfegkaaBc
import Derived.Test.YtkkglkdnnfegkaaEnga
import Derived.Test.YtkkglkdnnfegkaaEngb
set_option linter.unusedSimpArgs false
set_option linter.unusedVariables false
namespace Go.Proofs.Ytkkglkdnnfegkaa
open Go.RowKit Go.Shelf Go.Eng
set_option maxHeartbeats 4000000 in
theorem CreepCut_c (w : World) (R : List (Int × Int)) (vr : Value) (hm : SlAt w vr 2 R.length (pairs R)) (rs : List RunD) (lv : List Value) (vu : Value) (hx : RunsAt w vu lv rs) (plan : List Seg) (vp : Value) (hp : SlAt w vp 3 plan.length (trips plan)) (wh ta y : Int) (hB : 0 ≤ wh ∧ wh ≤ 255) (hB2 : 0 ≤ ta ∧ ta ≤ 255) (hy : 0 ≤ y ∧ y ≤ 65535) (hf : readyB R rs plan = true) (h0 : 0 < rs.length) (hc : possF R rs = 0) :
  Calls Try.prog 5 #[(Value.agg #[vr]), vu, vp, (Value.int .u8 wh), (Value.int .u8 ta), (Value.int .u16 y)] w (Ret fun v w' => v = .bool true ∧ Ext NoB w w') := by
 refine calls_enter Try.func5 rfl fun a0 hA0 => ?_
 replace hA0 : Fr 241 [] [(0, (Value.agg #[vr])), (1, vu), (2, vp), (3, (Value.int .u8 wh)), (4, (Value.int .u8 ta)), (5, (Value.int .u16 y))] a0 := hA0
 have hrd := ready_is hf; have hth := hrd.1; have he := hrd.2.1; have h6 := hth.mat; have h9 := hth.runs; have h12 := hth.plan; have hp8 := hrd.2.2.1; have hsb := hrd.2.2.2; have hcm := check_mat (enter_mat he); have hR := hcm.1; have hR1 := hcm.2.1; have hR3 := hR.1; have hV := enter_runs he; have hs : ∀ i, i < plan.length → SegV R.length (plan.getD i (0, 0, 0)) := fun i hi => segV_of (List.all_eq_true.1 hsb i (List.mem_range.2 hi)); have hrt := ratesF_len R rs; have hle := allowed_le (rs := rs) hR; have hal := (poss_is hc).2; have hc0 : planF R rs plan = 0 := plan_0 hc hp8 hsb
 have hS0 : Sep NoB w w [(sl vr 2 R.length (pairs R)), (runsR false vu lv rs), (sl vp 3 plan.length (trips plan))] := sep_ro ⟨rfl, hm, rfl, hx, rfl, hp, trivial⟩
 refine c_seq ?_
 refine c_region ?_
 refine stw hA0 (op_box hS0 rfl (hA0.ev rfl) (cs := [vr]) rfl) rfl rfl (by decide) ?_
 rintro a1 _ w3 ⟨b4, rfl, hS5⟩ hA2; clear hA0 hS0 a0
 refine st hA2 (op_assign rfl (evc _ _)) rfl rfl (by decide) fun a6 hA7 => ?_; clear hA2 a1
 refine wl_nil ?_
 refine then_n ?_
 refine c_seq ?_
 refine c_seq ?_
 refine c_region ?_
 refine st hA7 (op_loadA rfl ty_24 (hA7.ev rfl) (hS5.bk 0 rfl) (l := [vr]) rfl rfl) rfl rfl (by decide) fun a8 hA9 => ?_; clear hA7 a6
 refine st hA9 (op_move rfl (hA9.ev rfl)) rfl rfl (by decide) fun a10 hA11 => ?_; clear hA9 a8
 refine st hA11 (op_move rfl (hA11.ev rfl)) rfl rfl (by decide) fun a12 hA13 => ?_; clear hA11 a10
 refine stw hA13 (op_call rfl en_27 (ev3 (hA13.ev rfl) (hA13.ev rfl) (hA13.ev rfl)) (ready_ok _ R _ (hS5.sk 1 rfl) rs _ _ (runs_at (hS5.ok 2 _ rfl)) plan _ (hS5.sk 3 rfl))) rfl rfl (by decide) ?_
 rintro a14 _ w16 ⟨rfl, hE17⟩ hA15; have hS18 := hS5.step hE17; clear hE17 hA13 hS5 a12
 rw [hf] at hA15
 refine st hA15 (op_not rfl (hA15.ev rfl)) rfl rfl (by decide) fun a19 hA20 => ?_; clear hA15 a14
 refine st hA20 (op_move rfl (hA20.ev rfl)) rfl rfl (by decide) fun a21 hA22 => ?_; clear hA20 a19
 refine stg hA22 (op_move rfl (hA22.ev rfl)) rfl rfl rfl rfl (by decide) fun a23 hA24 => ?_; clear hA22 a21
 refine stg hA24 (op_lenS rfl un_25 (hA24.ev rfl) (runs_at (hS18.ok 2 _ rfl)).runs) rfl rfl rfl rfl (by decide) fun a25 hA26 => ?_; clear hA24 a23
 refine stg hA26 (op_eql rfl (hA26.ev rfl) (evc _ _)) rfl rfl rfl rfl (by decide) fun a27 hA28 => ?_; clear hA26 a25
 have hd29 : ¬ ((rs.length : Int) = 0) := (by omega)
 rw [decide_eq_false hd29] at hA28
 refine st hA28 (op_pick_f rfl (hA28.ev rfl) (hA28.ev rfl)) rfl rfl (by decide) fun a30 hA31 => ?_; clear hA28 a27
 refine wl_nil ?_
 refine then_n ?_
 refine c_false hA31 rfl ?_
 refine c_skip ?_
 refine then_n ?_
 refine c_seq ?_
 have hA32 := hA31.as [(6, (bptr b4 0)), (1, vu), (2, vp), (3, (Value.int .u8 wh)), (4, (Value.int .u8 ta)), (5, (Value.int .u16 y))] rfl; clear hA31
 refine c_region ?_
 refine stw hA32 (op_buildSlice hS18 rfl pv0 un_25 ty_54 ze_54 (by decide) (cs := []) bs_54_0_) rfl rfl (by decide) ?_
 rintro a33 _ w35 ⟨b36, rfl, hS37⟩ hA34; clear hA32 hS18 a30
 refine st hA34 (op_move rfl (hA34.ev rfl)) rfl rfl (by decide) fun a38 hA39 => ?_; clear hA34 a33
 have hS40 := hS37.blk_row (i := 0) (sz := 3) (n := 0) rfl rfl (by decide); clear hS37
 refine stw hA39 (op_append hS40 rfl un_25 el_54 (hA39.ev rfl) (hA39.ev rfl) (i := 0) rfl (runs_at (hS40.ok 3 _ rfl)).runs (runs_one (runs_at (hS40.ok 3 _ rfl)).len (runs_at (hS40.ok 3 _ rfl)).segs) (by simp only [maxLen, replAt, List.length_take, List.length_drop, List.length_append, List.length_cons, List.length_nil]; omega) (by first | omega | (simp only [maxLen, replAt, List.length_take, List.length_drop, List.length_append, List.length_cons, List.length_nil]; omega))) rfl rfl (by decide) ?_
 intro a41 v44 w43 hS45 hA42
 have hS46 := hS45.row_say (i := 0) rfl (n' := rs.length) (xs' := (vtrips (runV lv rs))) (by simp) (by simp); clear hS45 hA39 hS40 a38
 refine st hA42 (op_assign rfl (hA42.ev rfl)) rfl rfl (by decide) fun a47 hA48 => ?_; clear hA42 a41
 refine wl_nil ?_
 refine then_n ?_
 refine c_seq ?_
 refine c_region ?_
 refine st hA48 (op_move rfl (hA48.ev rfl)) rfl rfl (by decide) fun a49 hA50 => ?_; clear hA48 a47
 refine st hA50 (op_conv un_5 un_3 rfl (hA50.ev rfl) (v := wh) (wrap_i64 (by omega) (by omega))) rfl rfl (by decide) fun a51 hA52 => ?_; clear hA50 a49
 refine st hA52 (op_move rfl (hA52.ev rfl)) rfl rfl (by decide) fun a53 hA54 => ?_; clear hA52 a51
 refine st hA54 (op_lenS rfl un_25 (hA54.ev rfl) (SlAt.of_row (hS46.ok_row 0 rfl))) rfl rfl (by decide) fun a55 hA56 => ?_; clear hA54 a53
 refine st hA56 (op_rem rfl (hA56.ev rfl) (hA56.ev rfl) (by omega)) rfl rfl (by decide) fun a57 hA58 => ?_; clear hA56 a55
 refine st hA58 (op_assign rfl (hA58.ev rfl)) rfl rfl (by decide) fun a59 hA60 => ?_; clear hA58 a57
 refine wl_nil ?_
 refine then_n ?_
 refine c_seq ?_
 have hA61 := hA60.as [(14, (Value.int .i64 ((wh).tmod (rs.length : Int)))), (13, v44), (6, (bptr b4 0)), (1, vu), (2, vp), (4, (Value.int .u8 ta)), (5, (Value.int .u16 y))] rfl; clear hA60
 obtain ⟨kk, hz_kk, hb_kk⟩ := rem_nat (n := wh) (m := rs.length) hB.1 (by omega); rw [hz_kk] at hA61
 have hrk := hV.runs kk hb_kk; have hs8 := hrk.len
 refine c_region ?_
 refine st hA61 (op_move rfl (hA61.ev rfl)) rfl rfl (by decide) fun a62 hA63 => ?_; clear hA61 a59
 refine st hA63 (op_move rfl (hA63.ev rfl)) rfl rfl (by decide) fun a64 hA65 => ?_; clear hA63 a62
 refine st hA65 (op_indexS rfl un_25 ty_54 (hA65.ev rfl) (i := kk) (hA65.ev rfl) (SlAt.of_row (hS46.ok_row 0 rfl)) (by decide) (by omega)) rfl rfl (by decide) fun a66 hA67 => ?_; clear hA65 a64
 refine st hA67 (op_fieldS rfl fd_54_0 (hA67.ev rfl) (SlAt.of_row (hS46.ok_row 0 rfl)) (by rw [((SlAt.of_row (hS46.ok_row 0 rfl))).1]; omega)) rfl rfl (by decide) fun a68 hA69 => ?_; clear hA67 a66
 refine st hA69 (op_load1E rfl ty_51 (hA69.ev rfl) (SlAt.of_row (hS46.ok_row 0 rfl)) (runs_at0 (runs_at (hS46.ok 3 _ rfl)).len (by omega))) rfl rfl (by decide) fun a70 hA71 => ?_; clear hA69 a68
 refine st hA71 (op_assign rfl (hA71.ev rfl)) rfl rfl (by decide) fun a72 hA73 => ?_; clear hA71 a70
 refine wl_nil ?_
 refine then_n ?_
 refine c_seq ?_
 refine c_region ?_
 refine st hA73 (op_assign rfl (evc _ _)) rfl rfl (by decide) fun a74 hA75 => ?_; clear hA73 a72
 refine wl_nil ?_
 refine then_n ?_
 refine c_seq ?_
 refine c_region ?_
 refine st hA75 (op_move rfl (hA75.ev rfl)) rfl rfl (by decide) fun a76 hA77 => ?_; clear hA75 a74
 refine st hA77 (op_conv un_5 un_3 rfl (hA77.ev rfl) (v := ta) (wrap_i64 (by omega) (by omega))) rfl rfl (by decide) fun a78 hA79 => ?_; clear hA77 a76
 refine st hA79 (op_field rfl fd_24_0 (hA79.ev rfl)) rfl rfl (by decide) fun a80 hA81 => ?_; clear hA79 a78
 refine st hA81 (op_load1 rfl ty_22 (hA81.ev rfl) (hS46.bk 1 rfl) rfl) rfl rfl (by decide) fun a82 hA83 => ?_; clear hA81 a80
 refine st hA83 (op_lenS rfl un_22 (hA83.ev rfl) (hS46.sk 2 rfl)) rfl rfl (by decide) fun a84 hA85 => ?_; clear hA83 a82
 refine st hA85 (op_rem rfl (hA85.ev rfl) (hA85.ev rfl) (by omega)) rfl rfl (by decide) fun a86 hA87 => ?_; clear hA85 a84
 refine st hA87 (op_build rfl (pv1 (hA87.ev rfl)) (bd_56_0i _)) rfl rfl (by decide) fun a88 hA89 => ?_; clear hA87 a86
 refine stw hA89 (op_alloc hS46 rfl ze_56 (cs := [(Value.int .i64 0), (Value.int .i64 0), (Value.int .i64 0)]) rfl) rfl rfl (by decide) ?_
 rintro a90 _ w92 ⟨b93, rfl, hS94⟩ hA91; clear hA89 hS46 a88
 refine sts hA91 (op_store hS94 rfl ty_56 (hA91.ev rfl) (hA91.ev rfl) (i := 0) rfl (vs := [(Value.int .i64 ((ta).tmod (R.length : Int))), (Value.int .i64 0), (Value.int .i64 0)]) rfl rfl rfl (Nat.le_of_ble_eq_true rfl)) rfl rfl ?_
 intro _ w95 hS96 hA97; clear hA91
 have hS98 : Sep NoB w w95 [(blk b93 56 [(Value.int .i64 ((ta).tmod (R.length : Int))), (Value.int .i64 0), (Value.int .i64 0)]), (row v44 54 3 rs.length (vtrips (runV lv rs))), (blk b4 24 [vr]), (sl vr 2 R.length (pairs R)), (runsR false vu lv rs), (sl vp 3 plan.length (trips plan))] := hS96; clear hS96 hS94
 refine wl_nil ?_
 refine then_n ?_
 refine c_seq ?_
 refine c_seq ?_
 have hA99 := hA97.as [(17, (bptr b93 0)), (16, (Value.int .i64 0)), (15, (lv.getD kk nilS)), (14, (Value.int .i64 (kk : Int))), (13, v44), (6, (bptr b4 0)), (1, vu), (2, vp), (4, (Value.int .u8 ta)), (5, (Value.int .u16 y))] rfl; clear hA97
 refine c_region ?_
 refine st hA99 (op_move rfl (hA99.ev rfl)) rfl rfl (by decide) fun a100 hA101 => ?_; clear hA99 a90
 refine st hA101 (op_lenS rfl un_51 (hA101.ev rfl) ((runs_at (hS98.ok 4 _ rfl)).segs kk (by omega))) rfl rfl (by decide) fun a102 hA103 => ?_; clear hA101 a100
 refine st hA103 (op_gtr rfl (hA103.ev rfl) (evc _ _)) rfl rfl (by decide) fun a104 hA105 => ?_; clear hA103 a102
 refine wl_nil ?_
 refine then_n ?_
 by_cases hb106 : 0 < ((rs.getD kk run0).segs.length : Int)
 ·skip
  rw [decide_eq_true hb106] at hA105
  refine c_true hA105 rfl ?_
  refine c_seq ?_
  refine c_region ?_
  refine st hA105 (op_move rfl (hA105.ev rfl)) rfl rfl (by decide) fun a107 hA108 => ?_; clear hA105 a104
  refine st hA108 (op_conv un_5 un_3 rfl (hA108.ev rfl) (v := ta) (wrap_i64 (by omega) (by omega))) rfl rfl (by decide) fun a109 hA110 => ?_; clear hA108 a107
  refine st hA110 (op_move rfl (hA110.ev rfl)) rfl rfl (by decide) fun a111 hA112 => ?_; clear hA110 a109
  refine st hA112 (op_lenS rfl un_51 (hA112.ev rfl) ((runs_at (hS98.ok 4 _ rfl)).segs kk (by omega))) rfl rfl (by decide) fun a113 hA114 => ?_; clear hA112 a111
  refine st hA114 (op_rem rfl (hA114.ev rfl) (hA114.ev rfl) (by omega)) rfl rfl (by decide) fun a115 hA116 => ?_; clear hA114 a113
  refine st hA116 (op_assign rfl (hA116.ev rfl)) rfl rfl (by decide) fun a117 hA118 => ?_; clear hA116 a115
  refine wl_nil ?_
  refine then_n ?_
  refine c_seq ?_
  have hA119 := hA118.as [(16, (Value.int .i64 ((ta).tmod ((rs.getD kk run0).segs.length : Int)))), (17, (bptr b93 0)), (15, (lv.getD kk nilS)), (14, (Value.int .i64 (kk : Int))), (13, v44), (6, (bptr b4 0)), (1, vu), (2, vp), (5, (Value.int .u16 y))] rfl; clear hA118
  obtain ⟨ii, hz_ii, hb_ii⟩ := rem_nat (n := ta) (m := (rs.getD kk run0).segs.length) hB2.1 (by omega); rw [hz_ii] at hA119
  have hsg := (hrk.segs ii hb_ii).h; have hsgb := (hrk.segs ii hb_ii).b; have hm1 := rem_bd (y := y) (d := ((rs.getD kk run0).segs.getD ii (0, 0, 0)).2.1 + 1) hy.1 (by omega); have hm2 := rem_bd (y := y) (d := ((rs.getD kk run0).segs.getD ii (0, 0, 0)).2.2 - ((rs.getD kk run0).segs.getD ii (0, 0, 0)).2.1 + 1) hy.1 (by omega)
  refine c_region ?_
  refine st hA119 (op_move rfl (hA119.ev rfl)) rfl rfl (by decide) fun a120 hA121 => ?_; clear hA119 a117
  refine st hA121 (op_move rfl (hA121.ev rfl)) rfl rfl (by decide) fun a122 hA123 => ?_; clear hA121 a120
  refine st hA123 (op_indexS rfl un_51 ty_56 (hA123.ev rfl) (i := ii) (hA123.ev rfl) ((runs_at (hS98.ok 4 _ rfl)).segs kk (by omega)) (by decide) (by omega)) rfl rfl (by decide) fun a124 hA125 => ?_; clear hA123 a122
  refine st hA125 (op_fieldS rfl fd_56_1 (hA125.ev rfl) ((runs_at (hS98.ok 4 _ rfl)).segs kk (by omega)) (by rw [(((runs_at (hS98.ok 4 _ rfl)).segs kk (by omega))).1]; omega)) rfl rfl (by decide) fun a126 hA127 => ?_; clear hA125 a124
  refine st hA127 (op_loadAE rfl ty_48 (hA127.ev rfl) ((runs_at (hS98.ok 4 _ rfl)).segs kk (by omega)) (trips_sub (by omega)) rfl (by decide)) rfl rfl (by decide) fun a128 hA129 => ?_; clear hA127 a126
  refine stw hA129 (op_alloc hS98 rfl ze_48 (cs := [(Value.int .i64 0), (Value.int .i64 0)]) rfl) rfl rfl (by decide) ?_
  rintro a130 _ w132 ⟨b133, rfl, hS134⟩ hA131; clear hA129 hS98 a128
  refine sts hA131 (op_store hS134 rfl ty_48 (hA131.ev rfl) (hA131.ev rfl) (i := 0) rfl (vs := [(Value.int .i64 ((((rs.getD kk run0).segs).getD ii (0, 0, 0)).2.1)), (Value.int .i64 ((((rs.getD kk run0).segs).getD ii (0, 0, 0)).2.2))]) rfl rfl rfl (Nat.le_of_ble_eq_true rfl)) rfl rfl ?_
  intro _ w135 hS136 hA137; clear hA131
  have hS138 : Sep NoB w w135 [(blk b133 48 [(Value.int .i64 ((((rs.getD kk run0).segs).getD ii (0, 0, 0)).2.1)), (Value.int .i64 ((((rs.getD kk run0).segs).getD ii (0, 0, 0)).2.2))]), (blk b93 56 [(Value.int .i64 ((ta).tmod (R.length : Int))), (Value.int .i64 0), (Value.int .i64 0)]), (row v44 54 3 rs.length (vtrips (runV lv rs))), (blk b4 24 [vr]), (sl vr 2 R.length (pairs R)), (runsR false vu lv rs), (sl vp 3 plan.length (trips plan))] := hS136; clear hS136 hS134
  refine wl_nil ?_
  refine then_n ?_
  refine c_seq ?_
  have hA139 := hA137.as [(18, (bptr b133 0)), (16, (Value.int .i64 (ii : Int))), (17, (bptr b93 0)), (15, (lv.getD kk nilS)), (14, (Value.int .i64 (kk : Int))), (13, v44), (6, (bptr b4 0)), (1, vu), (2, vp), (5, (Value.int .u16 y))] rfl; clear hA137
  refine c_drawn mixed hA139 hS138 12 [[], [], [0, 1], [2], [3], [], [5], [], [7], [8], [6, 9], [10]] [(Yd.val (lv.getD kk nilS)), (Yd.val (Value.int .i64 (ii : Int))), (Yd.val (eptr (lv.getD kk nilS) (ii * 3))), (Yd.val (eptr (lv.getD kk nilS) (ii * 3 + 0))), (Yd.val (Value.int .i64 ((((rs.getD kk run0).segs).getD ii (0, 0, 0)).1))), (Yd.val (Value.int .u16 y)), (Yd.val (Value.int .i64 y)), (Yd.val (bptr b133 0)), (Yd.val (Value.int .i64 ((((rs.getD kk run0).segs).getD ii (0, 0, 0)).2.1))), (Yd.val (Value.int .i64 (((((rs.getD kk run0).segs).getD ii (0, 0, 0)).2.1) + 1))), (Yd.val (Value.int .i64 ((y).tmod (((((rs.getD kk run0).segs).getD ii (0, 0, 0)).2.1) + 1)))), (Yd.val (Value.agg #[(Value.int .i64 ((y).tmod (((((rs.getD kk run0).segs).getD ii (0, 0, 0)).2.1) + 1))), (Value.int .i64 0)]))] (by decide +kernel) rfl rfl ?_ ?_
  ·skip
   refine ⟨fun a w hA hS hd => by exact opG_of rfl (dv (op_move rfl (hA.ev rfl)) hS rfl), ?_⟩
   refine ⟨fun a w hA hS hd => by exact opG_of rfl (dv (op_move rfl (hA.ev rfl)) hS rfl), ?_⟩
   refine ⟨fun a w hA hS hd => by have e0 := has_ev (hd 0 (by decide)) rfl (fun _ h => h); have e1 := has_ev (hd 1 (by decide)) rfl (fun _ h => h); exact opG_of rfl (dv (op_indexS rfl un_51 ty_56 (tmp_ev e0) (i := ii) (tmp_ev e1) ((runs_at (hS.ok 5 _ rfl)).segs kk (by omega)) (by decide) (by omega)) hS rfl), ?_⟩
   refine ⟨fun a w hA hS hd => by have e2 := has_ev (hd 2 (by decide)) rfl (fun _ h => h); exact opG_of rfl (dv (op_fieldS rfl fd_56_0 (tmp_ev e2) ((runs_at (hS.ok 5 _ rfl)).segs kk (by omega)) (by rw [(((runs_at (hS.ok 5 _ rfl)).segs kk (by omega))).1]; omega)) hS rfl), ?_⟩
   refine ⟨fun a w hA hS hd => by have e3 := has_ev (hd 3 (by decide)) rfl (fun _ h => h); exact opG_of rfl (dv (op_load1E rfl ty_3 (tmp_ev e3) ((runs_at (hS.ok 5 _ rfl)).segs kk (by omega)) (trips_at0 (by omega))) hS rfl), ?_⟩
   refine ⟨fun a w hA hS hd => by exact opG_of rfl (dv (op_move rfl (hA.ev rfl)) hS rfl), ?_⟩
   refine ⟨fun a w hA hS hd => by have e5 := has_ev (hd 5 (by decide)) rfl (fun _ h => h); exact opG_of rfl (dv (op_conv un_52 un_3 rfl (tmp_ev e5) (v := y) (wrap_i64 (by omega) (by omega))) hS rfl), ?_⟩
   refine ⟨fun a w hA hS hd => by exact opG_of rfl (dv (op_field rfl fd_48_0 (hA.ev rfl)) hS rfl), ?_⟩
   refine ⟨fun a w hA hS hd => by have e7 := has_ev (hd 7 (by decide)) rfl (fun _ h => h); exact opG_of rfl (dv (op_load1 rfl ty_3 (tmp_ev e7) (hS.bk 0 rfl) rfl) hS rfl), ?_⟩
   refine ⟨fun a w hA hS hd => by have e8 := has_ev (hd 8 (by decide)) rfl (fun _ h => h); exact opG_of rfl (dv (op_add rfl (tmp_ev e8) (evc _ _) (by omega) (by omega)) hS rfl), ?_⟩
   refine ⟨fun a w hA hS hd => by have e6 := has_ev (hd 6 (by decide)) rfl (fun _ h => h); have e9 := has_ev (hd 9 (by decide)) rfl (fun _ h => h); exact opG_of rfl (dv (op_rem rfl (tmp_ev e6) (tmp_ev e9) (by omega)) hS rfl), ?_⟩
   refine ⟨fun a w hA hS hd => by have e10 := has_ev (hd 10 (by decide)) rfl (fun _ h => h); exact opG_of rfl (dv (op_build rfl (pv1 (tmp_ev e10)) (bd_48_0i _)) hS rfl), ?_⟩
   trivial
  intro a141 w142 hA143 hS144 hH145; clear hA139 hS138
  have hA146 := hA143.add (has_ev (hH145 4 (by decide)) rfl (fun _ h => h)); clear hA143
  have hA147 := hA146.add (has_ev (hH145 11 (by decide)) rfl (fun _ h => h)); clear hA146
  clear hH145
  refine st hA147 (op_build rfl (pv2 (hA147.ev rfl) (hA147.ev rfl)) (bd_56_0i_1iia _ _ _)) rfl rfl (by decide) fun a148 hA149 => ?_; clear hA147 a141
  refine sts hA149 (op_store hS144 rfl ty_56 (hA149.ev rfl) (hA149.ev rfl) (i := 1) rfl (vs := [(Value.int .i64 ((((rs.getD kk run0).segs).getD ii (0, 0, 0)).1)), (Value.int .i64 ((y).tmod (((((rs.getD kk run0).segs).getD ii (0, 0, 0)).2.1) + 1))), (Value.int .i64 0)]) rfl rfl rfl (Nat.le_of_ble_eq_true rfl)) rfl rfl ?_
  intro _ w150 hS151 hA152; clear hA149
  have hS153 : Sep NoB w w150 [(blk b133 48 [(Value.int .i64 ((((rs.getD kk run0).segs).getD ii (0, 0, 0)).2.1)), (Value.int .i64 ((((rs.getD kk run0).segs).getD ii (0, 0, 0)).2.2))]), (blk b93 56 [(Value.int .i64 ((((rs.getD kk run0).segs).getD ii (0, 0, 0)).1)), (Value.int .i64 ((y).tmod (((((rs.getD kk run0).segs).getD ii (0, 0, 0)).2.1) + 1))), (Value.int .i64 0)]), (row v44 54 3 rs.length (vtrips (runV lv rs))), (blk b4 24 [vr]), (sl vr 2 R.length (pairs R)), (runsR false vu lv rs), (sl vp 3 plan.length (trips plan))] := hS151; clear hS151 hS144
  refine wl_nil ?_
  refine then_n ?_
  refine c_seq ?_
  have hA154 := hA152.as [(18, (bptr b133 0)), (16, (Value.int .i64 (ii : Int))), (17, (bptr b93 0)), (15, (lv.getD kk nilS)), (14, (Value.int .i64 (kk : Int))), (13, v44), (6, (bptr b4 0)), (1, vu), (2, vp), (5, (Value.int .u16 y))] rfl; clear hA152
  refine c_drawn mixed hA154 hS153 12 [[], [0], [1], [], [3], [], [5], [], [7], [6, 8], [9], [4, 10]] [(Yd.val (bptr b93 1)), (Yd.val (bptr b93 1)), (Yd.val (Value.int .i64 ((y).tmod (((((rs.getD kk run0).segs).getD ii (0, 0, 0)).2.1) + 1)))), (Yd.val (Value.int .u16 y)), (Yd.val (Value.int .i64 y)), (Yd.val (bptr b133 1)), (Yd.val (Value.int .i64 ((((rs.getD kk run0).segs).getD ii (0, 0, 0)).2.2))), (Yd.val (bptr b133 0)), (Yd.val (Value.int .i64 ((((rs.getD kk run0).segs).getD ii (0, 0, 0)).2.1))), (Yd.val (Value.int .i64 (((((rs.getD kk run0).segs).getD ii (0, 0, 0)).2.2) - ((((rs.getD kk run0).segs).getD ii (0, 0, 0)).2.1)))), (Yd.val (Value.int .i64 ((((((rs.getD kk run0).segs).getD ii (0, 0, 0)).2.2) - ((((rs.getD kk run0).segs).getD ii (0, 0, 0)).2.1)) + 1))), (Yd.val (Value.int .i64 ((y).tmod ((((((rs.getD kk run0).segs).getD ii (0, 0, 0)).2.2) - ((((rs.getD kk run0).segs).getD ii (0, 0, 0)).2.1)) + 1))))] (by decide +kernel) rfl rfl ?_ ?_
  ·skip
   refine ⟨fun a w hA hS hd => by exact opG_of rfl (dv (op_field rfl fd_56_1 (hA.ev rfl)) hS rfl), ?_⟩
   refine ⟨fun a w hA hS hd => by have e0 := has_ev (hd 0 (by decide)) rfl (fun _ h => h); exact opG_of rfl (dv (op_field rfl fd_48_0 (tmp_ev e0)) hS rfl), ?_⟩
   refine ⟨fun a w hA hS hd => by have e1 := has_ev (hd 1 (by decide)) rfl (fun _ h => h); exact opG_of rfl (dv (op_load1 rfl ty_3 (tmp_ev e1) (hS.bk 1 rfl) rfl) hS rfl), ?_⟩
   refine ⟨fun a w hA hS hd => by exact opG_of rfl (dv (op_move rfl (hA.ev rfl)) hS rfl), ?_⟩
   refine ⟨fun a w hA hS hd => by have e3 := has_ev (hd 3 (by decide)) rfl (fun _ h => h); exact opG_of rfl (dv (op_conv un_52 un_3 rfl (tmp_ev e3) (v := y) (wrap_i64 (by omega) (by omega))) hS rfl), ?_⟩
   refine ⟨fun a w hA hS hd => by exact opG_of rfl (dv (op_field rfl fd_48_1 (hA.ev rfl)) hS rfl), ?_⟩
   refine ⟨fun a w hA hS hd => by have e5 := has_ev (hd 5 (by decide)) rfl (fun _ h => h); exact opG_of rfl (dv (op_load1 rfl ty_3 (tmp_ev e5) (hS.bk 0 rfl) rfl) hS rfl), ?_⟩
   refine ⟨fun a w hA hS hd => by exact opG_of rfl (dv (op_field rfl fd_48_0 (hA.ev rfl)) hS rfl), ?_⟩
   refine ⟨fun a w hA hS hd => by have e7 := has_ev (hd 7 (by decide)) rfl (fun _ h => h); exact opG_of rfl (dv (op_load1 rfl ty_3 (tmp_ev e7) (hS.bk 0 rfl) rfl) hS rfl), ?_⟩
   refine ⟨fun a w hA hS hd => by have e6 := has_ev (hd 6 (by decide)) rfl (fun _ h => h); have e8 := has_ev (hd 8 (by decide)) rfl (fun _ h => h); exact opG_of rfl (dv (op_sub rfl (tmp_ev e6) (tmp_ev e8) (by omega) (by omega)) hS rfl), ?_⟩
   refine ⟨fun a w hA hS hd => by have e9 := has_ev (hd 9 (by decide)) rfl (fun _ h => h); exact opG_of rfl (dv (op_add rfl (tmp_ev e9) (evc _ _) (by omega) (by omega)) hS rfl), ?_⟩
   refine ⟨fun a w hA hS hd => by have e4 := has_ev (hd 4 (by decide)) rfl (fun _ h => h); have e10 := has_ev (hd 10 (by decide)) rfl (fun _ h => h); exact opG_of rfl (dv (op_rem rfl (tmp_ev e4) (tmp_ev e10) (by omega)) hS rfl), ?_⟩
   trivial
  intro a156 w157 hA158 hS159 hH160; clear hA154 hS153
  have hA161 := hA158.add (has_ev (hH160 2 (by decide)) rfl (fun _ h => h)); clear hA158
  have hA162 := hA161.add (has_ev (hH160 11 (by decide)) rfl (fun _ h => h)); clear hA161
  clear hH160
  refine st hA162 (op_add rfl (hA162.ev rfl) (hA162.ev rfl) (by omega) (by omega)) rfl rfl (by decide) fun a163 hA164 => ?_; clear hA162 a156
  refine st hA164 (op_field rfl fd_56_1 (hA164.ev rfl)) rfl rfl (by decide) fun a165 hA166 => ?_; clear hA164 a163
  refine st hA166 (op_field rfl fd_48_1 (hA166.ev rfl)) rfl rfl (by decide) fun a167 hA168 => ?_; clear hA166 a165
  refine sts hA168 (op_store hS159 rfl ty_3 (hA168.ev rfl) (hA168.ev rfl) (i := 1) rfl (vs := [(Value.int .i64 (((y).tmod (((((rs.getD kk run0).segs).getD ii (0, 0, 0)).2.1) + 1)) + ((y).tmod ((((((rs.getD kk run0).segs).getD ii (0, 0, 0)).2.2) - ((((rs.getD kk run0).segs).getD ii (0, 0, 0)).2.1)) + 1))))]) rfl rfl rfl (Nat.le_of_ble_eq_true rfl)) rfl rfl ?_
  intro _ w169 hS170 hA171; clear hA168
  have hS172 : Sep NoB w w169 [(blk b133 48 [(Value.int .i64 ((((rs.getD kk run0).segs).getD ii (0, 0, 0)).2.1)), (Value.int .i64 ((((rs.getD kk run0).segs).getD ii (0, 0, 0)).2.2))]), (blk b93 56 [(Value.int .i64 ((((rs.getD kk run0).segs).getD ii (0, 0, 0)).1)), (Value.int .i64 ((y).tmod (((((rs.getD kk run0).segs).getD ii (0, 0, 0)).2.1) + 1))), (Value.int .i64 (((y).tmod (((((rs.getD kk run0).segs).getD ii (0, 0, 0)).2.1) + 1)) + ((y).tmod ((((((rs.getD kk run0).segs).getD ii (0, 0, 0)).2.2) - ((((rs.getD kk run0).segs).getD ii (0, 0, 0)).2.1)) + 1))))]), (row v44 54 3 rs.length (vtrips (runV lv rs))), (blk b4 24 [vr]), (sl vr 2 R.length (pairs R)), (runsR false vu lv rs), (sl vp 3 plan.length (trips plan))] := hS170; clear hS170 hS159
  refine wl_nil ?_
  refine then_n ?_
  refine c_seq ?_
  have hA173 := hA171.as [(18, (bptr b133 0)), (16, (Value.int .i64 (ii : Int))), (17, (bptr b93 0)), (15, (lv.getD kk nilS)), (14, (Value.int .i64 (kk : Int))), (13, v44), (6, (bptr b4 0)), (1, vu), (2, vp)] rfl; clear hA171
  have hA174 := hA173.as [(18, (bptr b133 0)), (16, (Value.int .i64 (ii : Int))), (17, (bptr b93 0)), (15, (lv.getD kk nilS)), (14, (Value.int .i64 (kk : Int))), (13, v44), (6, (bptr b4 0)), (1, vu), (2, vp)] rfl; clear hA173
  refine c_drawV mixed hA174 hS172 20 [[], [], [0, 1], [2], [3], [], [5], [], [7], [8], [6, 9], [], [11], [], [13], [14], [12, 15], [10, 16], [4, 17], []] [(fun (vs175 : Nat → Value) (v_ : Value) (rs_ : List Res) => v_ = (lv.getD kk nilS) ∧ rs_ = []), (fun (vs175 : Nat → Value) (v_ : Value) (rs_ : List Res) => v_ = (Value.int .i64 (ii : Int)) ∧ rs_ = []), (fun (vs175 : Nat → Value) (v_ : Value) (rs_ : List Res) => v_ = (eptr (lv.getD kk nilS) (ii * 3)) ∧ rs_ = []), (fun (vs175 : Nat → Value) (v_ : Value) (rs_ : List Res) => v_ = (eptr (lv.getD kk nilS) (ii * 3 + 0)) ∧ rs_ = []), (fun (vs175 : Nat → Value) (v_ : Value) (rs_ : List Res) => v_ = (Value.int .i64 ((((rs.getD kk run0).segs).getD ii (0, 0, 0)).1)) ∧ rs_ = []), (fun (vs175 : Nat → Value) (v_ : Value) (rs_ : List Res) => v_ = (bptr b133 0) ∧ rs_ = []), (fun (vs175 : Nat → Value) (v_ : Value) (rs_ : List Res) => v_ = (Value.int .i64 ((((rs.getD kk run0).segs).getD ii (0, 0, 0)).2.1)) ∧ rs_ = []), (fun (vs175 : Nat → Value) (v_ : Value) (rs_ : List Res) => v_ = (bptr b93 1) ∧ rs_ = []), (fun (vs175 : Nat → Value) (v_ : Value) (rs_ : List Res) => v_ = (bptr b93 1) ∧ rs_ = []), (fun (vs175 : Nat → Value) (v_ : Value) (rs_ : List Res) => v_ = (Value.int .i64 ((y).tmod (((((rs.getD kk run0).segs).getD ii (0, 0, 0)).2.1) + 1))) ∧ rs_ = []), (fun (vs175 : Nat → Value) (v_ : Value) (rs_ : List Res) => v_ = (Value.int .i64 (((((rs.getD kk run0).segs).getD ii (0, 0, 0)).2.1) - ((y).tmod (((((rs.getD kk run0).segs).getD ii (0, 0, 0)).2.1) + 1)))) ∧ rs_ = []), (fun (vs175 : Nat → Value) (v_ : Value) (rs_ : List Res) => v_ = (bptr b133 1) ∧ rs_ = []), (fun (vs175 : Nat → Value) (v_ : Value) (rs_ : List Res) => v_ = (Value.int .i64 ((((rs.getD kk run0).segs).getD ii (0, 0, 0)).2.2)) ∧ rs_ = []), (fun (vs175 : Nat → Value) (v_ : Value) (rs_ : List Res) => v_ = (bptr b93 1) ∧ rs_ = []), (fun (vs175 : Nat → Value) (v_ : Value) (rs_ : List Res) => v_ = (bptr b93 2) ∧ rs_ = []), (fun (vs175 : Nat → Value) (v_ : Value) (rs_ : List Res) => v_ = (Value.int .i64 (((y).tmod (((((rs.getD kk run0).segs).getD ii (0, 0, 0)).2.1) + 1)) + ((y).tmod ((((((rs.getD kk run0).segs).getD ii (0, 0, 0)).2.2) - ((((rs.getD kk run0).segs).getD ii (0, 0, 0)).2.1)) + 1)))) ∧ rs_ = []), (fun (vs175 : Nat → Value) (v_ : Value) (rs_ : List Res) => v_ = (Value.int .i64 (((((rs.getD kk run0).segs).getD ii (0, 0, 0)).2.2) - (((y).tmod (((((rs.getD kk run0).segs).getD ii (0, 0, 0)).2.1) + 1)) + ((y).tmod ((((((rs.getD kk run0).segs).getD ii (0, 0, 0)).2.2) - ((((rs.getD kk run0).segs).getD ii (0, 0, 0)).2.1)) + 1))))) ∧ rs_ = []), (fun (vs175 : Nat → Value) (v_ : Value) (rs_ : List Res) => v_ = (Value.agg #[(Value.int .i64 (((((rs.getD kk run0).segs).getD ii (0, 0, 0)).2.1) - ((y).tmod (((((rs.getD kk run0).segs).getD ii (0, 0, 0)).2.1) + 1)))), (Value.int .i64 (((((rs.getD kk run0).segs).getD ii (0, 0, 0)).2.2) - (((y).tmod (((((rs.getD kk run0).segs).getD ii (0, 0, 0)).2.1) + 1)) + ((y).tmod ((((((rs.getD kk run0).segs).getD ii (0, 0, 0)).2.2) - ((((rs.getD kk run0).segs).getD ii (0, 0, 0)).2.1)) + 1)))))]) ∧ rs_ = []), (fun (vs175 : Nat → Value) (v_ : Value) (rs_ : List Res) => v_ = (Value.agg #[(Value.int .i64 ((((rs.getD kk run0).segs).getD ii (0, 0, 0)).1)), (Value.int .i64 (((((rs.getD kk run0).segs).getD ii (0, 0, 0)).2.1) - ((y).tmod (((((rs.getD kk run0).segs).getD ii (0, 0, 0)).2.1) + 1)))), (Value.int .i64 (((((rs.getD kk run0).segs).getD ii (0, 0, 0)).2.2) - (((y).tmod (((((rs.getD kk run0).segs).getD ii (0, 0, 0)).2.1) + 1)) + ((y).tmod ((((((rs.getD kk run0).segs).getD ii (0, 0, 0)).2.2) - ((((rs.getD kk run0).segs).getD ii (0, 0, 0)).2.1)) + 1)))))]) ∧ rs_ = []), (fun (vs175 : Nat → Value) (v_ : Value) (rs_ : List Res) => ∃ (b19_ : Nat), v_ = (bptr b19_ 0) ∧ rs_ = [(blk b19_ 56 [(Value.int .i64 0), (Value.int .i64 0), (Value.int .i64 0)])])] (by decide +kernel) (by decide +kernel) rfl rfl ⟨(fun _ _ _ _ _ h_ => h_), (fun _ _ _ _ _ h_ => h_), (fun _ _ _ _ _ h_ => h_), (fun _ _ _ _ _ h_ => h_), (fun _ _ _ _ _ h_ => h_), (fun _ _ _ _ _ h_ => h_), (fun _ _ _ _ _ h_ => h_), (fun _ _ _ _ _ h_ => h_), (fun _ _ _ _ _ h_ => h_), (fun _ _ _ _ _ h_ => h_), (fun _ _ _ _ _ h_ => h_), (fun _ _ _ _ _ h_ => h_), (fun _ _ _ _ _ h_ => h_), (fun _ _ _ _ _ h_ => h_), (fun _ _ _ _ _ h_ => h_), (fun _ _ _ _ _ h_ => h_), (fun _ _ _ _ _ h_ => h_), (fun _ _ _ _ _ h_ => h_), (fun _ _ _ _ _ h_ => h_), (fun _ _ _ _ _ h_ => h_), trivial⟩ ?_ ?_
  ·skip
   refine ⟨fun a w vs175 hA hS hd => ?_, ?_⟩
   ·skip
    exact opG_of rfl (vv (op_move rfl (hA.ev rfl)) (And.intro rfl rfl))
   refine ⟨fun a w vs175 hA hS hd => ?_, ?_⟩
   ·skip
    exact opG_of rfl (vv (op_move rfl (hA.ev rfl)) (And.intro rfl rfl))
   refine ⟨fun a w vs175 hA hS hd => ?_, ?_⟩
   ·skip
    obtain ⟨e0, rs0, hy0, hp0⟩ := hd 0 (by decide)
    obtain ⟨hv0, hr0⟩ := hy0; subst hr0
    rw [hv0] at e0
    obtain ⟨e1, rs1, hy1, hp1⟩ := hd 1 (by decide)
    obtain ⟨hv1, hr1⟩ := hy1; subst hr1
    rw [hv1] at e1
    exact opG_of rfl (vv (op_indexS rfl un_51 ty_56 (tmp_ev (slot_ev e0 rfl)) (i := ii) (tmp_ev (slot_ev e1 rfl)) ((runs_at (hS.ok 5 _ rfl)).segs kk (by omega)) (by decide) (by omega)) (And.intro rfl rfl))
   refine ⟨fun a w vs175 hA hS hd => ?_, ?_⟩
   ·skip
    obtain ⟨e2, rs2, hy2, hp2⟩ := hd 2 (by decide)
    obtain ⟨hv2, hr2⟩ := hy2; subst hr2
    rw [hv2] at e2
    exact opG_of rfl (vv (op_fieldS rfl fd_56_0 (tmp_ev (slot_ev e2 rfl)) ((runs_at (hS.ok 5 _ rfl)).segs kk (by omega)) (by rw [(((runs_at (hS.ok 5 _ rfl)).segs kk (by omega))).1]; omega)) (And.intro rfl rfl))
   refine ⟨fun a w vs175 hA hS hd => ?_, ?_⟩
   ·skip
    obtain ⟨e3, rs3, hy3, hp3⟩ := hd 3 (by decide)
    obtain ⟨hv3, hr3⟩ := hy3; subst hr3
    rw [hv3] at e3
    exact opG_of rfl (vv (op_load1E rfl ty_3 (tmp_ev (slot_ev e3 rfl)) ((runs_at (hS.ok 5 _ rfl)).segs kk (by omega)) (trips_at0 (by omega))) (And.intro rfl rfl))
   refine ⟨fun a w vs175 hA hS hd => ?_, ?_⟩
   ·skip
    exact opG_of rfl (vv (op_field rfl fd_48_0 (hA.ev rfl)) (And.intro rfl rfl))
   refine ⟨fun a w vs175 hA hS hd => ?_, ?_⟩
   ·skip
    obtain ⟨e5, rs5, hy5, hp5⟩ := hd 5 (by decide)
    obtain ⟨hv5, hr5⟩ := hy5; subst hr5
    rw [hv5] at e5
    exact opG_of rfl (vv (op_load1 rfl ty_3 (tmp_ev (slot_ev e5 rfl)) (hS.bk 0 rfl) rfl) (And.intro rfl rfl))
   refine ⟨fun a w vs175 hA hS hd => ?_, ?_⟩
   ·skip
    exact opG_of rfl (vv (op_field rfl fd_56_1 (hA.ev rfl)) (And.intro rfl rfl))
   refine ⟨fun a w vs175 hA hS hd => ?_, ?_⟩
   ·skip
    obtain ⟨e7, rs7, hy7, hp7⟩ := hd 7 (by decide)
    obtain ⟨hv7, hr7⟩ := hy7; subst hr7
    rw [hv7] at e7
    exact opG_of rfl (vv (op_field rfl fd_48_0 (tmp_ev (slot_ev e7 rfl))) (And.intro rfl rfl))
   refine ⟨fun a w vs175 hA hS hd => ?_, ?_⟩
   ·skip
    obtain ⟨e8, rs8, hy8, hp8⟩ := hd 8 (by decide)
    obtain ⟨hv8, hr8⟩ := hy8; subst hr8
    rw [hv8] at e8
    exact opG_of rfl (vv (op_load1 rfl ty_3 (tmp_ev (slot_ev e8 rfl)) (hS.bk 1 rfl) rfl) (And.intro rfl rfl))
   refine ⟨fun a w vs175 hA hS hd => ?_, ?_⟩
   ·skip
    obtain ⟨e6, rs6, hy6, hp6⟩ := hd 6 (by decide)
    obtain ⟨hv6, hr6⟩ := hy6; subst hr6
    rw [hv6] at e6
    obtain ⟨e9, rs9, hy9, hp9⟩ := hd 9 (by decide)
    obtain ⟨hv9, hr9⟩ := hy9; subst hr9
    rw [hv9] at e9
    exact opG_of rfl (vv (op_sub rfl (tmp_ev (slot_ev e6 rfl)) (tmp_ev (slot_ev e9 rfl)) (by omega) (by omega)) (And.intro rfl rfl))
   refine ⟨fun a w vs175 hA hS hd => ?_, ?_⟩
   ·skip
    exact opG_of rfl (vv (op_field rfl fd_48_1 (hA.ev rfl)) (And.intro rfl rfl))
   refine ⟨fun a w vs175 hA hS hd => ?_, ?_⟩
   ·skip
    obtain ⟨e11, rs11, hy11, hp11⟩ := hd 11 (by decide)
    obtain ⟨hv11, hr11⟩ := hy11; subst hr11
    rw [hv11] at e11
    exact opG_of rfl (vv (op_load1 rfl ty_3 (tmp_ev (slot_ev e11 rfl)) (hS.bk 0 rfl) rfl) (And.intro rfl rfl))
   refine ⟨fun a w vs175 hA hS hd => ?_, ?_⟩
   ·skip
    exact opG_of rfl (vv (op_field rfl fd_56_1 (hA.ev rfl)) (And.intro rfl rfl))
   refine ⟨fun a w vs175 hA hS hd => ?_, ?_⟩
   ·skip
    obtain ⟨e13, rs13, hy13, hp13⟩ := hd 13 (by decide)
    obtain ⟨hv13, hr13⟩ := hy13; subst hr13
    rw [hv13] at e13
    exact opG_of rfl (vv (op_field rfl fd_48_1 (tmp_ev (slot_ev e13 rfl))) (And.intro rfl rfl))
   refine ⟨fun a w vs175 hA hS hd => ?_, ?_⟩
   ·skip
    obtain ⟨e14, rs14, hy14, hp14⟩ := hd 14 (by decide)
    obtain ⟨hv14, hr14⟩ := hy14; subst hr14
    rw [hv14] at e14
    exact opG_of rfl (vv (op_load1 rfl ty_3 (tmp_ev (slot_ev e14 rfl)) (hS.bk 1 rfl) rfl) (And.intro rfl rfl))
   refine ⟨fun a w vs175 hA hS hd => ?_, ?_⟩
   ·skip
    obtain ⟨e12, rs12, hy12, hp12⟩ := hd 12 (by decide)
    obtain ⟨hv12, hr12⟩ := hy12; subst hr12
    rw [hv12] at e12
    obtain ⟨e15, rs15, hy15, hp15⟩ := hd 15 (by decide)
    obtain ⟨hv15, hr15⟩ := hy15; subst hr15
    rw [hv15] at e15
    exact opG_of rfl (vv (op_sub rfl (tmp_ev (slot_ev e12 rfl)) (tmp_ev (slot_ev e15 rfl)) (by omega) (by omega)) (And.intro rfl rfl))
   refine ⟨fun a w vs175 hA hS hd => ?_, ?_⟩
   ·skip
    obtain ⟨e10, rs10, hy10, hp10⟩ := hd 10 (by decide)
    obtain ⟨hv10, hr10⟩ := hy10; subst hr10
    rw [hv10] at e10
    obtain ⟨e16, rs16, hy16, hp16⟩ := hd 16 (by decide)
    obtain ⟨hv16, hr16⟩ := hy16; subst hr16
    rw [hv16] at e16
    exact opG_of rfl (vv (op_build rfl (pv2 (tmp_ev (slot_ev e10 rfl)) (tmp_ev (slot_ev e16 rfl))) (bd_48_0i_1i _ _)) (And.intro rfl rfl))
   refine ⟨fun a w vs175 hA hS hd => ?_, ?_⟩
   ·skip
    obtain ⟨e4, rs4, hy4, hp4⟩ := hd 4 (by decide)
    obtain ⟨hv4, hr4⟩ := hy4; subst hr4
    rw [hv4] at e4
    obtain ⟨e17, rs17, hy17, hp17⟩ := hd 17 (by decide)
    obtain ⟨hv17, hr17⟩ := hy17; subst hr17
    rw [hv17] at e17
    exact opG_of rfl (vv (op_build rfl (pv2 (tmp_ev (slot_ev e4 rfl)) (tmp_ev (slot_ev e17 rfl))) (bd_56_0i_1iia _ _ _)) (And.intro rfl rfl))
   refine ⟨fun a w vs175 hA hS hd => ?_, ?_⟩
   ·skip
    exact opG_of rfl (valloc rfl ze_56 (cs := [(Value.int .i64 0), (Value.int .i64 0), (Value.int .i64 0)]) rfl (fun b_ => ⟨b_, rfl, rfl⟩))
   trivial
  intro a176 w177 vs175 rsf181 hA178 hH180 hS179; clear hA174 hS172
  obtain ⟨hs_0, hy_0⟩ := hH180 0 (by decide)
  obtain ⟨hv_0, hr_0⟩ := hy_0
  obtain ⟨hs_1, hy_1⟩ := hH180 1 (by decide)
  obtain ⟨hv_1, hr_1⟩ := hy_1
  obtain ⟨hs_2, hy_2⟩ := hH180 2 (by decide)
  obtain ⟨hv_2, hr_2⟩ := hy_2
  obtain ⟨hs_3, hy_3⟩ := hH180 3 (by decide)
  obtain ⟨hv_3, hr_3⟩ := hy_3
  obtain ⟨hs_4, hy_4⟩ := hH180 4 (by decide)
  obtain ⟨hv_4, hr_4⟩ := hy_4
  obtain ⟨hs_5, hy_5⟩ := hH180 5 (by decide)
  obtain ⟨hv_5, hr_5⟩ := hy_5
  obtain ⟨hs_6, hy_6⟩ := hH180 6 (by decide)
  obtain ⟨hv_6, hr_6⟩ := hy_6
  obtain ⟨hs_7, hy_7⟩ := hH180 7 (by decide)
  obtain ⟨hv_7, hr_7⟩ := hy_7
  obtain ⟨hs_8, hy_8⟩ := hH180 8 (by decide)
  obtain ⟨hv_8, hr_8⟩ := hy_8
  obtain ⟨hs_9, hy_9⟩ := hH180 9 (by decide)
  obtain ⟨hv_9, hr_9⟩ := hy_9
  obtain ⟨hs_10, hy_10⟩ := hH180 10 (by decide)
  obtain ⟨hv_10, hr_10⟩ := hy_10
  obtain ⟨hs_11, hy_11⟩ := hH180 11 (by decide)
  obtain ⟨hv_11, hr_11⟩ := hy_11
  obtain ⟨hs_12, hy_12⟩ := hH180 12 (by decide)
  obtain ⟨hv_12, hr_12⟩ := hy_12
  obtain ⟨hs_13, hy_13⟩ := hH180 13 (by decide)
  obtain ⟨hv_13, hr_13⟩ := hy_13
  obtain ⟨hs_14, hy_14⟩ := hH180 14 (by decide)
  obtain ⟨hv_14, hr_14⟩ := hy_14
  obtain ⟨hs_15, hy_15⟩ := hH180 15 (by decide)
  obtain ⟨hv_15, hr_15⟩ := hy_15
  obtain ⟨hs_16, hy_16⟩ := hH180 16 (by decide)
  obtain ⟨hv_16, hr_16⟩ := hy_16
  obtain ⟨hs_17, hy_17⟩ := hH180 17 (by decide)
  obtain ⟨hv_17, hr_17⟩ := hy_17
  obtain ⟨hs_18, hy_18⟩ := hH180 18 (by decide)
  obtain ⟨hv_18, hr_18⟩ := hy_18
  obtain ⟨hs_19, hy_19⟩ := hH180 19 (by decide)
  obtain ⟨b19_, hv_19, hr_19⟩ := hy_19
  have hS182 : Sep NoB w w177 [(blk b19_ 56 [(Value.int .i64 0), (Value.int .i64 0), (Value.int .i64 0)]), (blk b133 48 [(Value.int .i64 ((((rs.getD kk run0).segs).getD ii (0, 0, 0)).2.1)), (Value.int .i64 ((((rs.getD kk run0).segs).getD ii (0, 0, 0)).2.2))]), (blk b93 56 [(Value.int .i64 ((((rs.getD kk run0).segs).getD ii (0, 0, 0)).1)), (Value.int .i64 ((y).tmod (((((rs.getD kk run0).segs).getD ii (0, 0, 0)).2.1) + 1))), (Value.int .i64 (((y).tmod (((((rs.getD kk run0).segs).getD ii (0, 0, 0)).2.1) + 1)) + ((y).tmod ((((((rs.getD kk run0).segs).getD ii (0, 0, 0)).2.2) - ((((rs.getD kk run0).segs).getD ii (0, 0, 0)).2.1)) + 1))))]), (row v44 54 3 rs.length (vtrips (runV lv rs))), (blk b4 24 [vr]), (sl vr 2 R.length (pairs R)), (runsR false vu lv rs), (sl vp 3 plan.length (trips plan))] := by rw [show catR rsf181 0 20 = ([(blk b19_ 56 [(Value.int .i64 0), (Value.int .i64 0), (Value.int .i64 0)])] : List Res) by (try simp only [catR, hr_0, hr_1, hr_2, hr_3, hr_4, hr_5, hr_6, hr_7, hr_8, hr_9, hr_10, hr_11, hr_12, hr_13, hr_14, hr_15, hr_16, hr_17, hr_18, hr_19]); (try rfl)] at hS179; exact hS179
  rw [hv_18] at hs_18
  have hA183 : Fr 241 [] [(121, (Value.agg #[(Value.int .i64 ((((rs.getD kk run0).segs).getD ii (0, 0, 0)).1)), (Value.int .i64 (((((rs.getD kk run0).segs).getD ii (0, 0, 0)).2.1) - ((y).tmod (((((rs.getD kk run0).segs).getD ii (0, 0, 0)).2.1) + 1)))), (Value.int .i64 (((((rs.getD kk run0).segs).getD ii (0, 0, 0)).2.2) - (((y).tmod (((((rs.getD kk run0).segs).getD ii (0, 0, 0)).2.1) + 1)) + ((y).tmod ((((((rs.getD kk run0).segs).getD ii (0, 0, 0)).2.2) - ((((rs.getD kk run0).segs).getD ii (0, 0, 0)).2.1)) + 1)))))])), (18, (bptr b133 0)), (16, (Value.int .i64 (ii : Int))), (17, (bptr b93 0)), (15, (lv.getD kk nilS)), (14, (Value.int .i64 (kk : Int))), (13, v44), (6, (bptr b4 0)), (1, vu), (2, vp)] a176 := hA178.add (slot_ev hs_18 rfl); clear hA178
  rw [hv_19] at hs_19
  have hA184 : Fr 241 [] [(19, (bptr b19_ 0)), (121, (Value.agg #[(Value.int .i64 ((((rs.getD kk run0).segs).getD ii (0, 0, 0)).1)), (Value.int .i64 (((((rs.getD kk run0).segs).getD ii (0, 0, 0)).2.1) - ((y).tmod (((((rs.getD kk run0).segs).getD ii (0, 0, 0)).2.1) + 1)))), (Value.int .i64 (((((rs.getD kk run0).segs).getD ii (0, 0, 0)).2.2) - (((y).tmod (((((rs.getD kk run0).segs).getD ii (0, 0, 0)).2.1) + 1)) + ((y).tmod ((((((rs.getD kk run0).segs).getD ii (0, 0, 0)).2.2) - ((((rs.getD kk run0).segs).getD ii (0, 0, 0)).2.1)) + 1)))))])), (18, (bptr b133 0)), (16, (Value.int .i64 (ii : Int))), (17, (bptr b93 0)), (15, (lv.getD kk nilS)), (14, (Value.int .i64 (kk : Int))), (13, v44), (6, (bptr b4 0)), (1, vu), (2, vp)] a176 := hA183.add (slot_ev hs_19 rfl); clear hA183
  clear hH180 hS179 hs_0 hs_1 hs_2 hs_3 hs_4 hs_5 hs_6 hs_7 hs_8 hs_9 hs_10 hs_11 hs_12 hs_13 hs_14 hs_15 hs_16 hs_17 hs_18 hs_19
  clear hr_0
  clear hv_0
  clear hr_1
  clear hv_1
  clear hr_2
  clear hv_2
  clear hr_3
  clear hv_3
  clear hr_4
  clear hv_4
  clear hr_5
  clear hv_5
  clear hr_6
  clear hv_6
  clear hr_7
  clear hv_7
  clear hr_8
  clear hv_8
  clear hr_9
  clear hv_9
  clear hr_10
  clear hv_10
  clear hr_11
  clear hv_11
  clear hr_12
  clear hv_12
  clear hr_13
  clear hv_13
  clear hr_14
  clear hv_14
  clear hr_15
  clear hv_15
  clear hr_16
  clear hv_16
  clear hr_17
  clear hv_17
  clear hr_18
  clear hv_18
  clear hr_19
  clear hv_19
  refine sts hA184 (op_store hS182 rfl ty_56 (hA184.ev rfl) (hA184.ev rfl) (i := 0) rfl (vs := [(Value.int .i64 ((((rs.getD kk run0).segs).getD ii (0, 0, 0)).1)), (Value.int .i64 (((((rs.getD kk run0).segs).getD ii (0, 0, 0)).2.1) - ((y).tmod (((((rs.getD kk run0).segs).getD ii (0, 0, 0)).2.1) + 1)))), (Value.int .i64 (((((rs.getD kk run0).segs).getD ii (0, 0, 0)).2.2) - (((y).tmod (((((rs.getD kk run0).segs).getD ii (0, 0, 0)).2.1) + 1)) + ((y).tmod ((((((rs.getD kk run0).segs).getD ii (0, 0, 0)).2.2) - ((((rs.getD kk run0).segs).getD ii (0, 0, 0)).2.1)) + 1)))))]) rfl rfl rfl (Nat.le_of_ble_eq_true rfl)) rfl rfl ?_
  intro _ w185 hS186 hA187; clear hA184
  have hS188 : Sep NoB w w185 [(blk b19_ 56 [(Value.int .i64 ((((rs.getD kk run0).segs).getD ii (0, 0, 0)).1)), (Value.int .i64 (((((rs.getD kk run0).segs).getD ii (0, 0, 0)).2.1) - ((y).tmod (((((rs.getD kk run0).segs).getD ii (0, 0, 0)).2.1) + 1)))), (Value.int .i64 (((((rs.getD kk run0).segs).getD ii (0, 0, 0)).2.2) - (((y).tmod (((((rs.getD kk run0).segs).getD ii (0, 0, 0)).2.1) + 1)) + ((y).tmod ((((((rs.getD kk run0).segs).getD ii (0, 0, 0)).2.2) - ((((rs.getD kk run0).segs).getD ii (0, 0, 0)).2.1)) + 1)))))]), (blk b133 48 [(Value.int .i64 ((((rs.getD kk run0).segs).getD ii (0, 0, 0)).2.1)), (Value.int .i64 ((((rs.getD kk run0).segs).getD ii (0, 0, 0)).2.2))]), (blk b93 56 [(Value.int .i64 ((((rs.getD kk run0).segs).getD ii (0, 0, 0)).1)), (Value.int .i64 ((y).tmod (((((rs.getD kk run0).segs).getD ii (0, 0, 0)).2.1) + 1))), (Value.int .i64 (((y).tmod (((((rs.getD kk run0).segs).getD ii (0, 0, 0)).2.1) + 1)) + ((y).tmod ((((((rs.getD kk run0).segs).getD ii (0, 0, 0)).2.2) - ((((rs.getD kk run0).segs).getD ii (0, 0, 0)).2.1)) + 1))))]), (row v44 54 3 rs.length (vtrips (runV lv rs))), (blk b4 24 [vr]), (sl vr 2 R.length (pairs R)), (runsR false vu lv rs), (sl vp 3 plan.length (trips plan))] := hS186; clear hS186 hS182
  refine wl_nil ?_
  refine then_n ?_
  have hA189 := hA187.as [(19, (bptr b19_ 0)), (16, (Value.int .i64 (ii : Int))), (17, (bptr b93 0)), (15, (lv.getD kk nilS)), (14, (Value.int .i64 (kk : Int))), (13, v44), (6, (bptr b4 0)), (1, vu), (2, vp)] rfl; clear hA187
  refine c_drawCC mixed hA189 hS188 12 [(4, 0), (7, 4)] [[], [], [], [1, 2], [0, 3], [], [5], [4, 6], [], [], [9], [8, 10]] [(fun (vs190 : Nat → Value) (v_ : Value) (rs_ : List Res) => ∃ (b0_ : Nat), v_ = (Value.slice (some ⟨b0_, 0, none⟩) 0 0) ∧ rs_ = [(blk b0_ 56 [])]), (fun (vs190 : Nat → Value) (v_ : Value) (rs_ : List Res) => v_ = (lv.getD kk nilS) ∧ rs_ = []), (fun (vs190 : Nat → Value) (v_ : Value) (rs_ : List Res) => v_ = (Value.int .i64 (ii : Int)) ∧ rs_ = []), (fun (vs190 : Nat → Value) (v_ : Value) (rs_ : List Res) => v_ = (slcut (lv.getD kk nilS) 0 ii 3) ∧ rs_ = []), (fun (vs190 : Nat → Value) (v_ : Value) (rs_ : List Res) => True ∧ rs_ = [(row v_ 56 3 ((((rs.getD kk run0).segs).take ii).length) (trips (((rs.getD kk run0).segs).take ii)))]), (fun (vs190 : Nat → Value) (v_ : Value) (rs_ : List Res) => v_ = (Value.agg #[(Value.int .i64 ((((rs.getD kk run0).segs).getD ii (0, 0, 0)).1)), (Value.int .i64 (((((rs.getD kk run0).segs).getD ii (0, 0, 0)).2.1) - ((y).tmod (((((rs.getD kk run0).segs).getD ii (0, 0, 0)).2.1) + 1)))), (Value.int .i64 (((((rs.getD kk run0).segs).getD ii (0, 0, 0)).2.2) - (((y).tmod (((((rs.getD kk run0).segs).getD ii (0, 0, 0)).2.1) + 1)) + ((y).tmod ((((((rs.getD kk run0).segs).getD ii (0, 0, 0)).2.2) - ((((rs.getD kk run0).segs).getD ii (0, 0, 0)).2.1)) + 1)))))]) ∧ rs_ = []), (fun (vs190 : Nat → Value) (v_ : Value) (rs_ : List Res) => True ∧ rs_ = [(row v_ 56 3 1 [(Value.int .i64 ((((rs.getD kk run0).segs).getD ii (0, 0, 0)).1)), (Value.int .i64 (((((rs.getD kk run0).segs).getD ii (0, 0, 0)).2.1) - ((y).tmod (((((rs.getD kk run0).segs).getD ii (0, 0, 0)).2.1) + 1)))), (Value.int .i64 (((((rs.getD kk run0).segs).getD ii (0, 0, 0)).2.2) - (((y).tmod (((((rs.getD kk run0).segs).getD ii (0, 0, 0)).2.1) + 1)) + ((y).tmod ((((((rs.getD kk run0).segs).getD ii (0, 0, 0)).2.2) - ((((rs.getD kk run0).segs).getD ii (0, 0, 0)).2.1)) + 1)))))])]), (fun (vs190 : Nat → Value) (v_ : Value) (rs_ : List Res) => True ∧ rs_ = [(row v_ 56 3 (((((rs.getD kk run0).segs).take ii) ++ [(((((rs.getD kk run0).segs).getD ii (0, 0, 0)).1, ((((rs.getD kk run0).segs).getD ii (0, 0, 0)).2.1) - ((y).tmod (((((rs.getD kk run0).segs).getD ii (0, 0, 0)).2.1) + 1)), ((((rs.getD kk run0).segs).getD ii (0, 0, 0)).2.2) - (((y).tmod (((((rs.getD kk run0).segs).getD ii (0, 0, 0)).2.1) + 1)) + ((y).tmod ((((((rs.getD kk run0).segs).getD ii (0, 0, 0)).2.2) - ((((rs.getD kk run0).segs).getD ii (0, 0, 0)).2.1)) + 1)))) : Seg)]).length) (trips ((((rs.getD kk run0).segs).take ii) ++ [(((((rs.getD kk run0).segs).getD ii (0, 0, 0)).1, ((((rs.getD kk run0).segs).getD ii (0, 0, 0)).2.1) - ((y).tmod (((((rs.getD kk run0).segs).getD ii (0, 0, 0)).2.1) + 1)), ((((rs.getD kk run0).segs).getD ii (0, 0, 0)).2.2) - (((y).tmod (((((rs.getD kk run0).segs).getD ii (0, 0, 0)).2.1) + 1)) + ((y).tmod ((((((rs.getD kk run0).segs).getD ii (0, 0, 0)).2.2) - ((((rs.getD kk run0).segs).getD ii (0, 0, 0)).2.1)) + 1)))) : Seg)])))]), (fun (vs190 : Nat → Value) (v_ : Value) (rs_ : List Res) => v_ = (lv.getD kk nilS) ∧ rs_ = []), (fun (vs190 : Nat → Value) (v_ : Value) (rs_ : List Res) => v_ = (Value.int .i64 (ii : Int)) ∧ rs_ = []), (fun (vs190 : Nat → Value) (v_ : Value) (rs_ : List Res) => v_ = (Value.int .i64 ((ii : Int) + 1)) ∧ rs_ = []), (fun (vs190 : Nat → Value) (v_ : Value) (rs_ : List Res) => v_ = (slcut (lv.getD kk nilS) (ii + 1) ((rs.getD kk run0).segs.length) 3) ∧ rs_ = [])] (by decide +kernel) (by decide +kernel) (by decide +kernel) (by decide +kernel) rfl rfl ⟨(fun _ _ _ _ _ h_ => h_), (fun _ _ _ _ _ h_ => h_), (fun _ _ _ _ _ h_ => h_), (fun _ _ _ _ _ h_ => h_), (fun _ _ _ _ _ h_ => h_), (fun _ _ _ _ _ h_ => h_), (fun _ _ _ _ _ h_ => h_), (fun _ _ _ _ _ h_ => h_), (fun _ _ _ _ _ h_ => h_), (fun _ _ _ _ _ h_ => h_), (fun _ _ _ _ _ h_ => h_), (fun _ _ _ _ _ h_ => h_), trivial⟩ (by decide +kernel) ?_ ?_ ?_
  ·skip
   refine ⟨fun hj_ a w vs190 hA hS hd => ?_, ?_⟩
   ·skip
    exact opG_of rfl (vblz rfl pv0 un_51 ty_56 ze_56 bs_56_0_ (fun b_ => ⟨b_, rfl, rfl⟩))
   refine ⟨fun hj_ a w vs190 hA hS hd => ?_, ?_⟩
   ·skip
    exact opG_of rfl (vv (op_move rfl (hA.ev rfl)) (And.intro rfl rfl))
   refine ⟨fun hj_ a w vs190 hA hS hd => ?_, ?_⟩
   ·skip
    exact opG_of rfl (vv (op_move rfl (hA.ev rfl)) (And.intro rfl rfl))
   refine ⟨fun hj_ a w vs190 hA hS hd => ?_, ?_⟩
   ·skip
    obtain ⟨e1, rs1, hy1, hp1⟩ := hd 1 (by decide)
    obtain ⟨hv1, hr1⟩ := hy1; subst hr1
    rw [hv1] at e1
    obtain ⟨e2, rs2, hy2, hp2⟩ := hd 2 (by decide)
    obtain ⟨hv2, hr2⟩ := hy2; subst hr2
    rw [hv2] at e2
    exact opG_of rfl (vv (op_sliceHi rfl un_51 ty_56 (tmp_ev (slot_ev e1 rfl)) (h := ii) (tmp_ev (slot_ev e2 rfl)) ((runs_at (hS.ok 6 _ rfl)).segs kk (by omega)) (by omega)) (And.intro rfl rfl))
   refine ⟨fun hj_ => absurd hj_ (by decide), ?_⟩
   refine ⟨fun hj_ a w vs190 hA hS hd => ?_, ?_⟩
   ·skip
    exact opG_of rfl (vv (op_loadA rfl ty_56 (hA.ev rfl) (hS.bk 0 rfl) (l := [(Value.int .i64 ((((rs.getD kk run0).segs).getD ii (0, 0, 0)).1)), (Value.int .i64 (((((rs.getD kk run0).segs).getD ii (0, 0, 0)).2.1) - ((y).tmod (((((rs.getD kk run0).segs).getD ii (0, 0, 0)).2.1) + 1)))), (Value.int .i64 (((((rs.getD kk run0).segs).getD ii (0, 0, 0)).2.2) - (((y).tmod (((((rs.getD kk run0).segs).getD ii (0, 0, 0)).2.1) + 1)) + ((y).tmod ((((((rs.getD kk run0).segs).getD ii (0, 0, 0)).2.2) - ((((rs.getD kk run0).segs).getD ii (0, 0, 0)).2.1)) + 1)))))]) rfl rfl) (And.intro rfl rfl))
   refine ⟨fun hj_ a w vs190 hA hS hd => ?_, ?_⟩
   ·skip
    obtain ⟨e5, rs5, hy5, hp5⟩ := hd 5 (by decide)
    obtain ⟨hv5, hr5⟩ := hy5; subst hr5
    rw [hv5] at e5
    exact opG_of rfl (vblt rfl (pv1 (tmp_ev (slot_ev e5 rfl))) un_51 ty_56 ze_56 (by decide) (cs := [(Value.int .i64 ((((rs.getD kk run0).segs).getD ii (0, 0, 0)).1)), (Value.int .i64 (((((rs.getD kk run0).segs).getD ii (0, 0, 0)).2.1) - ((y).tmod (((((rs.getD kk run0).segs).getD ii (0, 0, 0)).2.1) + 1)))), (Value.int .i64 (((((rs.getD kk run0).segs).getD ii (0, 0, 0)).2.2) - (((y).tmod (((((rs.getD kk run0).segs).getD ii (0, 0, 0)).2.1) + 1)) + ((y).tmod ((((((rs.getD kk run0).segs).getD ii (0, 0, 0)).2.2) - ((((rs.getD kk run0).segs).getD ii (0, 0, 0)).2.1)) + 1)))))]) (bs_56_1_0iiia _ _ _) rfl (by decide) (fun _ => And.intro trivial rfl))
   refine ⟨fun hj_ => absurd hj_ (by decide), ?_⟩
   refine ⟨fun hj_ a w vs190 hA hS hd => ?_, ?_⟩
   ·skip
    exact opG_of rfl (vv (op_move rfl (hA.ev rfl)) (And.intro rfl rfl))
   refine ⟨fun hj_ a w vs190 hA hS hd => ?_, ?_⟩
   ·skip
    exact opG_of rfl (vv (op_move rfl (hA.ev rfl)) (And.intro rfl rfl))
   refine ⟨fun hj_ a w vs190 hA hS hd => ?_, ?_⟩
   ·skip
    obtain ⟨e9, rs9, hy9, hp9⟩ := hd 9 (by decide)
    obtain ⟨hv9, hr9⟩ := hy9; subst hr9
    rw [hv9] at e9
    exact opG_of rfl (vv (op_add rfl (tmp_ev (slot_ev e9 rfl)) (evc _ _) (by omega) (by omega)) (And.intro rfl rfl))
   refine ⟨fun hj_ a w vs190 hA hS hd => ?_, ?_⟩
   ·skip
    obtain ⟨e8, rs8, hy8, hp8⟩ := hd 8 (by decide)
    obtain ⟨hv8, hr8⟩ := hy8; subst hr8
    rw [hv8] at e8
    obtain ⟨e10, rs10, hy10, hp10⟩ := hd 10 (by decide)
    obtain ⟨hv10, hr10⟩ := hy10; subst hr10
    rw [hv10] at e10
    exact opG_of rfl (vv (op_sliceLo rfl un_51 ty_56 (tmp_ev (slot_ev e8 rfl)) (l := ii + 1) ((tmp_ev (slot_ev e10 rfl)).trans (congrArg (Value.int .i64) (show ((ii : Int) + 1 : Int) = ((ii + 1 : Nat) : Int) by omega))) ((runs_at (hS.ok 6 _ rfl)).segs kk (by omega)) (by omega)) (And.intro rfl rfl))
   trivial
  ·skip
   refine ⟨fun o_ ho_ => ?_, ?_⟩
   ·skip
    obtain rfl := Option.some.inj ho_; clear ho_
    intro a w vs190 rs0 Lr hA hs0 hy0 hd hL hS
    obtain ⟨b0_, hv0, hr0⟩ := hy0; subst hr0
    rw [hv0] at hs0
    replace hS := hS.blk_row (i := 0) (sz := 3) (n := 0) rfl rfl (by decide)
    obtain ⟨e3, rs3, hy3, hp3⟩ := hd 3 (by decide) (by decide)
    obtain ⟨hv3, hr3⟩ := hy3; subst hr3
    rw [hv3] at e3
    exact opG_of rfl (opY_mono (op_append hS rfl un_51 el_56 (tmp_ev (slot_ev hs0 rfl)) (tmp_ev (slot_ev e3 rfl)) (i := 0) rfl (SlAt.say (n' := (((rs.getD kk run0).segs).take ii).length) (cs' := (trips (((rs.getD kk run0).segs).take ii))) (SlAt.cut ((runs_at (hL.ok 6 _ rfl)).segs kk (by omega)) (Nat.zero_le _) (by omega)) (by simp only [List.length_take]; omega) (trips_cutHi _ _)) (trips_one _) (by simp only [maxLen, replAt, List.length_take, List.length_drop, List.length_append, List.length_cons, List.length_nil]; omega) (by first | omega | (simp only [maxLen, replAt, List.length_take, List.length_drop, List.length_append, List.length_cons, List.length_nil]; omega))) fun v_ w_ h_ => ⟨_, And.intro trivial rfl, h_.row_say (i := 0) rfl (n' := (((rs.getD kk run0).segs).take ii).length) (xs' := (trips (((rs.getD kk run0).segs).take ii))) (by simp) (by simp)⟩)
   refine ⟨fun o_ ho_ => ?_, ?_⟩
   ·skip
    obtain rfl := Option.some.inj ho_; clear ho_
    intro a w vs190 rs0 Lr hA hs0 hy0 hd hL hS
    obtain ⟨hv4, hr4⟩ := hy0; subst hr4
    obtain ⟨e6, rs6, hy6, hp6⟩ := hd 6 (by decide) (by decide)
    obtain ⟨hv6, hr6⟩ := hy6; subst hr6
    have hp6_0 := hp6 _ (List.mem_of_getElem? (i := 0) rfl)
    exact opG_of rfl (opY_mono (op_append hS rfl un_51 el_56 (tmp_ev (slot_ev hs0 rfl)) (tmp_ev (slot_ev e6 rfl)) (i := 0) rfl (SlAt.of_row hp6_0) rfl (by simp only [maxLen, replAt, List.length_take, List.length_drop, List.length_append, List.length_cons, List.length_nil]; omega) (by first | omega | (simp only [maxLen, replAt, List.length_take, List.length_drop, List.length_append, List.length_cons, List.length_nil]; omega))) fun v_ w_ h_ => ⟨_, And.intro trivial rfl, h_.row_say (i := 0) rfl (n' := ((((rs.getD kk run0).segs).take ii) ++ [(((((rs.getD kk run0).segs).getD ii (0, 0, 0)).1, ((((rs.getD kk run0).segs).getD ii (0, 0, 0)).2.1) - ((y).tmod (((((rs.getD kk run0).segs).getD ii (0, 0, 0)).2.1) + 1)), ((((rs.getD kk run0).segs).getD ii (0, 0, 0)).2.2) - (((y).tmod (((((rs.getD kk run0).segs).getD ii (0, 0, 0)).2.1) + 1)) + ((y).tmod ((((((rs.getD kk run0).segs).getD ii (0, 0, 0)).2.2) - ((((rs.getD kk run0).segs).getD ii (0, 0, 0)).2.1)) + 1)))) : Seg)]).length) (xs' := (trips ((((rs.getD kk run0).segs).take ii) ++ [(((((rs.getD kk run0).segs).getD ii (0, 0, 0)).1, ((((rs.getD kk run0).segs).getD ii (0, 0, 0)).2.1) - ((y).tmod (((((rs.getD kk run0).segs).getD ii (0, 0, 0)).2.1) + 1)), ((((rs.getD kk run0).segs).getD ii (0, 0, 0)).2.2) - (((y).tmod (((((rs.getD kk run0).segs).getD ii (0, 0, 0)).2.1) + 1)) + ((y).tmod ((((((rs.getD kk run0).segs).getD ii (0, 0, 0)).2.2) - ((((rs.getD kk run0).segs).getD ii (0, 0, 0)).2.1)) + 1)))) : Seg)]))) (by first | exact List.length_append.symm | simp) (by first | exact (trips_append _ _).symm | simp [trips])⟩)
   trivial
  ·skip
   intro a191 w192 vs190 rsf196 hA193 hH195 hrq hS194; clear hA189 hS188
   have hrq_0 := hrq (4, 0) (by decide)
   have hrq_4 := hrq (7, 4) (by decide)
   obtain ⟨hs_1, hy_1⟩ := hH195 1 (by decide) (by decide)
   obtain ⟨hv_1, hr_1⟩ := hy_1
   obtain ⟨hs_2, hy_2⟩ := hH195 2 (by decide) (by decide)
   obtain ⟨hv_2, hr_2⟩ := hy_2
   obtain ⟨hs_3, hy_3⟩ := hH195 3 (by decide) (by decide)
   obtain ⟨hv_3, hr_3⟩ := hy_3
   obtain ⟨hs_5, hy_5⟩ := hH195 5 (by decide) (by decide)
   obtain ⟨hv_5, hr_5⟩ := hy_5
   obtain ⟨hs_6, hy_6⟩ := hH195 6 (by decide) (by decide)
   obtain ⟨hv_6, hr_6⟩ := hy_6
   obtain ⟨hs_7, hy_7⟩ := hH195 7 (by decide) (by decide)
   obtain ⟨hv_7, hr_7⟩ := hy_7
   obtain ⟨hs_8, hy_8⟩ := hH195 8 (by decide) (by decide)
   obtain ⟨hv_8, hr_8⟩ := hy_8
   obtain ⟨hs_9, hy_9⟩ := hH195 9 (by decide) (by decide)
   obtain ⟨hv_9, hr_9⟩ := hy_9
   obtain ⟨hs_10, hy_10⟩ := hH195 10 (by decide) (by decide)
   obtain ⟨hv_10, hr_10⟩ := hy_10
   obtain ⟨hs_11, hy_11⟩ := hH195 11 (by decide) (by decide)
   obtain ⟨hv_11, hr_11⟩ := hy_11
   have hS197 : Sep NoB w w192 [(row (vs190 6) 56 3 1 [(Value.int .i64 ((((rs.getD kk run0).segs).getD ii (0, 0, 0)).1)), (Value.int .i64 (((((rs.getD kk run0).segs).getD ii (0, 0, 0)).2.1) - ((y).tmod (((((rs.getD kk run0).segs).getD ii (0, 0, 0)).2.1) + 1)))), (Value.int .i64 (((((rs.getD kk run0).segs).getD ii (0, 0, 0)).2.2) - (((y).tmod (((((rs.getD kk run0).segs).getD ii (0, 0, 0)).2.1) + 1)) + ((y).tmod ((((((rs.getD kk run0).segs).getD ii (0, 0, 0)).2.2) - ((((rs.getD kk run0).segs).getD ii (0, 0, 0)).2.1)) + 1)))))]), (row (vs190 7) 56 3 (((((rs.getD kk run0).segs).take ii) ++ [(((((rs.getD kk run0).segs).getD ii (0, 0, 0)).1, ((((rs.getD kk run0).segs).getD ii (0, 0, 0)).2.1) - ((y).tmod (((((rs.getD kk run0).segs).getD ii (0, 0, 0)).2.1) + 1)), ((((rs.getD kk run0).segs).getD ii (0, 0, 0)).2.2) - (((y).tmod (((((rs.getD kk run0).segs).getD ii (0, 0, 0)).2.1) + 1)) + ((y).tmod ((((((rs.getD kk run0).segs).getD ii (0, 0, 0)).2.2) - ((((rs.getD kk run0).segs).getD ii (0, 0, 0)).2.1)) + 1)))) : Seg)]).length) (trips ((((rs.getD kk run0).segs).take ii) ++ [(((((rs.getD kk run0).segs).getD ii (0, 0, 0)).1, ((((rs.getD kk run0).segs).getD ii (0, 0, 0)).2.1) - ((y).tmod (((((rs.getD kk run0).segs).getD ii (0, 0, 0)).2.1) + 1)), ((((rs.getD kk run0).segs).getD ii (0, 0, 0)).2.2) - (((y).tmod (((((rs.getD kk run0).segs).getD ii (0, 0, 0)).2.1) + 1)) + ((y).tmod ((((((rs.getD kk run0).segs).getD ii (0, 0, 0)).2.2) - ((((rs.getD kk run0).segs).getD ii (0, 0, 0)).2.1)) + 1)))) : Seg)]))), (blk b19_ 56 [(Value.int .i64 ((((rs.getD kk run0).segs).getD ii (0, 0, 0)).1)), (Value.int .i64 (((((rs.getD kk run0).segs).getD ii (0, 0, 0)).2.1) - ((y).tmod (((((rs.getD kk run0).segs).getD ii (0, 0, 0)).2.1) + 1)))), (Value.int .i64 (((((rs.getD kk run0).segs).getD ii (0, 0, 0)).2.2) - (((y).tmod (((((rs.getD kk run0).segs).getD ii (0, 0, 0)).2.1) + 1)) + ((y).tmod ((((((rs.getD kk run0).segs).getD ii (0, 0, 0)).2.2) - ((((rs.getD kk run0).segs).getD ii (0, 0, 0)).2.1)) + 1)))))]), (blk b133 48 [(Value.int .i64 ((((rs.getD kk run0).segs).getD ii (0, 0, 0)).2.1)), (Value.int .i64 ((((rs.getD kk run0).segs).getD ii (0, 0, 0)).2.2))]), (blk b93 56 [(Value.int .i64 ((((rs.getD kk run0).segs).getD ii (0, 0, 0)).1)), (Value.int .i64 ((y).tmod (((((rs.getD kk run0).segs).getD ii (0, 0, 0)).2.1) + 1))), (Value.int .i64 (((y).tmod (((((rs.getD kk run0).segs).getD ii (0, 0, 0)).2.1) + 1)) + ((y).tmod ((((((rs.getD kk run0).segs).getD ii (0, 0, 0)).2.2) - ((((rs.getD kk run0).segs).getD ii (0, 0, 0)).2.1)) + 1))))]), (row v44 54 3 rs.length (vtrips (runV lv rs))), (blk b4 24 [vr]), (sl vr 2 R.length (pairs R)), (runsR false vu lv rs), (sl vp 3 plan.length (trips plan))] := by rw [show catR rsf196 0 12 = ([(row (vs190 6) 56 3 1 [(Value.int .i64 ((((rs.getD kk run0).segs).getD ii (0, 0, 0)).1)), (Value.int .i64 (((((rs.getD kk run0).segs).getD ii (0, 0, 0)).2.1) - ((y).tmod (((((rs.getD kk run0).segs).getD ii (0, 0, 0)).2.1) + 1)))), (Value.int .i64 (((((rs.getD kk run0).segs).getD ii (0, 0, 0)).2.2) - (((y).tmod (((((rs.getD kk run0).segs).getD ii (0, 0, 0)).2.1) + 1)) + ((y).tmod ((((((rs.getD kk run0).segs).getD ii (0, 0, 0)).2.2) - ((((rs.getD kk run0).segs).getD ii (0, 0, 0)).2.1)) + 1)))))]), (row (vs190 7) 56 3 (((((rs.getD kk run0).segs).take ii) ++ [(((((rs.getD kk run0).segs).getD ii (0, 0, 0)).1, ((((rs.getD kk run0).segs).getD ii (0, 0, 0)).2.1) - ((y).tmod (((((rs.getD kk run0).segs).getD ii (0, 0, 0)).2.1) + 1)), ((((rs.getD kk run0).segs).getD ii (0, 0, 0)).2.2) - (((y).tmod (((((rs.getD kk run0).segs).getD ii (0, 0, 0)).2.1) + 1)) + ((y).tmod ((((((rs.getD kk run0).segs).getD ii (0, 0, 0)).2.2) - ((((rs.getD kk run0).segs).getD ii (0, 0, 0)).2.1)) + 1)))) : Seg)]).length) (trips ((((rs.getD kk run0).segs).take ii) ++ [(((((rs.getD kk run0).segs).getD ii (0, 0, 0)).1, ((((rs.getD kk run0).segs).getD ii (0, 0, 0)).2.1) - ((y).tmod (((((rs.getD kk run0).segs).getD ii (0, 0, 0)).2.1) + 1)), ((((rs.getD kk run0).segs).getD ii (0, 0, 0)).2.2) - (((y).tmod (((((rs.getD kk run0).segs).getD ii (0, 0, 0)).2.1) + 1)) + ((y).tmod ((((((rs.getD kk run0).segs).getD ii (0, 0, 0)).2.2) - ((((rs.getD kk run0).segs).getD ii (0, 0, 0)).2.1)) + 1)))) : Seg)])))] : List Res) by (try simp only [catR, hr_1, hr_2, hr_3, hr_5, hr_6, hr_7, hr_8, hr_9, hr_10, hr_11, hrq_0, hrq_4]); (try rfl)] at hS194; exact hS194
   have hA198 : Fr 241 [] [(129, (vs190 7)), (19, (bptr b19_ 0)), (16, (Value.int .i64 (ii : Int))), (17, (bptr b93 0)), (15, (lv.getD kk nilS)), (14, (Value.int .i64 (kk : Int))), (13, v44), (6, (bptr b4 0)), (1, vu), (2, vp)] a191 := hA193.add (slot_ev hs_7 rfl); clear hA193
   rw [hv_11] at hs_11
   have hA199 : Fr 241 [] [(133, (slcut (lv.getD kk nilS) (ii + 1) ((rs.getD kk run0).segs.length) 3)), (129, (vs190 7)), (19, (bptr b19_ 0)), (16, (Value.int .i64 (ii : Int))), (17, (bptr b93 0)), (15, (lv.getD kk nilS)), (14, (Value.int .i64 (kk : Int))), (13, v44), (6, (bptr b4 0)), (1, vu), (2, vp)] a191 := hA198.add (slot_ev hs_11 rfl); clear hA198
   clear hH195 hS194 hs_1 hs_2 hs_3 hs_5 hs_6 hs_7 hs_8 hs_9 hs_10 hs_11 hrq hrq_0 hrq_4
   clear hr_1
   clear hv_1
   clear hr_2
   clear hv_2
   clear hr_3
   clear hv_3
   clear hr_5
   clear hv_5
   clear hr_6
   clear hv_6
   clear hr_7
   clear hv_7
   clear hr_8
   clear hv_8
   clear hr_9
   clear hv_9
   clear hr_10
   clear hv_10
   clear hr_11
   clear hv_11
   refine stw hA199 (op_append hS197 rfl un_51 el_56 (hA199.ev rfl) (hA199.ev rfl) (i := 1) rfl (SlAt.say (n' := (((rs.getD kk run0).segs).drop (ii + 1)).length) (cs' := (trips (((rs.getD kk run0).segs).drop (ii + 1)))) (SlAt.cut ((runs_at (hS197.ok 8 _ rfl)).segs kk (by omega)) (by omega) (Nat.le_refl _)) (by simp only [List.length_drop]) (trips_cutLo _ _)) (trips_one _) (by simp only [maxLen, replAt, List.length_take, List.length_drop, List.length_append, List.length_cons, List.length_nil]; omega) (by first | omega | (simp only [maxLen, replAt, List.length_take, List.length_drop, List.length_append, List.length_cons, List.length_nil]; omega))) rfl rfl (by decide) ?_
   intro a200 v203 w202 hS204 hA201
   have hS205 := hS204.row_say (i := 1) rfl (n' := (((((rs.getD kk run0).segs).take ii) ++ [(((((rs.getD kk run0).segs).getD ii (0, 0, 0)).1, ((((rs.getD kk run0).segs).getD ii (0, 0, 0)).2.1) - ((y).tmod (((((rs.getD kk run0).segs).getD ii (0, 0, 0)).2.1) + 1)), ((((rs.getD kk run0).segs).getD ii (0, 0, 0)).2.2) - (((y).tmod (((((rs.getD kk run0).segs).getD ii (0, 0, 0)).2.1) + 1)) + ((y).tmod ((((((rs.getD kk run0).segs).getD ii (0, 0, 0)).2.2) - ((((rs.getD kk run0).segs).getD ii (0, 0, 0)).2.1)) + 1)))) : Seg)]) ++ (((rs.getD kk run0).segs).drop (ii + 1))).length) (xs' := (trips (((((rs.getD kk run0).segs).take ii) ++ [(((((rs.getD kk run0).segs).getD ii (0, 0, 0)).1, ((((rs.getD kk run0).segs).getD ii (0, 0, 0)).2.1) - ((y).tmod (((((rs.getD kk run0).segs).getD ii (0, 0, 0)).2.1) + 1)), ((((rs.getD kk run0).segs).getD ii (0, 0, 0)).2.2) - (((y).tmod (((((rs.getD kk run0).segs).getD ii (0, 0, 0)).2.1) + 1)) + ((y).tmod ((((((rs.getD kk run0).segs).getD ii (0, 0, 0)).2.2) - ((((rs.getD kk run0).segs).getD ii (0, 0, 0)).2.1)) + 1)))) : Seg)]) ++ (((rs.getD kk run0).segs).drop (ii + 1))))) (by first | exact List.length_append.symm | simp) (by first | exact (trips_append _ _).symm | simp [trips]); clear hS204 hA199 hS197 a191
   refine st hA201 (op_assign rfl (hA201.ev rfl)) rfl rfl (by decide) fun a206 hA207 => ?_; clear hA201 a200
   refine wl_nil ?_
   refine then_n ?_
   refine c_seq ?_
   have hS208 := hS205.row_say (i := 1) rfl (n' := (replAt (rs.getD kk run0).segs ii (((rs.getD kk run0).segs.getD ii (0, 0, 0)).1, ((rs.getD kk run0).segs.getD ii (0, 0, 0)).2.1 - (y.tmod (((rs.getD kk run0).segs.getD ii (0, 0, 0)).2.1 + 1)), ((rs.getD kk run0).segs.getD ii (0, 0, 0)).2.2 - (y.tmod (((rs.getD kk run0).segs.getD ii (0, 0, 0)).2.1 + 1) + y.tmod (((rs.getD kk run0).segs.getD ii (0, 0, 0)).2.2 - ((rs.getD kk run0).segs.getD ii (0, 0, 0)).2.1 + 1)))).length) (xs' := (trips (replAt (rs.getD kk run0).segs ii (((rs.getD kk run0).segs.getD ii (0, 0, 0)).1, ((rs.getD kk run0).segs.getD ii (0, 0, 0)).2.1 - (y.tmod (((rs.getD kk run0).segs.getD ii (0, 0, 0)).2.1 + 1)), ((rs.getD kk run0).segs.getD ii (0, 0, 0)).2.2 - (y.tmod (((rs.getD kk run0).segs.getD ii (0, 0, 0)).2.1 + 1) + y.tmod (((rs.getD kk run0).segs.getD ii (0, 0, 0)).2.2 - ((rs.getD kk run0).segs.getD ii (0, 0, 0)).2.1 + 1)))))) rfl rfl; clear hS205
   have hrl_ := repl_len (l := (rs.getD kk run0).segs) (s := (((rs.getD kk run0).segs.getD ii (0, 0, 0)).1, ((rs.getD kk run0).segs.getD ii (0, 0, 0)).2.1 - (y.tmod (((rs.getD kk run0).segs.getD ii (0, 0, 0)).2.1 + 1)), ((rs.getD kk run0).segs.getD ii (0, 0, 0)).2.2 - (y.tmod (((rs.getD kk run0).segs.getD ii (0, 0, 0)).2.1 + 1) + y.tmod (((rs.getD kk run0).segs.getD ii (0, 0, 0)).2.2 - ((rs.getD kk run0).segs.getD ii (0, 0, 0)).2.1 + 1)))) hb_ii
   have hA209 := hA207.as [(15, v203), (16, (Value.int .i64 (ii : Int))), (17, (bptr b93 0)), (14, (Value.int .i64 (kk : Int))), (13, v44), (6, (bptr b4 0)), (1, vu), (2, vp)] rfl; clear hA207
   refine c_drawCC mixed hA209 hS208 14 [(6, 2), (9, 6), (13, 9)] [[], [], [], [], [], [3, 4], [2, 5], [], [7], [6, 8], [], [], [10, 11], [9, 12]] [(fun (vs210 : Nat → Value) (v_ : Value) (rs_ : List Res) => v_ = v44 ∧ rs_ = []), (fun (vs210 : Nat → Value) (v_ : Value) (rs_ : List Res) => v_ = (Value.int .i64 (kk : Int)) ∧ rs_ = []), (fun (vs210 : Nat → Value) (v_ : Value) (rs_ : List Res) => ∃ (b2_ : Nat), v_ = (Value.slice (some ⟨b2_, 0, none⟩) 0 0) ∧ rs_ = [(blk b2_ 56 [])]), (fun (vs210 : Nat → Value) (v_ : Value) (rs_ : List Res) => v_ = v203 ∧ rs_ = []), (fun (vs210 : Nat → Value) (v_ : Value) (rs_ : List Res) => v_ = (Value.int .i64 (ii : Int)) ∧ rs_ = []), (fun (vs210 : Nat → Value) (v_ : Value) (rs_ : List Res) => v_ = (slcut v203 0 ii 3) ∧ rs_ = []), (fun (vs210 : Nat → Value) (v_ : Value) (rs_ : List Res) => True ∧ rs_ = [(row v_ 56 3 (((replAt (rs.getD kk run0).segs ii (((rs.getD kk run0).segs.getD ii (0, 0, 0)).1, ((rs.getD kk run0).segs.getD ii (0, 0, 0)).2.1 - (y.tmod (((rs.getD kk run0).segs.getD ii (0, 0, 0)).2.1 + 1)), ((rs.getD kk run0).segs.getD ii (0, 0, 0)).2.2 - (y.tmod (((rs.getD kk run0).segs.getD ii (0, 0, 0)).2.1 + 1) + y.tmod (((rs.getD kk run0).segs.getD ii (0, 0, 0)).2.2 - ((rs.getD kk run0).segs.getD ii (0, 0, 0)).2.1 + 1)))).take ii).length) (trips ((replAt (rs.getD kk run0).segs ii (((rs.getD kk run0).segs.getD ii (0, 0, 0)).1, ((rs.getD kk run0).segs.getD ii (0, 0, 0)).2.1 - (y.tmod (((rs.getD kk run0).segs.getD ii (0, 0, 0)).2.1 + 1)), ((rs.getD kk run0).segs.getD ii (0, 0, 0)).2.2 - (y.tmod (((rs.getD kk run0).segs.getD ii (0, 0, 0)).2.1 + 1) + y.tmod (((rs.getD kk run0).segs.getD ii (0, 0, 0)).2.2 - ((rs.getD kk run0).segs.getD ii (0, 0, 0)).2.1 + 1)))).take ii)))]), (fun (vs210 : Nat → Value) (v_ : Value) (rs_ : List Res) => v_ = (Value.agg #[(Value.int .i64 ((((rs.getD kk run0).segs).getD ii (0, 0, 0)).1)), (Value.int .i64 ((y).tmod (((((rs.getD kk run0).segs).getD ii (0, 0, 0)).2.1) + 1))), (Value.int .i64 (((y).tmod (((((rs.getD kk run0).segs).getD ii (0, 0, 0)).2.1) + 1)) + ((y).tmod ((((((rs.getD kk run0).segs).getD ii (0, 0, 0)).2.2) - ((((rs.getD kk run0).segs).getD ii (0, 0, 0)).2.1)) + 1))))]) ∧ rs_ = []), (fun (vs210 : Nat → Value) (v_ : Value) (rs_ : List Res) => True ∧ rs_ = [(row v_ 56 3 1 [(Value.int .i64 ((((rs.getD kk run0).segs).getD ii (0, 0, 0)).1)), (Value.int .i64 ((y).tmod (((((rs.getD kk run0).segs).getD ii (0, 0, 0)).2.1) + 1))), (Value.int .i64 (((y).tmod (((((rs.getD kk run0).segs).getD ii (0, 0, 0)).2.1) + 1)) + ((y).tmod ((((((rs.getD kk run0).segs).getD ii (0, 0, 0)).2.2) - ((((rs.getD kk run0).segs).getD ii (0, 0, 0)).2.1)) + 1))))])]), (fun (vs210 : Nat → Value) (v_ : Value) (rs_ : List Res) => True ∧ rs_ = [(row v_ 56 3 ((((replAt (rs.getD kk run0).segs ii (((rs.getD kk run0).segs.getD ii (0, 0, 0)).1, ((rs.getD kk run0).segs.getD ii (0, 0, 0)).2.1 - (y.tmod (((rs.getD kk run0).segs.getD ii (0, 0, 0)).2.1 + 1)), ((rs.getD kk run0).segs.getD ii (0, 0, 0)).2.2 - (y.tmod (((rs.getD kk run0).segs.getD ii (0, 0, 0)).2.1 + 1) + y.tmod (((rs.getD kk run0).segs.getD ii (0, 0, 0)).2.2 - ((rs.getD kk run0).segs.getD ii (0, 0, 0)).2.1 + 1)))).take ii) ++ [(((((rs.getD kk run0).segs).getD ii (0, 0, 0)).1, (y).tmod (((((rs.getD kk run0).segs).getD ii (0, 0, 0)).2.1) + 1), ((y).tmod (((((rs.getD kk run0).segs).getD ii (0, 0, 0)).2.1) + 1)) + ((y).tmod ((((((rs.getD kk run0).segs).getD ii (0, 0, 0)).2.2) - ((((rs.getD kk run0).segs).getD ii (0, 0, 0)).2.1)) + 1))) : Seg)]).length) (trips (((replAt (rs.getD kk run0).segs ii (((rs.getD kk run0).segs.getD ii (0, 0, 0)).1, ((rs.getD kk run0).segs.getD ii (0, 0, 0)).2.1 - (y.tmod (((rs.getD kk run0).segs.getD ii (0, 0, 0)).2.1 + 1)), ((rs.getD kk run0).segs.getD ii (0, 0, 0)).2.2 - (y.tmod (((rs.getD kk run0).segs.getD ii (0, 0, 0)).2.1 + 1) + y.tmod (((rs.getD kk run0).segs.getD ii (0, 0, 0)).2.2 - ((rs.getD kk run0).segs.getD ii (0, 0, 0)).2.1 + 1)))).take ii) ++ [(((((rs.getD kk run0).segs).getD ii (0, 0, 0)).1, (y).tmod (((((rs.getD kk run0).segs).getD ii (0, 0, 0)).2.1) + 1), ((y).tmod (((((rs.getD kk run0).segs).getD ii (0, 0, 0)).2.1) + 1)) + ((y).tmod ((((((rs.getD kk run0).segs).getD ii (0, 0, 0)).2.2) - ((((rs.getD kk run0).segs).getD ii (0, 0, 0)).2.1)) + 1))) : Seg)])))]), (fun (vs210 : Nat → Value) (v_ : Value) (rs_ : List Res) => v_ = v203 ∧ rs_ = []), (fun (vs210 : Nat → Value) (v_ : Value) (rs_ : List Res) => v_ = (Value.int .i64 (ii : Int)) ∧ rs_ = []), (fun (vs210 : Nat → Value) (v_ : Value) (rs_ : List Res) => v_ = (slcut v203 ii ((replAt (rs.getD kk run0).segs ii (((rs.getD kk run0).segs.getD ii (0, 0, 0)).1, ((rs.getD kk run0).segs.getD ii (0, 0, 0)).2.1 - (y.tmod (((rs.getD kk run0).segs.getD ii (0, 0, 0)).2.1 + 1)), ((rs.getD kk run0).segs.getD ii (0, 0, 0)).2.2 - (y.tmod (((rs.getD kk run0).segs.getD ii (0, 0, 0)).2.1 + 1) + y.tmod (((rs.getD kk run0).segs.getD ii (0, 0, 0)).2.2 - ((rs.getD kk run0).segs.getD ii (0, 0, 0)).2.1 + 1)))).length) 3) ∧ rs_ = []), (fun (vs210 : Nat → Value) (v_ : Value) (rs_ : List Res) => True ∧ rs_ = [(row v_ 56 3 (((((replAt (rs.getD kk run0).segs ii (((rs.getD kk run0).segs.getD ii (0, 0, 0)).1, ((rs.getD kk run0).segs.getD ii (0, 0, 0)).2.1 - (y.tmod (((rs.getD kk run0).segs.getD ii (0, 0, 0)).2.1 + 1)), ((rs.getD kk run0).segs.getD ii (0, 0, 0)).2.2 - (y.tmod (((rs.getD kk run0).segs.getD ii (0, 0, 0)).2.1 + 1) + y.tmod (((rs.getD kk run0).segs.getD ii (0, 0, 0)).2.2 - ((rs.getD kk run0).segs.getD ii (0, 0, 0)).2.1 + 1)))).take ii) ++ [(((((rs.getD kk run0).segs).getD ii (0, 0, 0)).1, (y).tmod (((((rs.getD kk run0).segs).getD ii (0, 0, 0)).2.1) + 1), ((y).tmod (((((rs.getD kk run0).segs).getD ii (0, 0, 0)).2.1) + 1)) + ((y).tmod ((((((rs.getD kk run0).segs).getD ii (0, 0, 0)).2.2) - ((((rs.getD kk run0).segs).getD ii (0, 0, 0)).2.1)) + 1))) : Seg)]) ++ ((replAt (rs.getD kk run0).segs ii (((rs.getD kk run0).segs.getD ii (0, 0, 0)).1, ((rs.getD kk run0).segs.getD ii (0, 0, 0)).2.1 - (y.tmod (((rs.getD kk run0).segs.getD ii (0, 0, 0)).2.1 + 1)), ((rs.getD kk run0).segs.getD ii (0, 0, 0)).2.2 - (y.tmod (((rs.getD kk run0).segs.getD ii (0, 0, 0)).2.1 + 1) + y.tmod (((rs.getD kk run0).segs.getD ii (0, 0, 0)).2.2 - ((rs.getD kk run0).segs.getD ii (0, 0, 0)).2.1 + 1)))).drop ii)).length) (trips ((((replAt (rs.getD kk run0).segs ii (((rs.getD kk run0).segs.getD ii (0, 0, 0)).1, ((rs.getD kk run0).segs.getD ii (0, 0, 0)).2.1 - (y.tmod (((rs.getD kk run0).segs.getD ii (0, 0, 0)).2.1 + 1)), ((rs.getD kk run0).segs.getD ii (0, 0, 0)).2.2 - (y.tmod (((rs.getD kk run0).segs.getD ii (0, 0, 0)).2.1 + 1) + y.tmod (((rs.getD kk run0).segs.getD ii (0, 0, 0)).2.2 - ((rs.getD kk run0).segs.getD ii (0, 0, 0)).2.1 + 1)))).take ii) ++ [(((((rs.getD kk run0).segs).getD ii (0, 0, 0)).1, (y).tmod (((((rs.getD kk run0).segs).getD ii (0, 0, 0)).2.1) + 1), ((y).tmod (((((rs.getD kk run0).segs).getD ii (0, 0, 0)).2.1) + 1)) + ((y).tmod ((((((rs.getD kk run0).segs).getD ii (0, 0, 0)).2.2) - ((((rs.getD kk run0).segs).getD ii (0, 0, 0)).2.1)) + 1))) : Seg)]) ++ ((replAt (rs.getD kk run0).segs ii (((rs.getD kk run0).segs.getD ii (0, 0, 0)).1, ((rs.getD kk run0).segs.getD ii (0, 0, 0)).2.1 - (y.tmod (((rs.getD kk run0).segs.getD ii (0, 0, 0)).2.1 + 1)), ((rs.getD kk run0).segs.getD ii (0, 0, 0)).2.2 - (y.tmod (((rs.getD kk run0).segs.getD ii (0, 0, 0)).2.1 + 1) + y.tmod (((rs.getD kk run0).segs.getD ii (0, 0, 0)).2.2 - ((rs.getD kk run0).segs.getD ii (0, 0, 0)).2.1 + 1)))).drop ii))))])] (by decide +kernel) (by decide +kernel) (by decide +kernel) (by decide +kernel) rfl rfl ⟨(fun _ _ _ _ _ h_ => h_), (fun _ _ _ _ _ h_ => h_), (fun _ _ _ _ _ h_ => h_), (fun _ _ _ _ _ h_ => h_), (fun _ _ _ _ _ h_ => h_), (fun _ _ _ _ _ h_ => h_), (fun _ _ _ _ _ h_ => h_), (fun _ _ _ _ _ h_ => h_), (fun _ _ _ _ _ h_ => h_), (fun _ _ _ _ _ h_ => h_), (fun _ _ _ _ _ h_ => h_), (fun _ _ _ _ _ h_ => h_), (fun _ _ _ _ _ h_ => h_), (fun _ _ _ _ _ h_ => h_), trivial⟩ (by decide +kernel) ?_ ?_ ?_
   ·skip
    refine ⟨fun hj_ a w vs210 hA hS hd => ?_, ?_⟩
    ·skip
     exact opG_of rfl (vv (op_move rfl (hA.ev rfl)) (And.intro rfl rfl))
    refine ⟨fun hj_ a w vs210 hA hS hd => ?_, ?_⟩
    ·skip
     exact opG_of rfl (vv (op_move rfl (hA.ev rfl)) (And.intro rfl rfl))
    refine ⟨fun hj_ a w vs210 hA hS hd => ?_, ?_⟩
    ·skip
     exact opG_of rfl (vblz rfl pv0 un_51 ty_56 ze_56 bs_56_0_ (fun b_ => ⟨b_, rfl, rfl⟩))
    refine ⟨fun hj_ a w vs210 hA hS hd => ?_, ?_⟩
    ·skip
     exact opG_of rfl (vv (op_move rfl (hA.ev rfl)) (And.intro rfl rfl))
    refine ⟨fun hj_ a w vs210 hA hS hd => ?_, ?_⟩
    ·skip
     exact opG_of rfl (vv (op_move rfl (hA.ev rfl)) (And.intro rfl rfl))
    refine ⟨fun hj_ a w vs210 hA hS hd => ?_, ?_⟩
    ·skip
     obtain ⟨e3, rs3, hy3, hp3⟩ := hd 3 (by decide)
     obtain ⟨hv3, hr3⟩ := hy3; subst hr3
     rw [hv3] at e3
     obtain ⟨e4, rs4, hy4, hp4⟩ := hd 4 (by decide)
     obtain ⟨hv4, hr4⟩ := hy4; subst hr4
     rw [hv4] at e4
     exact opG_of rfl (vv (op_sliceHi rfl un_51 ty_56 (tmp_ev (slot_ev e3 rfl)) (h := ii) (tmp_ev (slot_ev e4 rfl)) (SlAt.of_row (hS.ok_row 1 rfl)) (by omega)) (And.intro rfl rfl))
    refine ⟨fun hj_ => absurd hj_ (by decide), ?_⟩
    refine ⟨fun hj_ a w vs210 hA hS hd => ?_, ?_⟩
    ·skip
     exact opG_of rfl (vv (op_loadA rfl ty_56 (hA.ev rfl) (hS.bk 4 rfl) (l := [(Value.int .i64 ((((rs.getD kk run0).segs).getD ii (0, 0, 0)).1)), (Value.int .i64 ((y).tmod (((((rs.getD kk run0).segs).getD ii (0, 0, 0)).2.1) + 1))), (Value.int .i64 (((y).tmod (((((rs.getD kk run0).segs).getD ii (0, 0, 0)).2.1) + 1)) + ((y).tmod ((((((rs.getD kk run0).segs).getD ii (0, 0, 0)).2.2) - ((((rs.getD kk run0).segs).getD ii (0, 0, 0)).2.1)) + 1))))]) rfl rfl) (And.intro rfl rfl))
    refine ⟨fun hj_ a w vs210 hA hS hd => ?_, ?_⟩
    ·skip
     obtain ⟨e7, rs7, hy7, hp7⟩ := hd 7 (by decide)
     obtain ⟨hv7, hr7⟩ := hy7; subst hr7
     rw [hv7] at e7
     exact opG_of rfl (vblt rfl (pv1 (tmp_ev (slot_ev e7 rfl))) un_51 ty_56 ze_56 (by decide) (cs := [(Value.int .i64 ((((rs.getD kk run0).segs).getD ii (0, 0, 0)).1)), (Value.int .i64 ((y).tmod (((((rs.getD kk run0).segs).getD ii (0, 0, 0)).2.1) + 1))), (Value.int .i64 (((y).tmod (((((rs.getD kk run0).segs).getD ii (0, 0, 0)).2.1) + 1)) + ((y).tmod ((((((rs.getD kk run0).segs).getD ii (0, 0, 0)).2.2) - ((((rs.getD kk run0).segs).getD ii (0, 0, 0)).2.1)) + 1))))]) (bs_56_1_0iiia _ _ _) rfl (by decide) (fun _ => And.intro trivial rfl))
    refine ⟨fun hj_ => absurd hj_ (by decide), ?_⟩
    refine ⟨fun hj_ a w vs210 hA hS hd => ?_, ?_⟩
    ·skip
     exact opG_of rfl (vv (op_move rfl (hA.ev rfl)) (And.intro rfl rfl))
    refine ⟨fun hj_ a w vs210 hA hS hd => ?_, ?_⟩
    ·skip
     exact opG_of rfl (vv (op_move rfl (hA.ev rfl)) (And.intro rfl rfl))
    refine ⟨fun hj_ a w vs210 hA hS hd => ?_, ?_⟩
    ·skip
     obtain ⟨e10, rs10, hy10, hp10⟩ := hd 10 (by decide)
     obtain ⟨hv10, hr10⟩ := hy10; subst hr10
     rw [hv10] at e10
     obtain ⟨e11, rs11, hy11, hp11⟩ := hd 11 (by decide)
     obtain ⟨hv11, hr11⟩ := hy11; subst hr11
     rw [hv11] at e11
     exact opG_of rfl (vv (op_sliceLo rfl un_51 ty_56 (tmp_ev (slot_ev e10 rfl)) (l := ii) (tmp_ev (slot_ev e11 rfl)) (SlAt.of_row (hS.ok_row 1 rfl)) (by omega)) (And.intro rfl rfl))
    refine ⟨fun hj_ => absurd hj_ (by decide), ?_⟩
    trivial
   ·skip
    refine ⟨fun o_ ho_ => ?_, ?_⟩
    ·skip
     obtain rfl := Option.some.inj ho_; clear ho_
     intro a w vs210 rs0 Lr hA hs0 hy0 hd hL hS
     obtain ⟨b2_, hv2, hr2⟩ := hy0; subst hr2
     rw [hv2] at hs0
     replace hS := hS.blk_row (i := 0) (sz := 3) (n := 0) rfl rfl (by decide)
     obtain ⟨e5, rs5, hy5, hp5⟩ := hd 5 (by decide) (by decide)
     obtain ⟨hv5, hr5⟩ := hy5; subst hr5
     rw [hv5] at e5
     exact opG_of rfl (opY_mono (op_append hS rfl un_51 el_56 (tmp_ev (slot_ev hs0 rfl)) (tmp_ev (slot_ev e5 rfl)) (i := 0) rfl (SlAt.say (n' := ((replAt (rs.getD kk run0).segs ii (((rs.getD kk run0).segs.getD ii (0, 0, 0)).1, ((rs.getD kk run0).segs.getD ii (0, 0, 0)).2.1 - (y.tmod (((rs.getD kk run0).segs.getD ii (0, 0, 0)).2.1 + 1)), ((rs.getD kk run0).segs.getD ii (0, 0, 0)).2.2 - (y.tmod (((rs.getD kk run0).segs.getD ii (0, 0, 0)).2.1 + 1) + y.tmod (((rs.getD kk run0).segs.getD ii (0, 0, 0)).2.2 - ((rs.getD kk run0).segs.getD ii (0, 0, 0)).2.1 + 1)))).take ii).length) (cs' := (trips ((replAt (rs.getD kk run0).segs ii (((rs.getD kk run0).segs.getD ii (0, 0, 0)).1, ((rs.getD kk run0).segs.getD ii (0, 0, 0)).2.1 - (y.tmod (((rs.getD kk run0).segs.getD ii (0, 0, 0)).2.1 + 1)), ((rs.getD kk run0).segs.getD ii (0, 0, 0)).2.2 - (y.tmod (((rs.getD kk run0).segs.getD ii (0, 0, 0)).2.1 + 1) + y.tmod (((rs.getD kk run0).segs.getD ii (0, 0, 0)).2.2 - ((rs.getD kk run0).segs.getD ii (0, 0, 0)).2.1 + 1)))).take ii))) (SlAt.cut (SlAt.of_row (hL.ok_row 1 rfl)) (Nat.zero_le _) (by omega)) (by simp only [List.length_take]; omega) (trips_cutHi _ _)) (trips_one _) (by simp only [maxLen, replAt, List.length_take, List.length_drop, List.length_append, List.length_cons, List.length_nil]; omega) (by first | omega | (simp only [maxLen, replAt, List.length_take, List.length_drop, List.length_append, List.length_cons, List.length_nil]; omega))) fun v_ w_ h_ => ⟨_, And.intro trivial rfl, h_.row_say (i := 0) rfl (n' := ((replAt (rs.getD kk run0).segs ii (((rs.getD kk run0).segs.getD ii (0, 0, 0)).1, ((rs.getD kk run0).segs.getD ii (0, 0, 0)).2.1 - (y.tmod (((rs.getD kk run0).segs.getD ii (0, 0, 0)).2.1 + 1)), ((rs.getD kk run0).segs.getD ii (0, 0, 0)).2.2 - (y.tmod (((rs.getD kk run0).segs.getD ii (0, 0, 0)).2.1 + 1) + y.tmod (((rs.getD kk run0).segs.getD ii (0, 0, 0)).2.2 - ((rs.getD kk run0).segs.getD ii (0, 0, 0)).2.1 + 1)))).take ii).length) (xs' := (trips ((replAt (rs.getD kk run0).segs ii (((rs.getD kk run0).segs.getD ii (0, 0, 0)).1, ((rs.getD kk run0).segs.getD ii (0, 0, 0)).2.1 - (y.tmod (((rs.getD kk run0).segs.getD ii (0, 0, 0)).2.1 + 1)), ((rs.getD kk run0).segs.getD ii (0, 0, 0)).2.2 - (y.tmod (((rs.getD kk run0).segs.getD ii (0, 0, 0)).2.1 + 1) + y.tmod (((rs.getD kk run0).segs.getD ii (0, 0, 0)).2.2 - ((rs.getD kk run0).segs.getD ii (0, 0, 0)).2.1 + 1)))).take ii))) (by simp) (by simp)⟩)
    refine ⟨fun o_ ho_ => ?_, ?_⟩
    ·skip
     obtain rfl := Option.some.inj ho_; clear ho_
     intro a w vs210 rs0 Lr hA hs0 hy0 hd hL hS
     obtain ⟨hv6, hr6⟩ := hy0; subst hr6
     obtain ⟨e8, rs8, hy8, hp8⟩ := hd 8 (by decide) (by decide)
     obtain ⟨hv8, hr8⟩ := hy8; subst hr8
     have hp8_0 := hp8 _ (List.mem_of_getElem? (i := 0) rfl)
     exact opG_of rfl (opY_mono (op_append hS rfl un_51 el_56 (tmp_ev (slot_ev hs0 rfl)) (tmp_ev (slot_ev e8 rfl)) (i := 0) rfl (SlAt.of_row hp8_0) rfl (by simp only [maxLen, replAt, List.length_take, List.length_drop, List.length_append, List.length_cons, List.length_nil]; omega) (by first | omega | (simp only [maxLen, replAt, List.length_take, List.length_drop, List.length_append, List.length_cons, List.length_nil]; omega))) fun v_ w_ h_ => ⟨_, And.intro trivial rfl, h_.row_say (i := 0) rfl (n' := (((replAt (rs.getD kk run0).segs ii (((rs.getD kk run0).segs.getD ii (0, 0, 0)).1, ((rs.getD kk run0).segs.getD ii (0, 0, 0)).2.1 - (y.tmod (((rs.getD kk run0).segs.getD ii (0, 0, 0)).2.1 + 1)), ((rs.getD kk run0).segs.getD ii (0, 0, 0)).2.2 - (y.tmod (((rs.getD kk run0).segs.getD ii (0, 0, 0)).2.1 + 1) + y.tmod (((rs.getD kk run0).segs.getD ii (0, 0, 0)).2.2 - ((rs.getD kk run0).segs.getD ii (0, 0, 0)).2.1 + 1)))).take ii) ++ [(((((rs.getD kk run0).segs).getD ii (0, 0, 0)).1, (y).tmod (((((rs.getD kk run0).segs).getD ii (0, 0, 0)).2.1) + 1), ((y).tmod (((((rs.getD kk run0).segs).getD ii (0, 0, 0)).2.1) + 1)) + ((y).tmod ((((((rs.getD kk run0).segs).getD ii (0, 0, 0)).2.2) - ((((rs.getD kk run0).segs).getD ii (0, 0, 0)).2.1)) + 1))) : Seg)]).length) (xs' := (trips (((replAt (rs.getD kk run0).segs ii (((rs.getD kk run0).segs.getD ii (0, 0, 0)).1, ((rs.getD kk run0).segs.getD ii (0, 0, 0)).2.1 - (y.tmod (((rs.getD kk run0).segs.getD ii (0, 0, 0)).2.1 + 1)), ((rs.getD kk run0).segs.getD ii (0, 0, 0)).2.2 - (y.tmod (((rs.getD kk run0).segs.getD ii (0, 0, 0)).2.1 + 1) + y.tmod (((rs.getD kk run0).segs.getD ii (0, 0, 0)).2.2 - ((rs.getD kk run0).segs.getD ii (0, 0, 0)).2.1 + 1)))).take ii) ++ [(((((rs.getD kk run0).segs).getD ii (0, 0, 0)).1, (y).tmod (((((rs.getD kk run0).segs).getD ii (0, 0, 0)).2.1) + 1), ((y).tmod (((((rs.getD kk run0).segs).getD ii (0, 0, 0)).2.1) + 1)) + ((y).tmod ((((((rs.getD kk run0).segs).getD ii (0, 0, 0)).2.2) - ((((rs.getD kk run0).segs).getD ii (0, 0, 0)).2.1)) + 1))) : Seg)]))) (by first | exact List.length_append.symm | simp) (by first | exact (trips_append _ _).symm | simp [trips])⟩)
    refine ⟨fun o_ ho_ => ?_, ?_⟩
    ·skip
     obtain rfl := Option.some.inj ho_; clear ho_
     intro a w vs210 rs0 Lr hA hs0 hy0 hd hL hS
     obtain ⟨hv9, hr9⟩ := hy0; subst hr9
     obtain ⟨e12, rs12, hy12, hp12⟩ := hd 12 (by decide) (by decide)
     obtain ⟨hv12, hr12⟩ := hy12; subst hr12
     rw [hv12] at e12
     exact opG_of rfl (opY_mono (op_append hS rfl un_51 el_56 (tmp_ev (slot_ev hs0 rfl)) (tmp_ev (slot_ev e12 rfl)) (i := 0) rfl (SlAt.say (n' := ((replAt (rs.getD kk run0).segs ii (((rs.getD kk run0).segs.getD ii (0, 0, 0)).1, ((rs.getD kk run0).segs.getD ii (0, 0, 0)).2.1 - (y.tmod (((rs.getD kk run0).segs.getD ii (0, 0, 0)).2.1 + 1)), ((rs.getD kk run0).segs.getD ii (0, 0, 0)).2.2 - (y.tmod (((rs.getD kk run0).segs.getD ii (0, 0, 0)).2.1 + 1) + y.tmod (((rs.getD kk run0).segs.getD ii (0, 0, 0)).2.2 - ((rs.getD kk run0).segs.getD ii (0, 0, 0)).2.1 + 1)))).drop ii).length) (cs' := (trips ((replAt (rs.getD kk run0).segs ii (((rs.getD kk run0).segs.getD ii (0, 0, 0)).1, ((rs.getD kk run0).segs.getD ii (0, 0, 0)).2.1 - (y.tmod (((rs.getD kk run0).segs.getD ii (0, 0, 0)).2.1 + 1)), ((rs.getD kk run0).segs.getD ii (0, 0, 0)).2.2 - (y.tmod (((rs.getD kk run0).segs.getD ii (0, 0, 0)).2.1 + 1) + y.tmod (((rs.getD kk run0).segs.getD ii (0, 0, 0)).2.2 - ((rs.getD kk run0).segs.getD ii (0, 0, 0)).2.1 + 1)))).drop ii))) (SlAt.cut (SlAt.of_row (hL.ok_row 1 rfl)) (by omega) (Nat.le_refl _)) (by simp only [List.length_drop]) (trips_cutLo _ _)) (trips_one _) (by simp only [maxLen, replAt, List.length_take, List.length_drop, List.length_append, List.length_cons, List.length_nil]; omega) (by first | omega | (simp only [maxLen, replAt, List.length_take, List.length_drop, List.length_append, List.length_cons, List.length_nil]; omega))) fun v_ w_ h_ => ⟨_, And.intro trivial rfl, h_.row_say (i := 0) rfl (n' := ((((replAt (rs.getD kk run0).segs ii (((rs.getD kk run0).segs.getD ii (0, 0, 0)).1, ((rs.getD kk run0).segs.getD ii (0, 0, 0)).2.1 - (y.tmod (((rs.getD kk run0).segs.getD ii (0, 0, 0)).2.1 + 1)), ((rs.getD kk run0).segs.getD ii (0, 0, 0)).2.2 - (y.tmod (((rs.getD kk run0).segs.getD ii (0, 0, 0)).2.1 + 1) + y.tmod (((rs.getD kk run0).segs.getD ii (0, 0, 0)).2.2 - ((rs.getD kk run0).segs.getD ii (0, 0, 0)).2.1 + 1)))).take ii) ++ [(((((rs.getD kk run0).segs).getD ii (0, 0, 0)).1, (y).tmod (((((rs.getD kk run0).segs).getD ii (0, 0, 0)).2.1) + 1), ((y).tmod (((((rs.getD kk run0).segs).getD ii (0, 0, 0)).2.1) + 1)) + ((y).tmod ((((((rs.getD kk run0).segs).getD ii (0, 0, 0)).2.2) - ((((rs.getD kk run0).segs).getD ii (0, 0, 0)).2.1)) + 1))) : Seg)]) ++ ((replAt (rs.getD kk run0).segs ii (((rs.getD kk run0).segs.getD ii (0, 0, 0)).1, ((rs.getD kk run0).segs.getD ii (0, 0, 0)).2.1 - (y.tmod (((rs.getD kk run0).segs.getD ii (0, 0, 0)).2.1 + 1)), ((rs.getD kk run0).segs.getD ii (0, 0, 0)).2.2 - (y.tmod (((rs.getD kk run0).segs.getD ii (0, 0, 0)).2.1 + 1) + y.tmod (((rs.getD kk run0).segs.getD ii (0, 0, 0)).2.2 - ((rs.getD kk run0).segs.getD ii (0, 0, 0)).2.1 + 1)))).drop ii)).length) (xs' := (trips ((((replAt (rs.getD kk run0).segs ii (((rs.getD kk run0).segs.getD ii (0, 0, 0)).1, ((rs.getD kk run0).segs.getD ii (0, 0, 0)).2.1 - (y.tmod (((rs.getD kk run0).segs.getD ii (0, 0, 0)).2.1 + 1)), ((rs.getD kk run0).segs.getD ii (0, 0, 0)).2.2 - (y.tmod (((rs.getD kk run0).segs.getD ii (0, 0, 0)).2.1 + 1) + y.tmod (((rs.getD kk run0).segs.getD ii (0, 0, 0)).2.2 - ((rs.getD kk run0).segs.getD ii (0, 0, 0)).2.1 + 1)))).take ii) ++ [(((((rs.getD kk run0).segs).getD ii (0, 0, 0)).1, (y).tmod (((((rs.getD kk run0).segs).getD ii (0, 0, 0)).2.1) + 1), ((y).tmod (((((rs.getD kk run0).segs).getD ii (0, 0, 0)).2.1) + 1)) + ((y).tmod ((((((rs.getD kk run0).segs).getD ii (0, 0, 0)).2.2) - ((((rs.getD kk run0).segs).getD ii (0, 0, 0)).2.1)) + 1))) : Seg)]) ++ ((replAt (rs.getD kk run0).segs ii (((rs.getD kk run0).segs.getD ii (0, 0, 0)).1, ((rs.getD kk run0).segs.getD ii (0, 0, 0)).2.1 - (y.tmod (((rs.getD kk run0).segs.getD ii (0, 0, 0)).2.1 + 1)), ((rs.getD kk run0).segs.getD ii (0, 0, 0)).2.2 - (y.tmod (((rs.getD kk run0).segs.getD ii (0, 0, 0)).2.1 + 1) + y.tmod (((rs.getD kk run0).segs.getD ii (0, 0, 0)).2.2 - ((rs.getD kk run0).segs.getD ii (0, 0, 0)).2.1 + 1)))).drop ii)))) (by first | exact List.length_append.symm | simp) (by first | exact (trips_append _ _).symm | simp [trips])⟩)
    trivial
   ·skip
    intro a211 w212 vs210 rsf216 hA213 hH215 hrq hS214; clear hA209 hS208
    have hrq_2 := hrq (6, 2) (by decide)
    have hrq_6 := hrq (9, 6) (by decide)
    have hrq_9 := hrq (13, 9) (by decide)
    obtain ⟨hs_0, hy_0⟩ := hH215 0 (by decide) (by decide)
    obtain ⟨hv_0, hr_0⟩ := hy_0
    obtain ⟨hs_1, hy_1⟩ := hH215 1 (by decide) (by decide)
    obtain ⟨hv_1, hr_1⟩ := hy_1
    obtain ⟨hs_3, hy_3⟩ := hH215 3 (by decide) (by decide)
    obtain ⟨hv_3, hr_3⟩ := hy_3
    obtain ⟨hs_4, hy_4⟩ := hH215 4 (by decide) (by decide)
    obtain ⟨hv_4, hr_4⟩ := hy_4
    obtain ⟨hs_5, hy_5⟩ := hH215 5 (by decide) (by decide)
    obtain ⟨hv_5, hr_5⟩ := hy_5
    obtain ⟨hs_7, hy_7⟩ := hH215 7 (by decide) (by decide)
    obtain ⟨hv_7, hr_7⟩ := hy_7
    obtain ⟨hs_8, hy_8⟩ := hH215 8 (by decide) (by decide)
    obtain ⟨hv_8, hr_8⟩ := hy_8
    obtain ⟨hs_10, hy_10⟩ := hH215 10 (by decide) (by decide)
    obtain ⟨hv_10, hr_10⟩ := hy_10
    obtain ⟨hs_11, hy_11⟩ := hH215 11 (by decide) (by decide)
    obtain ⟨hv_11, hr_11⟩ := hy_11
    obtain ⟨hs_12, hy_12⟩ := hH215 12 (by decide) (by decide)
    obtain ⟨hv_12, hr_12⟩ := hy_12
    obtain ⟨hs_13, hy_13⟩ := hH215 13 (by decide) (by decide)
    obtain ⟨hv_13, hr_13⟩ := hy_13
    have hS217 : Sep NoB w w212 [(row (vs210 8) 56 3 1 [(Value.int .i64 ((((rs.getD kk run0).segs).getD ii (0, 0, 0)).1)), (Value.int .i64 ((y).tmod (((((rs.getD kk run0).segs).getD ii (0, 0, 0)).2.1) + 1))), (Value.int .i64 (((y).tmod (((((rs.getD kk run0).segs).getD ii (0, 0, 0)).2.1) + 1)) + ((y).tmod ((((((rs.getD kk run0).segs).getD ii (0, 0, 0)).2.2) - ((((rs.getD kk run0).segs).getD ii (0, 0, 0)).2.1)) + 1))))]), (row (vs210 13) 56 3 (((((replAt (rs.getD kk run0).segs ii (((rs.getD kk run0).segs.getD ii (0, 0, 0)).1, ((rs.getD kk run0).segs.getD ii (0, 0, 0)).2.1 - (y.tmod (((rs.getD kk run0).segs.getD ii (0, 0, 0)).2.1 + 1)), ((rs.getD kk run0).segs.getD ii (0, 0, 0)).2.2 - (y.tmod (((rs.getD kk run0).segs.getD ii (0, 0, 0)).2.1 + 1) + y.tmod (((rs.getD kk run0).segs.getD ii (0, 0, 0)).2.2 - ((rs.getD kk run0).segs.getD ii (0, 0, 0)).2.1 + 1)))).take ii) ++ [(((((rs.getD kk run0).segs).getD ii (0, 0, 0)).1, (y).tmod (((((rs.getD kk run0).segs).getD ii (0, 0, 0)).2.1) + 1), ((y).tmod (((((rs.getD kk run0).segs).getD ii (0, 0, 0)).2.1) + 1)) + ((y).tmod ((((((rs.getD kk run0).segs).getD ii (0, 0, 0)).2.2) - ((((rs.getD kk run0).segs).getD ii (0, 0, 0)).2.1)) + 1))) : Seg)]) ++ ((replAt (rs.getD kk run0).segs ii (((rs.getD kk run0).segs.getD ii (0, 0, 0)).1, ((rs.getD kk run0).segs.getD ii (0, 0, 0)).2.1 - (y.tmod (((rs.getD kk run0).segs.getD ii (0, 0, 0)).2.1 + 1)), ((rs.getD kk run0).segs.getD ii (0, 0, 0)).2.2 - (y.tmod (((rs.getD kk run0).segs.getD ii (0, 0, 0)).2.1 + 1) + y.tmod (((rs.getD kk run0).segs.getD ii (0, 0, 0)).2.2 - ((rs.getD kk run0).segs.getD ii (0, 0, 0)).2.1 + 1)))).drop ii)).length) (trips ((((replAt (rs.getD kk run0).segs ii (((rs.getD kk run0).segs.getD ii (0, 0, 0)).1, ((rs.getD kk run0).segs.getD ii (0, 0, 0)).2.1 - (y.tmod (((rs.getD kk run0).segs.getD ii (0, 0, 0)).2.1 + 1)), ((rs.getD kk run0).segs.getD ii (0, 0, 0)).2.2 - (y.tmod (((rs.getD kk run0).segs.getD ii (0, 0, 0)).2.1 + 1) + y.tmod (((rs.getD kk run0).segs.getD ii (0, 0, 0)).2.2 - ((rs.getD kk run0).segs.getD ii (0, 0, 0)).2.1 + 1)))).take ii) ++ [(((((rs.getD kk run0).segs).getD ii (0, 0, 0)).1, (y).tmod (((((rs.getD kk run0).segs).getD ii (0, 0, 0)).2.1) + 1), ((y).tmod (((((rs.getD kk run0).segs).getD ii (0, 0, 0)).2.1) + 1)) + ((y).tmod ((((((rs.getD kk run0).segs).getD ii (0, 0, 0)).2.2) - ((((rs.getD kk run0).segs).getD ii (0, 0, 0)).2.1)) + 1))) : Seg)]) ++ ((replAt (rs.getD kk run0).segs ii (((rs.getD kk run0).segs.getD ii (0, 0, 0)).1, ((rs.getD kk run0).segs.getD ii (0, 0, 0)).2.1 - (y.tmod (((rs.getD kk run0).segs.getD ii (0, 0, 0)).2.1 + 1)), ((rs.getD kk run0).segs.getD ii (0, 0, 0)).2.2 - (y.tmod (((rs.getD kk run0).segs.getD ii (0, 0, 0)).2.1 + 1) + y.tmod (((rs.getD kk run0).segs.getD ii (0, 0, 0)).2.2 - ((rs.getD kk run0).segs.getD ii (0, 0, 0)).2.1 + 1)))).drop ii)))), (row (vs190 6) 56 3 1 [(Value.int .i64 ((((rs.getD kk run0).segs).getD ii (0, 0, 0)).1)), (Value.int .i64 (((((rs.getD kk run0).segs).getD ii (0, 0, 0)).2.1) - ((y).tmod (((((rs.getD kk run0).segs).getD ii (0, 0, 0)).2.1) + 1)))), (Value.int .i64 (((((rs.getD kk run0).segs).getD ii (0, 0, 0)).2.2) - (((y).tmod (((((rs.getD kk run0).segs).getD ii (0, 0, 0)).2.1) + 1)) + ((y).tmod ((((((rs.getD kk run0).segs).getD ii (0, 0, 0)).2.2) - ((((rs.getD kk run0).segs).getD ii (0, 0, 0)).2.1)) + 1)))))]), (row v203 56 3 ((replAt (rs.getD kk run0).segs ii (((rs.getD kk run0).segs.getD ii (0, 0, 0)).1, ((rs.getD kk run0).segs.getD ii (0, 0, 0)).2.1 - (y.tmod (((rs.getD kk run0).segs.getD ii (0, 0, 0)).2.1 + 1)), ((rs.getD kk run0).segs.getD ii (0, 0, 0)).2.2 - (y.tmod (((rs.getD kk run0).segs.getD ii (0, 0, 0)).2.1 + 1) + y.tmod (((rs.getD kk run0).segs.getD ii (0, 0, 0)).2.2 - ((rs.getD kk run0).segs.getD ii (0, 0, 0)).2.1 + 1)))).length) (trips (replAt (rs.getD kk run0).segs ii (((rs.getD kk run0).segs.getD ii (0, 0, 0)).1, ((rs.getD kk run0).segs.getD ii (0, 0, 0)).2.1 - (y.tmod (((rs.getD kk run0).segs.getD ii (0, 0, 0)).2.1 + 1)), ((rs.getD kk run0).segs.getD ii (0, 0, 0)).2.2 - (y.tmod (((rs.getD kk run0).segs.getD ii (0, 0, 0)).2.1 + 1) + y.tmod (((rs.getD kk run0).segs.getD ii (0, 0, 0)).2.2 - ((rs.getD kk run0).segs.getD ii (0, 0, 0)).2.1 + 1)))))), (blk b19_ 56 [(Value.int .i64 ((((rs.getD kk run0).segs).getD ii (0, 0, 0)).1)), (Value.int .i64 (((((rs.getD kk run0).segs).getD ii (0, 0, 0)).2.1) - ((y).tmod (((((rs.getD kk run0).segs).getD ii (0, 0, 0)).2.1) + 1)))), (Value.int .i64 (((((rs.getD kk run0).segs).getD ii (0, 0, 0)).2.2) - (((y).tmod (((((rs.getD kk run0).segs).getD ii (0, 0, 0)).2.1) + 1)) + ((y).tmod ((((((rs.getD kk run0).segs).getD ii (0, 0, 0)).2.2) - ((((rs.getD kk run0).segs).getD ii (0, 0, 0)).2.1)) + 1)))))]), (blk b133 48 [(Value.int .i64 ((((rs.getD kk run0).segs).getD ii (0, 0, 0)).2.1)), (Value.int .i64 ((((rs.getD kk run0).segs).getD ii (0, 0, 0)).2.2))]), (blk b93 56 [(Value.int .i64 ((((rs.getD kk run0).segs).getD ii (0, 0, 0)).1)), (Value.int .i64 ((y).tmod (((((rs.getD kk run0).segs).getD ii (0, 0, 0)).2.1) + 1))), (Value.int .i64 (((y).tmod (((((rs.getD kk run0).segs).getD ii (0, 0, 0)).2.1) + 1)) + ((y).tmod ((((((rs.getD kk run0).segs).getD ii (0, 0, 0)).2.2) - ((((rs.getD kk run0).segs).getD ii (0, 0, 0)).2.1)) + 1))))]), (row v44 54 3 rs.length (vtrips (runV lv rs))), (blk b4 24 [vr]), (sl vr 2 R.length (pairs R)), (runsR false vu lv rs), (sl vp 3 plan.length (trips plan))] := by rw [show catR rsf216 0 14 = ([(row (vs210 8) 56 3 1 [(Value.int .i64 ((((rs.getD kk run0).segs).getD ii (0, 0, 0)).1)), (Value.int .i64 ((y).tmod (((((rs.getD kk run0).segs).getD ii (0, 0, 0)).2.1) + 1))), (Value.int .i64 (((y).tmod (((((rs.getD kk run0).segs).getD ii (0, 0, 0)).2.1) + 1)) + ((y).tmod ((((((rs.getD kk run0).segs).getD ii (0, 0, 0)).2.2) - ((((rs.getD kk run0).segs).getD ii (0, 0, 0)).2.1)) + 1))))]), (row (vs210 13) 56 3 (((((replAt (rs.getD kk run0).segs ii (((rs.getD kk run0).segs.getD ii (0, 0, 0)).1, ((rs.getD kk run0).segs.getD ii (0, 0, 0)).2.1 - (y.tmod (((rs.getD kk run0).segs.getD ii (0, 0, 0)).2.1 + 1)), ((rs.getD kk run0).segs.getD ii (0, 0, 0)).2.2 - (y.tmod (((rs.getD kk run0).segs.getD ii (0, 0, 0)).2.1 + 1) + y.tmod (((rs.getD kk run0).segs.getD ii (0, 0, 0)).2.2 - ((rs.getD kk run0).segs.getD ii (0, 0, 0)).2.1 + 1)))).take ii) ++ [(((((rs.getD kk run0).segs).getD ii (0, 0, 0)).1, (y).tmod (((((rs.getD kk run0).segs).getD ii (0, 0, 0)).2.1) + 1), ((y).tmod (((((rs.getD kk run0).segs).getD ii (0, 0, 0)).2.1) + 1)) + ((y).tmod ((((((rs.getD kk run0).segs).getD ii (0, 0, 0)).2.2) - ((((rs.getD kk run0).segs).getD ii (0, 0, 0)).2.1)) + 1))) : Seg)]) ++ ((replAt (rs.getD kk run0).segs ii (((rs.getD kk run0).segs.getD ii (0, 0, 0)).1, ((rs.getD kk run0).segs.getD ii (0, 0, 0)).2.1 - (y.tmod (((rs.getD kk run0).segs.getD ii (0, 0, 0)).2.1 + 1)), ((rs.getD kk run0).segs.getD ii (0, 0, 0)).2.2 - (y.tmod (((rs.getD kk run0).segs.getD ii (0, 0, 0)).2.1 + 1) + y.tmod (((rs.getD kk run0).segs.getD ii (0, 0, 0)).2.2 - ((rs.getD kk run0).segs.getD ii (0, 0, 0)).2.1 + 1)))).drop ii)).length) (trips ((((replAt (rs.getD kk run0).segs ii (((rs.getD kk run0).segs.getD ii (0, 0, 0)).1, ((rs.getD kk run0).segs.getD ii (0, 0, 0)).2.1 - (y.tmod (((rs.getD kk run0).segs.getD ii (0, 0, 0)).2.1 + 1)), ((rs.getD kk run0).segs.getD ii (0, 0, 0)).2.2 - (y.tmod (((rs.getD kk run0).segs.getD ii (0, 0, 0)).2.1 + 1) + y.tmod (((rs.getD kk run0).segs.getD ii (0, 0, 0)).2.2 - ((rs.getD kk run0).segs.getD ii (0, 0, 0)).2.1 + 1)))).take ii) ++ [(((((rs.getD kk run0).segs).getD ii (0, 0, 0)).1, (y).tmod (((((rs.getD kk run0).segs).getD ii (0, 0, 0)).2.1) + 1), ((y).tmod (((((rs.getD kk run0).segs).getD ii (0, 0, 0)).2.1) + 1)) + ((y).tmod ((((((rs.getD kk run0).segs).getD ii (0, 0, 0)).2.2) - ((((rs.getD kk run0).segs).getD ii (0, 0, 0)).2.1)) + 1))) : Seg)]) ++ ((replAt (rs.getD kk run0).segs ii (((rs.getD kk run0).segs.getD ii (0, 0, 0)).1, ((rs.getD kk run0).segs.getD ii (0, 0, 0)).2.1 - (y.tmod (((rs.getD kk run0).segs.getD ii (0, 0, 0)).2.1 + 1)), ((rs.getD kk run0).segs.getD ii (0, 0, 0)).2.2 - (y.tmod (((rs.getD kk run0).segs.getD ii (0, 0, 0)).2.1 + 1) + y.tmod (((rs.getD kk run0).segs.getD ii (0, 0, 0)).2.2 - ((rs.getD kk run0).segs.getD ii (0, 0, 0)).2.1 + 1)))).drop ii))))] : List Res) by (try simp only [catR, hr_0, hr_1, hr_3, hr_4, hr_5, hr_7, hr_8, hr_10, hr_11, hr_12, hr_13, hrq_2, hrq_6, hrq_9]); (try rfl)] at hS214; exact hS214
    rw [hv_0] at hs_0
    have hA218 : Fr 241 [] [(135, v44), (15, v203), (16, (Value.int .i64 (ii : Int))), (17, (bptr b93 0)), (14, (Value.int .i64 (kk : Int))), (13, v44), (6, (bptr b4 0)), (1, vu), (2, vp)] a211 := hA213.add (slot_ev hs_0 rfl); clear hA213
    rw [hv_1] at hs_1
    have hA219 : Fr 241 [] [(136, (Value.int .i64 (kk : Int))), (135, v44), (15, v203), (16, (Value.int .i64 (ii : Int))), (17, (bptr b93 0)), (14, (Value.int .i64 (kk : Int))), (13, v44), (6, (bptr b4 0)), (1, vu), (2, vp)] a211 := hA218.add (slot_ev hs_1 rfl); clear hA218
    have hA220 : Fr 241 [] [(148, (vs210 13)), (136, (Value.int .i64 (kk : Int))), (135, v44), (15, v203), (16, (Value.int .i64 (ii : Int))), (17, (bptr b93 0)), (14, (Value.int .i64 (kk : Int))), (13, v44), (6, (bptr b4 0)), (1, vu), (2, vp)] a211 := hA219.add (slot_ev hs_13 rfl); clear hA219
    clear hH215 hS214 hs_0 hs_1 hs_3 hs_4 hs_5 hs_7 hs_8 hs_10 hs_11 hs_12 hs_13 hrq hrq_2 hrq_6 hrq_9
    clear hr_0
    clear hv_0
    clear hr_1
    clear hv_1
    clear hr_3
    clear hv_3
    clear hr_4
    clear hv_4
    clear hr_5
    clear hv_5
    clear hr_7
    clear hv_7
    clear hr_8
    clear hv_8
    clear hr_10
    clear hv_10
    clear hr_11
    clear hv_11
    clear hr_12
    clear hv_12
    clear hr_13
    clear hv_13
    refine st hA220 (op_indexS rfl un_25 ty_54 (hA220.ev rfl) (i := kk) (hA220.ev rfl) (SlAt.of_row (hS217.ok_row 7 rfl)) (by decide) (by omega)) rfl rfl (by decide) fun a221 hA222 => ?_; clear hA220 a211
    refine st hA222 (op_fieldS rfl fd_54_0 (hA222.ev rfl) (SlAt.of_row (hS217.ok_row 7 rfl)) (by rw [((SlAt.of_row (hS217.ok_row 7 rfl))).1]; omega)) rfl rfl (by decide) fun a223 hA224 => ?_; clear hA222 a221
    refine sts hA224 (op_storeE hS217 rfl ty_51 (hA224.ev rfl) (hA224.ev rfl) (i := 7) rfl (vs := [(vs210 13)]) (isSl_cells (SlAt.isSl (SlAt.of_row (hS217.ok_row 1 rfl)))) rfl (all_c (SlAt.one (SlAt.of_row (hS217.ok_row 1 rfl))) all_n) (by rw [vtrips_length, runV_len hx.len]; first | omega | (simp only [List.length_cons, List.length_nil]; omega)) (by decide)) rfl rfl ?_
    intro _ w225 hS226 hA228; have hS227 := hS226.row_say (i := 7) rfl (n' := (rs.set kk (⟨((((replAt (rs.getD kk run0).segs ii (((rs.getD kk run0).segs.getD ii (0, 0, 0)).1, ((rs.getD kk run0).segs.getD ii (0, 0, 0)).2.1 - (y.tmod (((rs.getD kk run0).segs.getD ii (0, 0, 0)).2.1 + 1)), ((rs.getD kk run0).segs.getD ii (0, 0, 0)).2.2 - (y.tmod (((rs.getD kk run0).segs.getD ii (0, 0, 0)).2.1 + 1) + y.tmod (((rs.getD kk run0).segs.getD ii (0, 0, 0)).2.2 - ((rs.getD kk run0).segs.getD ii (0, 0, 0)).2.1 + 1)))).take ii) ++ [(((((rs.getD kk run0).segs).getD ii (0, 0, 0)).1, (y).tmod (((((rs.getD kk run0).segs).getD ii (0, 0, 0)).2.1) + 1), ((y).tmod (((((rs.getD kk run0).segs).getD ii (0, 0, 0)).2.1) + 1)) + ((y).tmod ((((((rs.getD kk run0).segs).getD ii (0, 0, 0)).2.2) - ((((rs.getD kk run0).segs).getD ii (0, 0, 0)).2.1)) + 1))) : Seg)]) ++ ((replAt (rs.getD kk run0).segs ii (((rs.getD kk run0).segs.getD ii (0, 0, 0)).1, ((rs.getD kk run0).segs.getD ii (0, 0, 0)).2.1 - (y.tmod (((rs.getD kk run0).segs.getD ii (0, 0, 0)).2.1 + 1)), ((rs.getD kk run0).segs.getD ii (0, 0, 0)).2.2 - (y.tmod (((rs.getD kk run0).segs.getD ii (0, 0, 0)).2.1 + 1) + y.tmod (((rs.getD kk run0).segs.getD ii (0, 0, 0)).2.2 - ((rs.getD kk run0).segs.getD ii (0, 0, 0)).2.1 + 1)))).drop ii)), (rs.getD kk run0).lo, (rs.getD kk run0).hi⟩ : RunD)).length) (xs' := (vtrips (runV (lv.set kk (vs210 13)) (rs.set kk (⟨((((replAt (rs.getD kk run0).segs ii (((rs.getD kk run0).segs.getD ii (0, 0, 0)).1, ((rs.getD kk run0).segs.getD ii (0, 0, 0)).2.1 - (y.tmod (((rs.getD kk run0).segs.getD ii (0, 0, 0)).2.1 + 1)), ((rs.getD kk run0).segs.getD ii (0, 0, 0)).2.2 - (y.tmod (((rs.getD kk run0).segs.getD ii (0, 0, 0)).2.1 + 1) + y.tmod (((rs.getD kk run0).segs.getD ii (0, 0, 0)).2.2 - ((rs.getD kk run0).segs.getD ii (0, 0, 0)).2.1 + 1)))).take ii) ++ [(((((rs.getD kk run0).segs).getD ii (0, 0, 0)).1, (y).tmod (((((rs.getD kk run0).segs).getD ii (0, 0, 0)).2.1) + 1), ((y).tmod (((((rs.getD kk run0).segs).getD ii (0, 0, 0)).2.1) + 1)) + ((y).tmod ((((((rs.getD kk run0).segs).getD ii (0, 0, 0)).2.2) - ((((rs.getD kk run0).segs).getD ii (0, 0, 0)).2.1)) + 1))) : Seg)]) ++ ((replAt (rs.getD kk run0).segs ii (((rs.getD kk run0).segs.getD ii (0, 0, 0)).1, ((rs.getD kk run0).segs.getD ii (0, 0, 0)).2.1 - (y.tmod (((rs.getD kk run0).segs.getD ii (0, 0, 0)).2.1 + 1)), ((rs.getD kk run0).segs.getD ii (0, 0, 0)).2.2 - (y.tmod (((rs.getD kk run0).segs.getD ii (0, 0, 0)).2.1 + 1) + y.tmod (((rs.getD kk run0).segs.getD ii (0, 0, 0)).2.2 - ((rs.getD kk run0).segs.getD ii (0, 0, 0)).2.1 + 1)))).drop ii)), (rs.getD kk run0).lo, (rs.getD kk run0).hi⟩ : RunD))))) (by simp only [List.length_set]) (runs_set0 (runs_at (hS217.ok 10 _ rfl)).len (by omega) _ _); clear hS226 hA224 hS217
    refine wl_nil ?_
    refine then_n ?_
    refine c_seq ?_
    refine c_seq ?_
    have hA229 := hA228.as [(13, v44), (6, (bptr b4 0)), (1, vu), (2, vp)] rfl; clear hA228
    have hS230 := hS227.row_say (i := 7) rfl (n' := (rs.set kk (⟨(putAt (replAt (rs.getD kk run0).segs ii (((rs.getD kk run0).segs.getD ii (0, 0, 0)).1, ((rs.getD kk run0).segs.getD ii (0, 0, 0)).2.1 - (y.tmod (((rs.getD kk run0).segs.getD ii (0, 0, 0)).2.1 + 1)), ((rs.getD kk run0).segs.getD ii (0, 0, 0)).2.2 - (y.tmod (((rs.getD kk run0).segs.getD ii (0, 0, 0)).2.1 + 1) + y.tmod (((rs.getD kk run0).segs.getD ii (0, 0, 0)).2.2 - ((rs.getD kk run0).segs.getD ii (0, 0, 0)).2.1 + 1)))) ii (((rs.getD kk run0).segs.getD ii (0, 0, 0)).1, (y.tmod (((rs.getD kk run0).segs.getD ii (0, 0, 0)).2.1 + 1)), (y.tmod (((rs.getD kk run0).segs.getD ii (0, 0, 0)).2.1 + 1) + y.tmod (((rs.getD kk run0).segs.getD ii (0, 0, 0)).2.2 - ((rs.getD kk run0).segs.getD ii (0, 0, 0)).2.1 + 1)))), (rs.getD kk run0).lo, (rs.getD kk run0).hi⟩ : RunD)).length) (xs' := (vtrips (runV (lv.set kk (vs210 13)) (rs.set kk (⟨(putAt (replAt (rs.getD kk run0).segs ii (((rs.getD kk run0).segs.getD ii (0, 0, 0)).1, ((rs.getD kk run0).segs.getD ii (0, 0, 0)).2.1 - (y.tmod (((rs.getD kk run0).segs.getD ii (0, 0, 0)).2.1 + 1)), ((rs.getD kk run0).segs.getD ii (0, 0, 0)).2.2 - (y.tmod (((rs.getD kk run0).segs.getD ii (0, 0, 0)).2.1 + 1) + y.tmod (((rs.getD kk run0).segs.getD ii (0, 0, 0)).2.2 - ((rs.getD kk run0).segs.getD ii (0, 0, 0)).2.1 + 1)))) ii (((rs.getD kk run0).segs.getD ii (0, 0, 0)).1, (y.tmod (((rs.getD kk run0).segs.getD ii (0, 0, 0)).2.1 + 1)), (y.tmod (((rs.getD kk run0).segs.getD ii (0, 0, 0)).2.1 + 1) + y.tmod (((rs.getD kk run0).segs.getD ii (0, 0, 0)).2.2 - ((rs.getD kk run0).segs.getD ii (0, 0, 0)).2.1 + 1)))), (rs.getD kk run0).lo, (rs.getD kk run0).hi⟩ : RunD))))) rfl rfl; clear hS227
    have hS231 := (hS230.row_say (i := 1) rfl (n' := (⟨(putAt (replAt (rs.getD kk run0).segs ii (((rs.getD kk run0).segs.getD ii (0, 0, 0)).1, ((rs.getD kk run0).segs.getD ii (0, 0, 0)).2.1 - (y.tmod (((rs.getD kk run0).segs.getD ii (0, 0, 0)).2.1 + 1)), ((rs.getD kk run0).segs.getD ii (0, 0, 0)).2.2 - (y.tmod (((rs.getD kk run0).segs.getD ii (0, 0, 0)).2.1 + 1) + y.tmod (((rs.getD kk run0).segs.getD ii (0, 0, 0)).2.2 - ((rs.getD kk run0).segs.getD ii (0, 0, 0)).2.1 + 1)))) ii (((rs.getD kk run0).segs.getD ii (0, 0, 0)).1, (y.tmod (((rs.getD kk run0).segs.getD ii (0, 0, 0)).2.1 + 1)), (y.tmod (((rs.getD kk run0).segs.getD ii (0, 0, 0)).2.1 + 1) + y.tmod (((rs.getD kk run0).segs.getD ii (0, 0, 0)).2.2 - ((rs.getD kk run0).segs.getD ii (0, 0, 0)).2.1 + 1)))), (rs.getD kk run0).lo, (rs.getD kk run0).hi⟩ : RunD).segs.length) (xs' := trips (⟨(putAt (replAt (rs.getD kk run0).segs ii (((rs.getD kk run0).segs.getD ii (0, 0, 0)).1, ((rs.getD kk run0).segs.getD ii (0, 0, 0)).2.1 - (y.tmod (((rs.getD kk run0).segs.getD ii (0, 0, 0)).2.1 + 1)), ((rs.getD kk run0).segs.getD ii (0, 0, 0)).2.2 - (y.tmod (((rs.getD kk run0).segs.getD ii (0, 0, 0)).2.1 + 1) + y.tmod (((rs.getD kk run0).segs.getD ii (0, 0, 0)).2.2 - ((rs.getD kk run0).segs.getD ii (0, 0, 0)).2.1 + 1)))) ii (((rs.getD kk run0).segs.getD ii (0, 0, 0)).1, (y.tmod (((rs.getD kk run0).segs.getD ii (0, 0, 0)).2.1 + 1)), (y.tmod (((rs.getD kk run0).segs.getD ii (0, 0, 0)).2.1 + 1) + y.tmod (((rs.getD kk run0).segs.getD ii (0, 0, 0)).2.2 - ((rs.getD kk run0).segs.getD ii (0, 0, 0)).2.1 + 1)))), (rs.getD kk run0).lo, (rs.getD kk run0).hi⟩ : RunD).segs) rfl rfl).row_sl (i := 1) rfl; clear hS230
    have hS232 := hS231.segs_set (x := (⟨(putAt (replAt (rs.getD kk run0).segs ii (((rs.getD kk run0).segs.getD ii (0, 0, 0)).1, ((rs.getD kk run0).segs.getD ii (0, 0, 0)).2.1 - (y.tmod (((rs.getD kk run0).segs.getD ii (0, 0, 0)).2.1 + 1)), ((rs.getD kk run0).segs.getD ii (0, 0, 0)).2.2 - (y.tmod (((rs.getD kk run0).segs.getD ii (0, 0, 0)).2.1 + 1) + y.tmod (((rs.getD kk run0).segs.getD ii (0, 0, 0)).2.2 - ((rs.getD kk run0).segs.getD ii (0, 0, 0)).2.1 + 1)))) ii (((rs.getD kk run0).segs.getD ii (0, 0, 0)).1, (y.tmod (((rs.getD kk run0).segs.getD ii (0, 0, 0)).2.1 + 1)), (y.tmod (((rs.getD kk run0).segs.getD ii (0, 0, 0)).2.1 + 1) + y.tmod (((rs.getD kk run0).segs.getD ii (0, 0, 0)).2.2 - ((rs.getD kk run0).segs.getD ii (0, 0, 0)).2.1 + 1)))), (rs.getD kk run0).lo, (rs.getD kk run0).hi⟩ : RunD)) (i := 10) (j := 1) rfl rfl hb_kk; clear hS231
    have hS233 : Sep NoB w w225 [(row v44 54 3 ((rs.set kk (⟨(putAt (replAt (rs.getD kk run0).segs ii (((rs.getD kk run0).segs.getD ii (0, 0, 0)).1, ((rs.getD kk run0).segs.getD ii (0, 0, 0)).2.1 - (y.tmod (((rs.getD kk run0).segs.getD ii (0, 0, 0)).2.1 + 1)), ((rs.getD kk run0).segs.getD ii (0, 0, 0)).2.2 - (y.tmod (((rs.getD kk run0).segs.getD ii (0, 0, 0)).2.1 + 1) + y.tmod (((rs.getD kk run0).segs.getD ii (0, 0, 0)).2.2 - ((rs.getD kk run0).segs.getD ii (0, 0, 0)).2.1 + 1)))) ii (((rs.getD kk run0).segs.getD ii (0, 0, 0)).1, (y.tmod (((rs.getD kk run0).segs.getD ii (0, 0, 0)).2.1 + 1)), (y.tmod (((rs.getD kk run0).segs.getD ii (0, 0, 0)).2.1 + 1) + y.tmod (((rs.getD kk run0).segs.getD ii (0, 0, 0)).2.2 - ((rs.getD kk run0).segs.getD ii (0, 0, 0)).2.1 + 1)))), (rs.getD kk run0).lo, (rs.getD kk run0).hi⟩ : RunD)).length) (vtrips (runV (lv.set kk (vs210 13)) (rs.set kk (⟨(putAt (replAt (rs.getD kk run0).segs ii (((rs.getD kk run0).segs.getD ii (0, 0, 0)).1, ((rs.getD kk run0).segs.getD ii (0, 0, 0)).2.1 - (y.tmod (((rs.getD kk run0).segs.getD ii (0, 0, 0)).2.1 + 1)), ((rs.getD kk run0).segs.getD ii (0, 0, 0)).2.2 - (y.tmod (((rs.getD kk run0).segs.getD ii (0, 0, 0)).2.1 + 1) + y.tmod (((rs.getD kk run0).segs.getD ii (0, 0, 0)).2.2 - ((rs.getD kk run0).segs.getD ii (0, 0, 0)).2.1 + 1)))) ii (((rs.getD kk run0).segs.getD ii (0, 0, 0)).1, (y.tmod (((rs.getD kk run0).segs.getD ii (0, 0, 0)).2.1 + 1)), (y.tmod (((rs.getD kk run0).segs.getD ii (0, 0, 0)).2.1 + 1) + y.tmod (((rs.getD kk run0).segs.getD ii (0, 0, 0)).2.2 - ((rs.getD kk run0).segs.getD ii (0, 0, 0)).2.1 + 1)))), (rs.getD kk run0).lo, (rs.getD kk run0).hi⟩ : RunD))))), (segsR false (lv.set kk (vs210 13)) (rs.set kk (⟨(putAt (replAt (rs.getD kk run0).segs ii (((rs.getD kk run0).segs.getD ii (0, 0, 0)).1, ((rs.getD kk run0).segs.getD ii (0, 0, 0)).2.1 - (y.tmod (((rs.getD kk run0).segs.getD ii (0, 0, 0)).2.1 + 1)), ((rs.getD kk run0).segs.getD ii (0, 0, 0)).2.2 - (y.tmod (((rs.getD kk run0).segs.getD ii (0, 0, 0)).2.1 + 1) + y.tmod (((rs.getD kk run0).segs.getD ii (0, 0, 0)).2.2 - ((rs.getD kk run0).segs.getD ii (0, 0, 0)).2.1 + 1)))) ii (((rs.getD kk run0).segs.getD ii (0, 0, 0)).1, (y.tmod (((rs.getD kk run0).segs.getD ii (0, 0, 0)).2.1 + 1)), (y.tmod (((rs.getD kk run0).segs.getD ii (0, 0, 0)).2.1 + 1) + y.tmod (((rs.getD kk run0).segs.getD ii (0, 0, 0)).2.2 - ((rs.getD kk run0).segs.getD ii (0, 0, 0)).2.1 + 1)))), (rs.getD kk run0).lo, (rs.getD kk run0).hi⟩ : RunD))), (row (vs210 8) 56 3 1 [(Value.int .i64 ((((rs.getD kk run0).segs).getD ii (0, 0, 0)).1)), (Value.int .i64 ((y).tmod (((((rs.getD kk run0).segs).getD ii (0, 0, 0)).2.1) + 1))), (Value.int .i64 (((y).tmod (((((rs.getD kk run0).segs).getD ii (0, 0, 0)).2.1) + 1)) + ((y).tmod ((((((rs.getD kk run0).segs).getD ii (0, 0, 0)).2.2) - ((((rs.getD kk run0).segs).getD ii (0, 0, 0)).2.1)) + 1))))]), (sl (vs210 13) 3 ((⟨(putAt (replAt (rs.getD kk run0).segs ii (((rs.getD kk run0).segs.getD ii (0, 0, 0)).1, ((rs.getD kk run0).segs.getD ii (0, 0, 0)).2.1 - (y.tmod (((rs.getD kk run0).segs.getD ii (0, 0, 0)).2.1 + 1)), ((rs.getD kk run0).segs.getD ii (0, 0, 0)).2.2 - (y.tmod (((rs.getD kk run0).segs.getD ii (0, 0, 0)).2.1 + 1) + y.tmod (((rs.getD kk run0).segs.getD ii (0, 0, 0)).2.2 - ((rs.getD kk run0).segs.getD ii (0, 0, 0)).2.1 + 1)))) ii (((rs.getD kk run0).segs.getD ii (0, 0, 0)).1, (y.tmod (((rs.getD kk run0).segs.getD ii (0, 0, 0)).2.1 + 1)), (y.tmod (((rs.getD kk run0).segs.getD ii (0, 0, 0)).2.1 + 1) + y.tmod (((rs.getD kk run0).segs.getD ii (0, 0, 0)).2.2 - ((rs.getD kk run0).segs.getD ii (0, 0, 0)).2.1 + 1)))), (rs.getD kk run0).lo, (rs.getD kk run0).hi⟩ : RunD).segs.length) (trips ((⟨(putAt (replAt (rs.getD kk run0).segs ii (((rs.getD kk run0).segs.getD ii (0, 0, 0)).1, ((rs.getD kk run0).segs.getD ii (0, 0, 0)).2.1 - (y.tmod (((rs.getD kk run0).segs.getD ii (0, 0, 0)).2.1 + 1)), ((rs.getD kk run0).segs.getD ii (0, 0, 0)).2.2 - (y.tmod (((rs.getD kk run0).segs.getD ii (0, 0, 0)).2.1 + 1) + y.tmod (((rs.getD kk run0).segs.getD ii (0, 0, 0)).2.2 - ((rs.getD kk run0).segs.getD ii (0, 0, 0)).2.1 + 1)))) ii (((rs.getD kk run0).segs.getD ii (0, 0, 0)).1, (y.tmod (((rs.getD kk run0).segs.getD ii (0, 0, 0)).2.1 + 1)), (y.tmod (((rs.getD kk run0).segs.getD ii (0, 0, 0)).2.1 + 1) + y.tmod (((rs.getD kk run0).segs.getD ii (0, 0, 0)).2.2 - ((rs.getD kk run0).segs.getD ii (0, 0, 0)).2.1 + 1)))), (rs.getD kk run0).lo, (rs.getD kk run0).hi⟩ : RunD).segs))), (row (vs190 6) 56 3 1 [(Value.int .i64 ((((rs.getD kk run0).segs).getD ii (0, 0, 0)).1)), (Value.int .i64 (((((rs.getD kk run0).segs).getD ii (0, 0, 0)).2.1) - ((y).tmod (((((rs.getD kk run0).segs).getD ii (0, 0, 0)).2.1) + 1)))), (Value.int .i64 (((((rs.getD kk run0).segs).getD ii (0, 0, 0)).2.2) - (((y).tmod (((((rs.getD kk run0).segs).getD ii (0, 0, 0)).2.1) + 1)) + ((y).tmod ((((((rs.getD kk run0).segs).getD ii (0, 0, 0)).2.2) - ((((rs.getD kk run0).segs).getD ii (0, 0, 0)).2.1)) + 1)))))]), (row v203 56 3 ((replAt (rs.getD kk run0).segs ii (((rs.getD kk run0).segs.getD ii (0, 0, 0)).1, ((rs.getD kk run0).segs.getD ii (0, 0, 0)).2.1 - (y.tmod (((rs.getD kk run0).segs.getD ii (0, 0, 0)).2.1 + 1)), ((rs.getD kk run0).segs.getD ii (0, 0, 0)).2.2 - (y.tmod (((rs.getD kk run0).segs.getD ii (0, 0, 0)).2.1 + 1) + y.tmod (((rs.getD kk run0).segs.getD ii (0, 0, 0)).2.2 - ((rs.getD kk run0).segs.getD ii (0, 0, 0)).2.1 + 1)))).length) (trips (replAt (rs.getD kk run0).segs ii (((rs.getD kk run0).segs.getD ii (0, 0, 0)).1, ((rs.getD kk run0).segs.getD ii (0, 0, 0)).2.1 - (y.tmod (((rs.getD kk run0).segs.getD ii (0, 0, 0)).2.1 + 1)), ((rs.getD kk run0).segs.getD ii (0, 0, 0)).2.2 - (y.tmod (((rs.getD kk run0).segs.getD ii (0, 0, 0)).2.1 + 1) + y.tmod (((rs.getD kk run0).segs.getD ii (0, 0, 0)).2.2 - ((rs.getD kk run0).segs.getD ii (0, 0, 0)).2.1 + 1)))))), (blk b19_ 56 [(Value.int .i64 ((((rs.getD kk run0).segs).getD ii (0, 0, 0)).1)), (Value.int .i64 (((((rs.getD kk run0).segs).getD ii (0, 0, 0)).2.1) - ((y).tmod (((((rs.getD kk run0).segs).getD ii (0, 0, 0)).2.1) + 1)))), (Value.int .i64 (((((rs.getD kk run0).segs).getD ii (0, 0, 0)).2.2) - (((y).tmod (((((rs.getD kk run0).segs).getD ii (0, 0, 0)).2.1) + 1)) + ((y).tmod ((((((rs.getD kk run0).segs).getD ii (0, 0, 0)).2.2) - ((((rs.getD kk run0).segs).getD ii (0, 0, 0)).2.1)) + 1)))))]), (blk b133 48 [(Value.int .i64 ((((rs.getD kk run0).segs).getD ii (0, 0, 0)).2.1)), (Value.int .i64 ((((rs.getD kk run0).segs).getD ii (0, 0, 0)).2.2))]), (blk b93 56 [(Value.int .i64 ((((rs.getD kk run0).segs).getD ii (0, 0, 0)).1)), (Value.int .i64 ((y).tmod (((((rs.getD kk run0).segs).getD ii (0, 0, 0)).2.1) + 1))), (Value.int .i64 (((y).tmod (((((rs.getD kk run0).segs).getD ii (0, 0, 0)).2.1) + 1)) + ((y).tmod ((((((rs.getD kk run0).segs).getD ii (0, 0, 0)).2.2) - ((((rs.getD kk run0).segs).getD ii (0, 0, 0)).2.1)) + 1))))]), (blk b4 24 [vr]), (sl vr 2 R.length (pairs R)), (runsR false vu lv rs), (sl vp 3 plan.length (trips plan))] := hS232.keep [8, 0, 1, 2, 3, 4, 5, 6, 7, 9, 10, 11, 12] (by decide) _ rfl rfl; clear hS232
    have hS234 := hS233.runs_ro rfl; clear hS233
    have hS235 : Sep NoB w w225 [(runsR false v44 (lv.set kk (vs210 13)) (rs.set kk (⟨(putAt (replAt (rs.getD kk run0).segs ii (((rs.getD kk run0).segs.getD ii (0, 0, 0)).1, ((rs.getD kk run0).segs.getD ii (0, 0, 0)).2.1 - (y.tmod (((rs.getD kk run0).segs.getD ii (0, 0, 0)).2.1 + 1)), ((rs.getD kk run0).segs.getD ii (0, 0, 0)).2.2 - (y.tmod (((rs.getD kk run0).segs.getD ii (0, 0, 0)).2.1 + 1) + y.tmod (((rs.getD kk run0).segs.getD ii (0, 0, 0)).2.2 - ((rs.getD kk run0).segs.getD ii (0, 0, 0)).2.1 + 1)))) ii (((rs.getD kk run0).segs.getD ii (0, 0, 0)).1, (y.tmod (((rs.getD kk run0).segs.getD ii (0, 0, 0)).2.1 + 1)), (y.tmod (((rs.getD kk run0).segs.getD ii (0, 0, 0)).2.1 + 1) + y.tmod (((rs.getD kk run0).segs.getD ii (0, 0, 0)).2.2 - ((rs.getD kk run0).segs.getD ii (0, 0, 0)).2.1 + 1)))), (rs.getD kk run0).lo, (rs.getD kk run0).hi⟩ : RunD))), (blk b4 24 [vr]), (sl vr 2 R.length (pairs R)), (runsR false vu lv rs), (sl vp 3 plan.length (trips plan))] := hS234.keep [0, 8, 9, 10, 11] (by decide) _ rfl rfl; clear hS234
    have hsame : ∀ r, allowB (rs.set kk (⟨(putAt (replAt (rs.getD kk run0).segs ii (((rs.getD kk run0).segs.getD ii (0, 0, 0)).1, ((rs.getD kk run0).segs.getD ii (0, 0, 0)).2.1 - (y.tmod (((rs.getD kk run0).segs.getD ii (0, 0, 0)).2.1 + 1)), ((rs.getD kk run0).segs.getD ii (0, 0, 0)).2.2 - (y.tmod (((rs.getD kk run0).segs.getD ii (0, 0, 0)).2.1 + 1) + y.tmod (((rs.getD kk run0).segs.getD ii (0, 0, 0)).2.2 - ((rs.getD kk run0).segs.getD ii (0, 0, 0)).2.1 + 1)))) ii (((rs.getD kk run0).segs.getD ii (0, 0, 0)).1, (y.tmod (((rs.getD kk run0).segs.getD ii (0, 0, 0)).2.1 + 1)), (y.tmod (((rs.getD kk run0).segs.getD ii (0, 0, 0)).2.1 + 1) + y.tmod (((rs.getD kk run0).segs.getD ii (0, 0, 0)).2.2 - ((rs.getD kk run0).segs.getD ii (0, 0, 0)).2.1 + 1)))), (rs.getD kk run0).lo, (rs.getD kk run0).hi⟩ : RunD)) r = allowB rs r := set_same_allow hb_kk rfl rfl (fun r => st_cut hb_ii r (y.tmod (((rs.getD kk run0).segs.getD ii (0, 0, 0)).2.1 + 1)) (y.tmod (((rs.getD kk run0).segs.getD ii (0, 0, 0)).2.1 + 1) + y.tmod (((rs.getD kk run0).segs.getD ii (0, 0, 0)).2.2 - ((rs.getD kk run0).segs.getD ii (0, 0, 0)).2.1 + 1)))
    have hl2 : (rs.set kk (⟨(putAt (replAt (rs.getD kk run0).segs ii (((rs.getD kk run0).segs.getD ii (0, 0, 0)).1, ((rs.getD kk run0).segs.getD ii (0, 0, 0)).2.1 - (y.tmod (((rs.getD kk run0).segs.getD ii (0, 0, 0)).2.1 + 1)), ((rs.getD kk run0).segs.getD ii (0, 0, 0)).2.2 - (y.tmod (((rs.getD kk run0).segs.getD ii (0, 0, 0)).2.1 + 1) + y.tmod (((rs.getD kk run0).segs.getD ii (0, 0, 0)).2.2 - ((rs.getD kk run0).segs.getD ii (0, 0, 0)).2.1 + 1)))) ii (((rs.getD kk run0).segs.getD ii (0, 0, 0)).1, (y.tmod (((rs.getD kk run0).segs.getD ii (0, 0, 0)).2.1 + 1)), (y.tmod (((rs.getD kk run0).segs.getD ii (0, 0, 0)).2.1 + 1) + y.tmod (((rs.getD kk run0).segs.getD ii (0, 0, 0)).2.2 - ((rs.getD kk run0).segs.getD ii (0, 0, 0)).2.1 + 1)))), (rs.getD kk run0).lo, (rs.getD kk run0).hi⟩ : RunD)).length = rs.length := by simp only [List.length_set]
    generalize hg_ : rs.set kk (⟨(putAt (replAt (rs.getD kk run0).segs ii (((rs.getD kk run0).segs.getD ii (0, 0, 0)).1, ((rs.getD kk run0).segs.getD ii (0, 0, 0)).2.1 - (y.tmod (((rs.getD kk run0).segs.getD ii (0, 0, 0)).2.1 + 1)), ((rs.getD kk run0).segs.getD ii (0, 0, 0)).2.2 - (y.tmod (((rs.getD kk run0).segs.getD ii (0, 0, 0)).2.1 + 1) + y.tmod (((rs.getD kk run0).segs.getD ii (0, 0, 0)).2.2 - ((rs.getD kk run0).segs.getD ii (0, 0, 0)).2.1 + 1)))) ii (((rs.getD kk run0).segs.getD ii (0, 0, 0)).1, (y.tmod (((rs.getD kk run0).segs.getD ii (0, 0, 0)).2.1 + 1)), (y.tmod (((rs.getD kk run0).segs.getD ii (0, 0, 0)).2.1 + 1) + y.tmod (((rs.getD kk run0).segs.getD ii (0, 0, 0)).2.2 - ((rs.getD kk run0).segs.getD ii (0, 0, 0)).2.1 + 1)))), (rs.getD kk run0).lo, (rs.getD kk run0).hi⟩ : RunD) = rs2 at hS235 hsame hl2; clear hg_
    have hA236 := hA229.as [(13, v44), (6, (bptr b4 0)), (1, vu), (2, vp)] rfl; clear hA229
    refine c_region ?_
    refine st hA236 (op_loadA rfl ty_24 (hA236.ev rfl) (hS235.bk 1 rfl) (l := [vr]) rfl rfl) rfl rfl (by decide) fun a237 hA238 => ?_; clear hA236 a223
    refine st hA238 (op_move rfl (hA238.ev rfl)) rfl rfl (by decide) fun a239 hA240 => ?_; clear hA238 a237
    refine st hA240 (op_move rfl (hA240.ev rfl)) rfl rfl (by decide) fun a241 hA242 => ?_; clear hA240 a239
    refine stw hA242 (op_call rfl en_27 (ev3 (hA242.ev rfl) (hA242.ev rfl) (hA242.ev rfl)) (ready_ok _ R _ (hS235.sk 2 rfl) rs2 _ _ (runs_at (hS235.ok 0 _ rfl)) plan _ (hS235.sk 4 rfl))) rfl rfl (by decide) ?_
    rintro a243 _ w245 ⟨rfl, hE246⟩ hA244; have hS247 := hS235.step hE246; clear hE246 hA242 hS235 a241
    refine st hA244 (op_not rfl (hA244.ev rfl)) rfl rfl (by decide) fun a248 hA249 => ?_; clear hA244 a243
    refine wl_nil ?_
    refine then_n ?_
    rcases Bool.eq_false_or_eq_true ((readyB R rs2 plan)) with hb250 | hb250
    ·skip
     rw [hb250] at hA249
     have hrd2 := ready_is (R := R) (rs := rs2) (plan := plan) (by assumption); have hth2 := hrd2.1; have he2 := hrd2.2.1; have h9x := hth2.runs; have halw : allowedF R rs2 = allowedF R rs := allowed_same hsame; have hps : possF R rs2 = possF R rs := poss_same halw he he2; have hrte : ratesF R rs2 = ratesF R rs := by unfold ratesF; rw [halw]
     have hls : leastR R rs2 plan = leastR R rs plan := by unfold leastR; rw [halw]
     have hms : mostR R rs2 plan = mostR R rs plan := by unfold mostR; rw [halw]
     have hpl2 : planF R rs2 plan = planF R rs plan := by unfold planF; rw [hps]
     have hrt2 := ratesF_len R rs2; have hale : (allowedF R rs2).length = (allowedF R rs).length := by rw [halw]
     refine c_false hA249 rfl ?_
     refine c_skip ?_
     refine then_n ?_
     refine c_seq ?_
     refine c_region ?_
     refine st hA249 (op_loadA rfl ty_24 (hA249.ev rfl) (hS247.bk 1 rfl) (l := [vr]) rfl rfl) rfl rfl (by decide) fun a251 hA252 => ?_; clear hA249 a248
     refine stw hA252 (op_call rfl en_19 (ev1 (hA252.ev rfl)) (Material_ok _ R _ (hS247.sk 2 rfl) hth.mat)) rfl rfl (by decide) ?_
     rintro a253 _ w255 ⟨u258, rfl, hT256⟩ hA254; have hS257 := hS247.callS hT256 rfl; clear hT256 hA252 hS247 a251
     refine st hA254 (op_move rfl (hA254.ev rfl)) rfl rfl (by decide) fun a259 hA260 => ?_; clear hA254 a253
     refine stw hA260 (op_call rfl en_20 (ev1 (hA260.ev rfl)) (Runs_ok _ rs _ _ (runs_at (hS257.ok 4 _ rfl)) h9 hth.segs)) rfl rfl (by decide) ?_
     rintro a261 v266 w263 ⟨lv267, hT264⟩ hA262; have hS265 := hS257.callS hT264 rfl; clear hT264 hA260 hS257 a259
     refine stw hA262 (op_call rfl en_18 (ev2 (hA262.ev rfl) (hA262.ev rfl)) (rates_ok R rs lv267 u258 v266 _ (SlAt.of_row (hS265.ok_row 1 rfl)) (runs_at (hS265.ok 0 _ rfl)) (by omega) (by omega) hc)) rfl rfl (by decide) ?_
     rintro a268 _ w270 ⟨u273, rfl, hT271⟩ hA269
     have hS272 : Sep NoB w w270 [(row u273 42 2 R.length (pairs (ratesF R rs))), (runsR true v266 lv267 rs), (row u258 42 2 R.length (pairs R)), (runsR false v44 (lv.set kk (vs210 13)) rs2), (blk b4 24 [vr]), (sl vr 2 R.length (pairs R)), (runsR false vu lv rs), (sl vp 3 plan.length (trips plan))] := hS265.callS hT271 rfl; clear hT271 hA262 hS265 a261
     refine st hA269 (op_move rfl (hA269.ev rfl)) rfl rfl (by decide) fun a274 hA275 => ?_; clear hA269 a268
     refine st hA275 (op_extract rfl (hA275.ev rfl) rfl) rfl rfl (by decide) fun a276 hA277 => ?_; clear hA275 a274
     refine st hA277 (op_extract rfl (hA277.ev rfl) rfl) rfl rfl (by decide) fun a278 hA279 => ?_; clear hA277 a276
     refine st hA279 (op_extract rfl (hA279.ev rfl) rfl) rfl rfl (by decide) fun a280 hA281 => ?_; clear hA279 a278
     refine st hA281 (op_assign rfl (hA281.ev rfl)) rfl rfl (by decide) fun a282 hA283 => ?_; clear hA281 a280
     refine st hA283 (op_assign rfl (hA283.ev rfl)) rfl rfl (by decide) fun a284 hA285 => ?_; clear hA283 a282
     refine st hA285 (op_assign rfl (hA285.ev rfl)) rfl rfl (by decide) fun a286 hA287 => ?_; clear hA285 a284
     refine wl_nil ?_
     refine then_n ?_
     refine c_seq ?_
     have hA288 := hA287.as [(22, (Value.int .i64 0)), (21, (Value.int .i64 (((allowedF R rs).length : Nat) : Int))), (20, u273), (13, v44), (6, (bptr b4 0)), (1, vu), (2, vp)] rfl; clear hA287
     refine c_region ?_
     refine st hA288 (op_loadA rfl ty_24 (hA288.ev rfl) (hS272.bk 4 rfl) (l := [vr]) rfl rfl) rfl rfl (by decide) fun a289 hA290 => ?_; clear hA288 a286
     refine stw hA290 (op_call rfl en_19 (ev1 (hA290.ev rfl)) (Material_ok _ R _ (hS272.sk 5 rfl) hth.mat)) rfl rfl (by decide) ?_
     rintro a291 _ w293 ⟨u296, rfl, hT294⟩ hA292; have hS295 := hS272.callS hT294 rfl; clear hT294 hA290 hS272 a289
     refine st hA292 (op_move rfl (hA292.ev rfl)) rfl rfl (by decide) fun a297 hA298 => ?_; clear hA292 a291
     refine stw hA298 (op_call rfl en_20 (ev1 (hA298.ev rfl)) (Runs_ok _ rs2 _ _ (runs_at (hS295.ok 4 _ rfl)) h9x hth2.segs)) rfl rfl (by decide) ?_
     rintro a299 v304 w301 ⟨lv305, hT302⟩ hA300; have hS303 := hS295.callS hT302 rfl; clear hT302 hA298 hS295 a297
     refine stw hA300 (op_call rfl en_18 (ev2 (hA300.ev rfl) (hA300.ev rfl)) (rates_ok R rs2 lv305 u296 v304 _ (SlAt.of_row (hS303.ok_row 1 rfl)) (runs_at (hS303.ok 0 _ rfl)) (by omega) (by omega) (hps.trans hc))) rfl rfl (by decide) ?_
     rintro a306 _ w308 ⟨u311, rfl, hT309⟩ hA307
     have hS310 : Sep NoB w w308 [(row u311 42 2 R.length (pairs (ratesF R rs2))), (runsR true v304 lv305 rs2), (row u296 42 2 R.length (pairs R)), (row u273 42 2 R.length (pairs (ratesF R rs))), (runsR true v266 lv267 rs), (row u258 42 2 R.length (pairs R)), (runsR false v44 (lv.set kk (vs210 13)) rs2), (blk b4 24 [vr]), (sl vr 2 R.length (pairs R)), (runsR false vu lv rs), (sl vp 3 plan.length (trips plan))] := hS303.callS hT309 rfl; clear hT309 hA300 hS303 a299
     refine st hA307 (op_move rfl (hA307.ev rfl)) rfl rfl (by decide) fun a312 hA313 => ?_; clear hA307 a306
     refine st hA313 (op_extract rfl (hA313.ev rfl) rfl) rfl rfl (by decide) fun a314 hA315 => ?_; clear hA313 a312
     refine st hA315 (op_extract rfl (hA315.ev rfl) rfl) rfl rfl (by decide) fun a316 hA317 => ?_; clear hA315 a314
     refine st hA317 (op_extract rfl (hA317.ev rfl) rfl) rfl rfl (by decide) fun a318 hA319 => ?_; clear hA317 a316
     refine st hA319 (op_assign rfl (hA319.ev rfl)) rfl rfl (by decide) fun a320 hA321 => ?_; clear hA319 a318
     refine st hA321 (op_assign rfl (hA321.ev rfl)) rfl rfl (by decide) fun a322 hA323 => ?_; clear hA321 a320
     refine st hA323 (op_assign rfl (hA323.ev rfl)) rfl rfl (by decide) fun a324 hA325 => ?_; clear hA323 a322
     refine wl_nil ?_
     refine then_n ?_
     refine c_seq ?_
     have hA326 := hA325.as [(25, (Value.int .i64 0)), (24, (Value.int .i64 (((allowedF R rs2).length : Nat) : Int))), (23, u311), (22, (Value.int .i64 0)), (21, (Value.int .i64 (((allowedF R rs).length : Nat) : Int))), (20, u273), (13, v44), (6, (bptr b4 0)), (1, vu), (2, vp)] rfl; clear hA325
     refine c_region ?_
     refine st hA326 (op_loadA rfl ty_24 (hA326.ev rfl) (hS310.bk 7 rfl) (l := [vr]) rfl rfl) rfl rfl (by decide) fun a327 hA328 => ?_; clear hA326 a324
     refine stw hA328 (op_call rfl en_19 (ev1 (hA328.ev rfl)) (Material_ok _ R _ (hS310.sk 8 rfl) hth.mat)) rfl rfl (by decide) ?_
     rintro a329 _ w331 ⟨u334, rfl, hT332⟩ hA330; have hS333 := hS310.callS hT332 rfl; clear hT332 hA328 hS310 a327
     refine st hA330 (op_move rfl (hA330.ev rfl)) rfl rfl (by decide) fun a335 hA336 => ?_; clear hA330 a329
     refine stw hA336 (op_call rfl en_20 (ev1 (hA336.ev rfl)) (Runs_ok _ rs _ _ (runs_at (hS333.ok 10 _ rfl)) h9 hth.segs)) rfl rfl (by decide) ?_
     rintro a337 v342 w339 ⟨lv343, hT340⟩ hA338; have hS341 := hS333.callS hT340 rfl; clear hT340 hA336 hS333 a335
     refine st hA338 (op_move rfl (hA338.ev rfl)) rfl rfl (by decide) fun a344 hA345 => ?_; clear hA338 a337
     refine stw hA345 (op_call rfl en_29 (ev1 (hA345.ev rfl)) (Plan_ok _ plan _ (hS341.sk 12 rfl) (by omega))) rfl rfl (by decide) ?_
     rintro a346 v352 w348 ⟨hE349, hO350⟩ hA347; have hS351 := hS341.new_row hE349 hO350; clear hE349 hO350 hA345 hS341 a344
     refine stw hA347 (op_call rfl en_28 (ev3 (hA347.ev rfl) (hA347.ev rfl) (hA347.ev rfl)) (stretch_fine R rs lv343 u334 v342 _ (SlAt.of_row (hS351.ok_row 2 rfl)) (runs_at (hS351.ok 1 _ rfl)) (by omega) (by omega) plan v352 (SlAt.of_row (hS351.ok_row 0 rfl)) (by omega) hc0)) rfl rfl (by decide) ?_
     rintro a353 _ w355 ⟨rfl, hE356⟩ hA354; have hS357 := hS351.step hE356; clear hE356 hA347 hS351 a346
     refine st hA354 (op_move rfl (hA354.ev rfl)) rfl rfl (by decide) fun a358 hA359 => ?_; clear hA354 a353
     refine st hA359 (op_extract rfl (hA359.ev rfl) rfl) rfl rfl (by decide) fun a360 hA361 => ?_; clear hA359 a358
     refine st hA361 (op_extract rfl (hA361.ev rfl) rfl) rfl rfl (by decide) fun a362 hA363 => ?_; clear hA361 a360
     refine stw hA363 (op_alloc hS357 rfl ze_42 (cs := [(Value.int .i64 0), (Value.int .i64 0)]) rfl) rfl rfl (by decide) ?_
     rintro a364 _ w366 ⟨b367, rfl, hS368⟩ hA365; clear hA363 hS357 a362
     refine sts hA365 (op_store hS368 rfl ty_42 (hA365.ev rfl) (hA365.ev rfl) (i := 0) rfl (vs := [(Value.int .i64 (stLo plan (leastR R rs plan))), (Value.int .i64 (stHi plan (mostR R rs plan)))]) rfl rfl rfl (Nat.le_of_ble_eq_true rfl)) rfl rfl ?_
     intro _ w369 hS370 hA371; clear hA365
     have hS372 : Sep NoB w w369 [(blk b367 42 [(Value.int .i64 (stLo plan (leastR R rs plan))), (Value.int .i64 (stHi plan (mostR R rs plan)))]), (row v352 67 3 plan.length (trips plan)), (runsR true v342 lv343 rs), (row u334 42 2 R.length (pairs R)), (row u311 42 2 R.length (pairs (ratesF R rs2))), (runsR true v304 lv305 rs2), (row u296 42 2 R.length (pairs R)), (row u273 42 2 R.length (pairs (ratesF R rs))), (runsR true v266 lv267 rs), (row u258 42 2 R.length (pairs R)), (runsR false v44 (lv.set kk (vs210 13)) rs2), (blk b4 24 [vr]), (sl vr 2 R.length (pairs R)), (runsR false vu lv rs), (sl vp 3 plan.length (trips plan))] := hS370; clear hS370 hS368
     refine st hA371 (op_assign rfl (hA371.ev rfl)) rfl rfl (by decide) fun a373 hA374 => ?_; clear hA371 a364
     refine wl_nil ?_
     refine then_n ?_
     refine c_seq ?_
     have hA375 := hA374.as [(27, (Value.int .i64 0)), (26, (bptr b367 0)), (25, (Value.int .i64 0)), (24, (Value.int .i64 (((allowedF R rs2).length : Nat) : Int))), (23, u311), (22, (Value.int .i64 0)), (21, (Value.int .i64 (((allowedF R rs).length : Nat) : Int))), (20, u273), (13, v44), (6, (bptr b4 0)), (2, vp)] rfl; clear hA374
     refine c_region ?_
     refine st hA375 (op_loadA rfl ty_24 (hA375.ev rfl) (hS372.bk 11 rfl) (l := [vr]) rfl rfl) rfl rfl (by decide) fun a376 hA377 => ?_; clear hA375 a373
     refine stw hA377 (op_call rfl en_19 (ev1 (hA377.ev rfl)) (Material_ok _ R _ (hS372.sk 12 rfl) hth.mat)) rfl rfl (by decide) ?_
     rintro a378 _ w380 ⟨u383, rfl, hT381⟩ hA379; have hS382 := hS372.callS hT381 rfl; clear hT381 hA377 hS372 a376
     refine st hA379 (op_move rfl (hA379.ev rfl)) rfl rfl (by decide) fun a384 hA385 => ?_; clear hA379 a378
     refine stw hA385 (op_call rfl en_20 (ev1 (hA385.ev rfl)) (Runs_ok _ rs2 _ _ (runs_at (hS382.ok 11 _ rfl)) h9x hth2.segs)) rfl rfl (by decide) ?_
     rintro a386 v391 w388 ⟨lv392, hT389⟩ hA387; have hS390 := hS382.callS hT389 rfl; clear hT389 hA385 hS382 a384
     refine st hA387 (op_move rfl (hA387.ev rfl)) rfl rfl (by decide) fun a393 hA394 => ?_; clear hA387 a386
     refine stw hA394 (op_call rfl en_29 (ev1 (hA394.ev rfl)) (Plan_ok _ plan _ (hS390.sk 16 rfl) (by omega))) rfl rfl (by decide) ?_
     rintro a395 v401 w397 ⟨hE398, hO399⟩ hA396; have hS400 := hS390.new_row hE398 hO399; clear hE398 hO399 hA394 hS390 a393
     refine stw hA396 (op_call rfl en_28 (ev3 (hA396.ev rfl) (hA396.ev rfl) (hA396.ev rfl)) (stretch_fine R rs2 lv392 u383 v391 _ (SlAt.of_row (hS400.ok_row 2 rfl)) (runs_at (hS400.ok 1 _ rfl)) (by omega) (by omega) plan v401 (SlAt.of_row (hS400.ok_row 0 rfl)) (by omega) (hpl2.trans hc0))) rfl rfl (by decide) ?_
     rintro a402 _ w404 ⟨rfl, hE405⟩ hA403; have hS406 := hS400.step hE405; clear hE405 hA396 hS400 a395
     refine st hA403 (op_move rfl (hA403.ev rfl)) rfl rfl (by decide) fun a407 hA408 => ?_; clear hA403 a402
     refine st hA408 (op_extract rfl (hA408.ev rfl) rfl) rfl rfl (by decide) fun a409 hA410 => ?_; clear hA408 a407
     refine st hA410 (op_extract rfl (hA410.ev rfl) rfl) rfl rfl (by decide) fun a411 hA412 => ?_; clear hA410 a409
     refine stw hA412 (op_alloc hS406 rfl ze_42 (cs := [(Value.int .i64 0), (Value.int .i64 0)]) rfl) rfl rfl (by decide) ?_
     rintro a413 _ w415 ⟨b416, rfl, hS417⟩ hA414; clear hA412 hS406 a411
     refine sts hA414 (op_store hS417 rfl ty_42 (hA414.ev rfl) (hA414.ev rfl) (i := 0) rfl (vs := [(Value.int .i64 (stLo plan (leastR R rs2 plan))), (Value.int .i64 (stHi plan (mostR R rs2 plan)))]) rfl rfl rfl (Nat.le_of_ble_eq_true rfl)) rfl rfl ?_
     intro _ w418 hS419 hA420; clear hA414
     have hS421 : Sep NoB w w418 [(blk b416 42 [(Value.int .i64 (stLo plan (leastR R rs2 plan))), (Value.int .i64 (stHi plan (mostR R rs2 plan)))]), (row v401 67 3 plan.length (trips plan)), (runsR true v391 lv392 rs2), (row u383 42 2 R.length (pairs R)), (blk b367 42 [(Value.int .i64 (stLo plan (leastR R rs plan))), (Value.int .i64 (stHi plan (mostR R rs plan)))]), (row v352 67 3 plan.length (trips plan)), (runsR true v342 lv343 rs), (row u334 42 2 R.length (pairs R)), (row u311 42 2 R.length (pairs (ratesF R rs2))), (runsR true v304 lv305 rs2), (row u296 42 2 R.length (pairs R)), (row u273 42 2 R.length (pairs (ratesF R rs))), (runsR true v266 lv267 rs), (row u258 42 2 R.length (pairs R)), (runsR false v44 (lv.set kk (vs210 13)) rs2), (blk b4 24 [vr]), (sl vr 2 R.length (pairs R)), (runsR false vu lv rs), (sl vp 3 plan.length (trips plan))] := hS419; clear hS419 hS417
     refine st hA420 (op_assign rfl (hA420.ev rfl)) rfl rfl (by decide) fun a422 hA423 => ?_; clear hA420 a413
     refine wl_nil ?_
     refine then_n ?_
     refine c_seq ?_
     refine c_seq ?_
     have hA424 := hA423.as [(29, (Value.int .i64 0)), (28, (bptr b416 0)), (27, (Value.int .i64 0)), (26, (bptr b367 0)), (25, (Value.int .i64 0)), (24, (Value.int .i64 (((allowedF R rs2).length : Nat) : Int))), (23, u311), (22, (Value.int .i64 0)), (21, (Value.int .i64 (((allowedF R rs).length : Nat) : Int))), (20, u273)] rfl; clear hA423
     refine c_region ?_
     refine st hA424 (op_move rfl (hA424.ev rfl)) rfl rfl (by decide) fun a425 hA426 => ?_; clear hA424 a422
     refine st hA426 (op_move rfl (hA426.ev rfl)) rfl rfl (by decide) fun a427 hA428 => ?_; clear hA426 a425
     refine st hA428 (op_neq rfl (hA428.ev rfl) (hA428.ev rfl)) rfl rfl (by decide) fun a429 hA430 => ?_; clear hA428 a427
     refine st hA430 (op_move rfl (hA430.ev rfl)) rfl rfl (by decide) fun a431 hA432 => ?_; clear hA430 a429
     refine stg hA432 (op_move rfl (hA432.ev rfl)) rfl rfl rfl rfl (by decide) fun a433 hA434 => ?_; clear hA432 a431
     refine stg hA434 (op_move rfl (hA434.ev rfl)) rfl rfl rfl rfl (by decide) fun a435 hA436 => ?_; clear hA434 a433
     refine stg hA436 (op_neq rfl (hA436.ev rfl) (hA436.ev rfl)) rfl rfl rfl rfl (by decide) fun a437 hA438 => ?_; clear hA436 a435
     refine st hA438 (op_pick_f rfl (hA438.ev rfl) (hA438.ev rfl)) rfl rfl (by decide) fun a439 hA440 => ?_; clear hA438 a437
     refine st hA440 (op_move rfl (hA440.ev rfl)) rfl rfl (by decide) fun a441 hA442 => ?_; clear hA440 a439
     refine stg hA442 (op_move rfl (hA442.ev rfl)) rfl rfl rfl rfl (by decide) fun a443 hA444 => ?_; clear hA442 a441
     refine stg hA444 (op_move rfl (hA444.ev rfl)) rfl rfl rfl rfl (by decide) fun a445 hA446 => ?_; clear hA444 a443
     refine stg hA446 (op_neq rfl (hA446.ev rfl) (hA446.ev rfl)) rfl rfl rfl rfl (by decide) fun a447 hA448 => ?_; clear hA446 a445
     refine st hA448 (op_pick_f rfl (hA448.ev rfl) (hA448.ev rfl)) rfl rfl (by decide) fun a449 hA450 => ?_; clear hA448 a447
     refine st hA450 (op_move rfl (hA450.ev rfl)) rfl rfl (by decide) fun a451 hA452 => ?_; clear hA450 a449
     refine stg hA452 (op_move rfl (hA452.ev rfl)) rfl rfl rfl rfl (by decide) fun a453 hA454 => ?_; clear hA452 a451
     refine stg hA454 (op_move rfl (hA454.ev rfl)) rfl rfl rfl rfl (by decide) fun a455 hA456 => ?_; clear hA454 a453
     refine stg hA456 (op_neq rfl (hA456.ev rfl) (hA456.ev rfl)) rfl rfl rfl rfl (by decide) fun a457 hA458 => ?_; clear hA456 a455
     have hd459 : (((allowedF R rs).length : Nat) : Int) = (((allowedF R rs2).length : Nat) : Int) := (by omega)
     rw [decide_eq_true hd459] at hA458
     refine st hA458 (op_pick_f rfl (hA458.ev rfl) (hA458.ev rfl)) rfl rfl (by decide) fun a460 hA461 => ?_; clear hA458 a457
     refine st hA461 (op_move rfl (hA461.ev rfl)) rfl rfl (by decide) fun a462 hA463 => ?_; clear hA461 a460
     refine stg hA463 (op_loadA rfl ty_42 (hA463.ev rfl) (hS421.bk 4 rfl) (l := [(Value.int .i64 (stLo plan (leastR R rs plan))), (Value.int .i64 (stHi plan (mostR R rs plan)))]) rfl rfl) rfl rfl rfl rfl (by decide) fun a464 hA465 => ?_; clear hA463 a462
     refine stg hA465 (op_loadA rfl ty_42 (hA465.ev rfl) (hS421.bk 0 rfl) (l := [(Value.int .i64 (stLo plan (leastR R rs2 plan))), (Value.int .i64 (stHi plan (mostR R rs2 plan)))]) rfl rfl) rfl rfl rfl rfl (by decide) fun a466 hA467 => ?_; clear hA465 a464
     refine stg hA467 (op_neqP tw_42 rfl (hA467.ev rfl) (hA467.ev rfl)) rfl rfl rfl rfl (by decide) fun a468 hA469 => ?_; clear hA467 a466
     have hd470 : (decide (((stLo plan (leastR R rs plan)) : Int) = (stLo plan (leastR R rs2 plan))) && decide (((stHi plan (mostR R rs plan)) : Int) = (stHi plan (mostR R rs2 plan)))) = true := (by rw [hls, hms]; simp)
     rw [hd470] at hA469
     have hq471 := hd470; simp only [Bool.and_eq_true, Bool.and_eq_false_iff, decide_eq_true_eq, decide_eq_false_iff_not] at hq471
     refine st hA469 (op_pick_f rfl (hA469.ev rfl) (hA469.ev rfl)) rfl rfl (by decide) fun a472 hA473 => ?_; clear hA469 a468
     refine st hA473 (op_move rfl (hA473.ev rfl)) rfl rfl (by decide) fun a474 hA475 => ?_; clear hA473 a472
     refine stg hA475 (op_move rfl (hA475.ev rfl)) rfl rfl rfl rfl (by decide) fun a476 hA477 => ?_; clear hA475 a474
     refine stg hA477 (op_lenS rfl un_28 (hA477.ev rfl) (SlAt.of_row (hS421.ok_row 11 rfl))) rfl rfl rfl rfl (by decide) fun a478 hA479 => ?_; clear hA477 a476
     refine stg hA479 (op_move rfl (hA479.ev rfl)) rfl rfl rfl rfl (by decide) fun a480 hA481 => ?_; clear hA479 a478
     refine stg hA481 (op_lenS rfl un_28 (hA481.ev rfl) (SlAt.of_row (hS421.ok_row 8 rfl))) rfl rfl rfl rfl (by decide) fun a482 hA483 => ?_; clear hA481 a480
     refine stg hA483 (op_neq rfl (hA483.ev rfl) (hA483.ev rfl)) rfl rfl rfl rfl (by decide) fun a484 hA485 => ?_; clear hA483 a482
     have hd486 : (R.length : Int) = (R.length : Int) := rfl
     rw [decide_eq_true hd486] at hA485
     refine st hA485 (op_pick_f rfl (hA485.ev rfl) (hA485.ev rfl)) rfl rfl (by decide) fun a487 hA488 => ?_; clear hA485 a484
     refine wl_nil ?_
     refine then_n ?_
     refine c_false hA488 rfl ?_
     refine c_skip ?_
     refine then_n ?_
     refine c_seq ?_
     refine c_seq ?_
     have hA489 := hA488.as [(23, u311), (20, u273)] rfl; clear hA488
     refine c_region ?_
     refine st hA489 (op_assign rfl (evc _ _)) rfl rfl (by decide) fun a490 hA491 => ?_; clear hA489 a487
     refine wl_nil ?_
     refine then_n ?_
     refine c_block ?_
     have hA492 := hA491.as [(30, (Value.int .i64 0)), (23, u311), (20, u273)] rfl; clear hA491
     refine c_loop (G := Nat) (fun (k : Nat) a_ w_ => Fr 241 [] [(30, (Value.int .i64 (k : Int))), (23, u311), (20, u273)] a_ ∧ Sep NoB w w_ [(blk b416 42 [(Value.int .i64 (stLo plan (leastR R rs2 plan))), (Value.int .i64 (stHi plan (mostR R rs2 plan)))]), (row v401 67 3 plan.length (trips plan)), (runsR true v391 lv392 rs2), (row u383 42 2 R.length (pairs R)), (blk b367 42 [(Value.int .i64 (stLo plan (leastR R rs plan))), (Value.int .i64 (stHi plan (mostR R rs plan)))]), (row v352 67 3 plan.length (trips plan)), (runsR true v342 lv343 rs), (row u334 42 2 R.length (pairs R)), (row u311 42 2 R.length (pairs (ratesF R rs2))), (runsR true v304 lv305 rs2), (row u296 42 2 R.length (pairs R)), (row u273 42 2 R.length (pairs (ratesF R rs))), (runsR true v266 lv267 rs), (row u258 42 2 R.length (pairs R)), (runsR false v44 (lv.set kk (vs210 13)) rs2), (blk b4 24 [vr]), (sl vr 2 R.length (pairs R)), (runsR false vu lv rs), (sl vp 3 plan.length (trips plan))] ∧ (k ≤ R.length)) (fun k => R.length - k) 0 ⟨hA492.as _ rfl, hS421, by omega⟩ ?_
     clear hA492 hS421 a490
     rintro k a493 w495 ⟨hA494, hS496, hk⟩
     refine c_seq ?_
     refine c_seq ?_
     refine c_region ?_
     refine st hA494 (op_move rfl (hA494.ev rfl)) rfl rfl (by decide) fun a497 hA498 => ?_; clear hA494 a493
     refine st hA498 (op_move rfl (hA498.ev rfl)) rfl rfl (by decide) fun a499 hA500 => ?_; clear hA498 a497
     refine st hA500 (op_lenS rfl un_28 (hA500.ev rfl) (SlAt.of_row (hS496.ok_row 11 rfl))) rfl rfl (by decide) fun a501 hA502 => ?_; clear hA500 a499
     refine st hA502 (op_lss rfl (hA502.ev rfl) (hA502.ev rfl)) rfl rfl (by decide) fun a503 hA504 => ?_; clear hA502 a501
     refine wl_nil ?_
     refine then_n ?_
     by_cases hb505 : (k : Int) < (R.length : Int)
     ·skip
      rw [decide_eq_true hb505] at hA504
      refine c_true hA504 rfl ?_
      refine c_skip ?_
      refine then_n ?_
      refine c_seq ?_
      refine c_block ?_
      refine c_seq ?_
      have hA506 := hA504.as [(30, (Value.int .i64 (k : Int))), (23, u311), (20, u273)] rfl; clear hA504
      refine c_drawn mixed hA506 hS496 8 [[], [], [0, 1], [2], [], [], [4, 5], [6]] [(Yd.val u273), (Yd.val (Value.int .i64 (k : Int))), (Yd.val (eptr u273 (k * 2))), (Yd.val (Value.agg #[(Value.int .i64 (((ratesF R rs).getD k (0, 0)).1)), (Value.int .i64 (((ratesF R rs).getD k (0, 0)).2))])), (Yd.val u311), (Yd.val (Value.int .i64 (k : Int))), (Yd.val (eptr u311 (k * 2))), (Yd.val (Value.agg #[(Value.int .i64 (((ratesF R rs2).getD k (0, 0)).1)), (Value.int .i64 (((ratesF R rs2).getD k (0, 0)).2))]))] (by decide +kernel) rfl rfl ?_ ?_
      ·skip
       refine ⟨fun a w hA hS hd => by exact opG_of rfl (dv (op_move rfl (hA.ev rfl)) hS rfl), ?_⟩
       refine ⟨fun a w hA hS hd => by exact opG_of rfl (dv (op_move rfl (hA.ev rfl)) hS rfl), ?_⟩
       refine ⟨fun a w hA hS hd => by have e0 := has_ev (hd 0 (by decide)) rfl (fun _ h => h); have e1 := has_ev (hd 1 (by decide)) rfl (fun _ h => h); exact opG_of rfl (dv (op_indexS rfl un_28 ty_42 (tmp_ev e0) (i := k) (tmp_ev e1) (SlAt.of_row (hS.ok_row 11 rfl)) (by decide) (by omega)) hS rfl), ?_⟩
       refine ⟨fun a w hA hS hd => by have e2 := has_ev (hd 2 (by decide)) rfl (fun _ h => h); exact opG_of rfl (dv (op_loadAE rfl ty_42 (tmp_ev e2) (SlAt.of_row (hS.ok_row 11 rfl)) (pairs_all (by omega)) rfl (by decide)) hS rfl), ?_⟩
       refine ⟨fun a w hA hS hd => by exact opG_of rfl (dv (op_move rfl (hA.ev rfl)) hS rfl), ?_⟩
       refine ⟨fun a w hA hS hd => by exact opG_of rfl (dv (op_move rfl (hA.ev rfl)) hS rfl), ?_⟩
       refine ⟨fun a w hA hS hd => by have e4 := has_ev (hd 4 (by decide)) rfl (fun _ h => h); have e5 := has_ev (hd 5 (by decide)) rfl (fun _ h => h); exact opG_of rfl (dv (op_indexS rfl un_28 ty_42 (tmp_ev e4) (i := k) (tmp_ev e5) (SlAt.of_row (hS.ok_row 8 rfl)) (by decide) (by omega)) hS rfl), ?_⟩
       refine ⟨fun a w hA hS hd => by have e6 := has_ev (hd 6 (by decide)) rfl (fun _ h => h); exact opG_of rfl (dv (op_loadAE rfl ty_42 (tmp_ev e6) (SlAt.of_row (hS.ok_row 8 rfl)) (pairs_all (by omega)) rfl (by decide)) hS rfl), ?_⟩
       trivial
      intro a508 w509 hA510 hS511 hH512; clear hA506 hS496
      have hA513 := hA510.add (has_ev (hH512 3 (by decide)) rfl (fun _ h => h)); clear hA510
      have hA514 := hA513.add (has_ev (hH512 7 (by decide)) rfl (fun _ h => h)); clear hA513
      clear hH512
      refine st hA514 (op_neqP tw_42 rfl (hA514.ev rfl) (hA514.ev rfl)) rfl rfl (by decide) fun a515 hA516 => ?_; clear hA514 a508
      have hd517 : (decide (((((ratesF R rs).getD k (0, 0)).1) : Int) = (((ratesF R rs2).getD k (0, 0)).1)) && decide (((((ratesF R rs).getD k (0, 0)).2) : Int) = (((ratesF R rs2).getD k (0, 0)).2))) = true := (by rw [hrte]; simp)
      rw [hd517] at hA516
      have hq518 := hd517; simp only [Bool.and_eq_true, Bool.and_eq_false_iff, decide_eq_true_eq, decide_eq_false_iff_not] at hq518
      refine wl_nil ?_
      refine then_n ?_
      refine c_false hA516 rfl ?_
      refine c_skip ?_
      refine blk_n ?_
      refine then_n ?_
      refine c_region ?_
      refine st hA516 (op_move rfl (hA516.ev rfl)) rfl rfl (by decide) fun a519 hA520 => ?_; clear hA516 a515
      refine st hA520 (op_add rfl (hA520.ev rfl) (evc _ _) (by omega) (by omega)) rfl rfl (by decide) fun a521 hA522 => ?_; clear hA520 a519
      refine st hA522 (op_assign rfl (hA522.ev rfl)) rfl rfl (by decide) fun a523 hA524 => ?_; clear hA522 a521
      refine wl_nil ?_
      exact then_n ⟨k + 1, ⟨hA524.as _ rfl, hS511, by omega⟩, by omega⟩
     ·skip
      rw [decide_eq_false hb505] at hA504
      refine c_false hA504 rfl ?_
      refine c_exit ?_
      refine then_exit ?_
      refine then_exit ?_
      refine blk_hit ?_
      refine then_n ?_
      refine c_seq ?_
      have hA525 := hA504.as [] rfl; clear hA504
      refine c_region ?_
      refine stw hA525 (op_call rfl en_17 ev0 (awake_ok _)) rfl rfl (by decide) ?_
      rintro a526 _ w528 ⟨rfl, hE529⟩ hA527; have hS530 := hS496.step hE529; clear hE529 hA525 hS496 a503
      refine st hA527 (op_assign rfl (hA527.ev rfl)) rfl rfl (by decide) fun a531 hA532 => ?_; clear hA527 a526
      refine wl_nil ?_
      refine then_n ?_
      refine c_ret ?_
      refine fin_run hA532 (.inl rfl) (run_results1 hA532 rfl (.tmp rfl)) ?_
      exact ⟨rfl, hS530.ext⟩
    ·skip
     rw [hb250] at hA249
     refine c_true hA249 rfl ?_
     refine c_seq ?_
     have hA533 := hA249.as [] rfl; clear hA249
     refine c_region ?_
     refine stw hA533 (op_call rfl en_17 ev0 (awake_ok _)) rfl rfl (by decide) ?_
     rintro a534 _ w536 ⟨rfl, hE537⟩ hA535; have hS538 := hS247.step hE537; clear hE537 hA533 hS247 a248
     refine st hA535 (op_assign rfl (hA535.ev rfl)) rfl rfl (by decide) fun a539 hA540 => ?_; clear hA535 a534
     refine wl_nil ?_
     refine then_n ?_
     refine c_ret ?_
     refine then_ret ?_
     refine fin_run hA540 (.inl rfl) (run_results1 hA540 rfl (.tmp rfl)) ?_
     exact ⟨rfl, hS538.ext⟩
 ·skip
  rw [decide_eq_false hb106] at hA105
  refine c_false hA105 rfl ?_
  refine c_skip ?_
  refine then_n ?_
  refine c_seq ?_
  have hA541 := hA105.as [(17, (bptr b93 0)), (16, (Value.int .i64 0)), (15, (lv.getD kk nilS)), (14, (Value.int .i64 (kk : Int))), (13, v44), (6, (bptr b4 0)), (1, vu), (2, vp)] rfl; clear hA105
  refine c_drawCC mixed hA541 hS98 14 [(6, 2), (9, 6), (13, 9)] [[], [], [], [], [], [3, 4], [2, 5], [], [7], [6, 8], [], [], [10, 11], [9, 12]] [(fun (vs542 : Nat → Value) (v_ : Value) (rs_ : List Res) => v_ = v44 ∧ rs_ = []), (fun (vs542 : Nat → Value) (v_ : Value) (rs_ : List Res) => v_ = (Value.int .i64 (kk : Int)) ∧ rs_ = []), (fun (vs542 : Nat → Value) (v_ : Value) (rs_ : List Res) => ∃ (b2_ : Nat), v_ = (Value.slice (some ⟨b2_, 0, none⟩) 0 0) ∧ rs_ = [(blk b2_ 56 [])]), (fun (vs542 : Nat → Value) (v_ : Value) (rs_ : List Res) => v_ = (lv.getD kk nilS) ∧ rs_ = []), (fun (vs542 : Nat → Value) (v_ : Value) (rs_ : List Res) => v_ = (Value.int .i64 0) ∧ rs_ = []), (fun (vs542 : Nat → Value) (v_ : Value) (rs_ : List Res) => v_ = (slcut (lv.getD kk nilS) 0 0 3) ∧ rs_ = []), (fun (vs542 : Nat → Value) (v_ : Value) (rs_ : List Res) => True ∧ rs_ = [(row v_ 56 3 ((((rs.getD kk run0).segs).take 0).length) (trips (((rs.getD kk run0).segs).take 0)))]), (fun (vs542 : Nat → Value) (v_ : Value) (rs_ : List Res) => v_ = (Value.agg #[(Value.int .i64 ((ta).tmod (R.length : Int))), (Value.int .i64 0), (Value.int .i64 0)]) ∧ rs_ = []), (fun (vs542 : Nat → Value) (v_ : Value) (rs_ : List Res) => True ∧ rs_ = [(row v_ 56 3 1 [(Value.int .i64 ((ta).tmod (R.length : Int))), (Value.int .i64 0), (Value.int .i64 0)])]), (fun (vs542 : Nat → Value) (v_ : Value) (rs_ : List Res) => True ∧ rs_ = [(row v_ 56 3 (((((rs.getD kk run0).segs).take 0) ++ [(((ta).tmod (R.length : Int), 0, 0) : Seg)]).length) (trips ((((rs.getD kk run0).segs).take 0) ++ [(((ta).tmod (R.length : Int), 0, 0) : Seg)])))]), (fun (vs542 : Nat → Value) (v_ : Value) (rs_ : List Res) => v_ = (lv.getD kk nilS) ∧ rs_ = []), (fun (vs542 : Nat → Value) (v_ : Value) (rs_ : List Res) => v_ = (Value.int .i64 0) ∧ rs_ = []), (fun (vs542 : Nat → Value) (v_ : Value) (rs_ : List Res) => v_ = (slcut (lv.getD kk nilS) 0 ((rs.getD kk run0).segs.length) 3) ∧ rs_ = []), (fun (vs542 : Nat → Value) (v_ : Value) (rs_ : List Res) => True ∧ rs_ = [(row v_ 56 3 ((((((rs.getD kk run0).segs).take 0) ++ [(((ta).tmod (R.length : Int), 0, 0) : Seg)]) ++ (((rs.getD kk run0).segs).drop 0)).length) (trips (((((rs.getD kk run0).segs).take 0) ++ [(((ta).tmod (R.length : Int), 0, 0) : Seg)]) ++ (((rs.getD kk run0).segs).drop 0))))])] (by decide +kernel) (by decide +kernel) (by decide +kernel) (by decide +kernel) rfl rfl ⟨(fun _ _ _ _ _ h_ => h_), (fun _ _ _ _ _ h_ => h_), (fun _ _ _ _ _ h_ => h_), (fun _ _ _ _ _ h_ => h_), (fun _ _ _ _ _ h_ => h_), (fun _ _ _ _ _ h_ => h_), (fun _ _ _ _ _ h_ => h_), (fun _ _ _ _ _ h_ => h_), (fun _ _ _ _ _ h_ => h_), (fun _ _ _ _ _ h_ => h_), (fun _ _ _ _ _ h_ => h_), (fun _ _ _ _ _ h_ => h_), (fun _ _ _ _ _ h_ => h_), (fun _ _ _ _ _ h_ => h_), trivial⟩ (by decide +kernel) ?_ ?_ ?_
  ·skip
   refine ⟨fun hj_ a w vs542 hA hS hd => ?_, ?_⟩
   ·skip
    exact opG_of rfl (vv (op_move rfl (hA.ev rfl)) (And.intro rfl rfl))
   refine ⟨fun hj_ a w vs542 hA hS hd => ?_, ?_⟩
   ·skip
    exact opG_of rfl (vv (op_move rfl (hA.ev rfl)) (And.intro rfl rfl))
   refine ⟨fun hj_ a w vs542 hA hS hd => ?_, ?_⟩
   ·skip
    exact opG_of rfl (vblz rfl pv0 un_51 ty_56 ze_56 bs_56_0_ (fun b_ => ⟨b_, rfl, rfl⟩))
   refine ⟨fun hj_ a w vs542 hA hS hd => ?_, ?_⟩
   ·skip
    exact opG_of rfl (vv (op_move rfl (hA.ev rfl)) (And.intro rfl rfl))
   refine ⟨fun hj_ a w vs542 hA hS hd => ?_, ?_⟩
   ·skip
    exact opG_of rfl (vv (op_move rfl (hA.ev rfl)) (And.intro rfl rfl))
   refine ⟨fun hj_ a w vs542 hA hS hd => ?_, ?_⟩
   ·skip
    obtain ⟨e3, rs3, hy3, hp3⟩ := hd 3 (by decide)
    obtain ⟨hv3, hr3⟩ := hy3; subst hr3
    rw [hv3] at e3
    obtain ⟨e4, rs4, hy4, hp4⟩ := hd 4 (by decide)
    obtain ⟨hv4, hr4⟩ := hy4; subst hr4
    rw [hv4] at e4
    exact opG_of rfl (vv (op_sliceHi rfl un_51 ty_56 (tmp_ev (slot_ev e3 rfl)) (h := 0) (show _ = Value.int .i64 ((0 : Nat) : Int) from (tmp_ev (slot_ev e4 rfl))) ((runs_at (hS.ok 4 _ rfl)).segs kk (by omega)) (by omega)) (And.intro rfl rfl))
   refine ⟨fun hj_ => absurd hj_ (by decide), ?_⟩
   refine ⟨fun hj_ a w vs542 hA hS hd => ?_, ?_⟩
   ·skip
    exact opG_of rfl (vv (op_loadA rfl ty_56 (hA.ev rfl) (hS.bk 0 rfl) (l := [(Value.int .i64 ((ta).tmod (R.length : Int))), (Value.int .i64 0), (Value.int .i64 0)]) rfl rfl) (And.intro rfl rfl))
   refine ⟨fun hj_ a w vs542 hA hS hd => ?_, ?_⟩
   ·skip
    obtain ⟨e7, rs7, hy7, hp7⟩ := hd 7 (by decide)
    obtain ⟨hv7, hr7⟩ := hy7; subst hr7
    rw [hv7] at e7
    exact opG_of rfl (vblt rfl (pv1 (tmp_ev (slot_ev e7 rfl))) un_51 ty_56 ze_56 (by decide) (cs := [(Value.int .i64 ((ta).tmod (R.length : Int))), (Value.int .i64 0), (Value.int .i64 0)]) (bs_56_1_0iiia _ _ _) rfl (by decide) (fun _ => And.intro trivial rfl))
   refine ⟨fun hj_ => absurd hj_ (by decide), ?_⟩
   refine ⟨fun hj_ a w vs542 hA hS hd => ?_, ?_⟩
   ·skip
    exact opG_of rfl (vv (op_move rfl (hA.ev rfl)) (And.intro rfl rfl))
   refine ⟨fun hj_ a w vs542 hA hS hd => ?_, ?_⟩
   ·skip
    exact opG_of rfl (vv (op_move rfl (hA.ev rfl)) (And.intro rfl rfl))
   refine ⟨fun hj_ a w vs542 hA hS hd => ?_, ?_⟩
   ·skip
    obtain ⟨e10, rs10, hy10, hp10⟩ := hd 10 (by decide)
    obtain ⟨hv10, hr10⟩ := hy10; subst hr10
    rw [hv10] at e10
    obtain ⟨e11, rs11, hy11, hp11⟩ := hd 11 (by decide)
    obtain ⟨hv11, hr11⟩ := hy11; subst hr11
    rw [hv11] at e11
    exact opG_of rfl (vv (op_sliceLo rfl un_51 ty_56 (tmp_ev (slot_ev e10 rfl)) (l := 0) (show _ = Value.int .i64 ((0 : Nat) : Int) from (tmp_ev (slot_ev e11 rfl))) ((runs_at (hS.ok 4 _ rfl)).segs kk (by omega)) (by omega)) (And.intro rfl rfl))
   refine ⟨fun hj_ => absurd hj_ (by decide), ?_⟩
   trivial
  ·skip
   refine ⟨fun o_ ho_ => ?_, ?_⟩
   ·skip
    obtain rfl := Option.some.inj ho_; clear ho_
    intro a w vs542 rs0 Lr hA hs0 hy0 hd hL hS
    obtain ⟨b2_, hv2, hr2⟩ := hy0; subst hr2
    rw [hv2] at hs0
    replace hS := hS.blk_row (i := 0) (sz := 3) (n := 0) rfl rfl (by decide)
    obtain ⟨e5, rs5, hy5, hp5⟩ := hd 5 (by decide) (by decide)
    obtain ⟨hv5, hr5⟩ := hy5; subst hr5
    rw [hv5] at e5
    exact opG_of rfl (opY_mono (op_append hS rfl un_51 el_56 (tmp_ev (slot_ev hs0 rfl)) (tmp_ev (slot_ev e5 rfl)) (i := 0) rfl (SlAt.say (n' := (((rs.getD kk run0).segs).take 0).length) (cs' := (trips (((rs.getD kk run0).segs).take 0))) (SlAt.cut ((runs_at (hL.ok 4 _ rfl)).segs kk (by omega)) (Nat.zero_le _) (by omega)) (by simp only [List.length_take]; omega) (trips_cutHi _ _)) (trips_one _) (by simp only [maxLen, replAt, List.length_take, List.length_drop, List.length_append, List.length_cons, List.length_nil]; omega) (by first | omega | (simp only [maxLen, replAt, List.length_take, List.length_drop, List.length_append, List.length_cons, List.length_nil]; omega))) fun v_ w_ h_ => ⟨_, And.intro trivial rfl, h_.row_say (i := 0) rfl (n' := (((rs.getD kk run0).segs).take 0).length) (xs' := (trips (((rs.getD kk run0).segs).take 0))) (by simp) (by simp)⟩)
   refine ⟨fun o_ ho_ => ?_, ?_⟩
   ·skip
    obtain rfl := Option.some.inj ho_; clear ho_
    intro a w vs542 rs0 Lr hA hs0 hy0 hd hL hS
    obtain ⟨hv6, hr6⟩ := hy0; subst hr6
    obtain ⟨e8, rs8, hy8, hp8⟩ := hd 8 (by decide) (by decide)
    obtain ⟨hv8, hr8⟩ := hy8; subst hr8
    have hp8_0 := hp8 _ (List.mem_of_getElem? (i := 0) rfl)
    exact opG_of rfl (opY_mono (op_append hS rfl un_51 el_56 (tmp_ev (slot_ev hs0 rfl)) (tmp_ev (slot_ev e8 rfl)) (i := 0) rfl (SlAt.of_row hp8_0) rfl (by simp only [maxLen, replAt, List.length_take, List.length_drop, List.length_append, List.length_cons, List.length_nil]; omega) (by first | omega | (simp only [maxLen, replAt, List.length_take, List.length_drop, List.length_append, List.length_cons, List.length_nil]; omega))) fun v_ w_ h_ => ⟨_, And.intro trivial rfl, h_.row_say (i := 0) rfl (n' := ((((rs.getD kk run0).segs).take 0) ++ [(((ta).tmod (R.length : Int), 0, 0) : Seg)]).length) (xs' := (trips ((((rs.getD kk run0).segs).take 0) ++ [(((ta).tmod (R.length : Int), 0, 0) : Seg)]))) (by first | exact List.length_append.symm | simp) (by first | exact (trips_append _ _).symm | simp [trips])⟩)
   refine ⟨fun o_ ho_ => ?_, ?_⟩
   ·skip
    obtain rfl := Option.some.inj ho_; clear ho_
    intro a w vs542 rs0 Lr hA hs0 hy0 hd hL hS
    obtain ⟨hv9, hr9⟩ := hy0; subst hr9
    obtain ⟨e12, rs12, hy12, hp12⟩ := hd 12 (by decide) (by decide)
    obtain ⟨hv12, hr12⟩ := hy12; subst hr12
    rw [hv12] at e12
    exact opG_of rfl (opY_mono (op_append hS rfl un_51 el_56 (tmp_ev (slot_ev hs0 rfl)) (tmp_ev (slot_ev e12 rfl)) (i := 0) rfl (SlAt.say (n' := (((rs.getD kk run0).segs).drop 0).length) (cs' := (trips (((rs.getD kk run0).segs).drop 0))) (SlAt.cut ((runs_at (hL.ok 4 _ rfl)).segs kk (by omega)) (by omega) (Nat.le_refl _)) (by simp only [List.length_drop]) (trips_cutLo _ _)) (trips_one _) (by simp only [maxLen, replAt, List.length_take, List.length_drop, List.length_append, List.length_cons, List.length_nil]; omega) (by first | omega | (simp only [maxLen, replAt, List.length_take, List.length_drop, List.length_append, List.length_cons, List.length_nil]; omega))) fun v_ w_ h_ => ⟨_, And.intro trivial rfl, h_.row_say (i := 0) rfl (n' := (((((rs.getD kk run0).segs).take 0) ++ [(((ta).tmod (R.length : Int), 0, 0) : Seg)]) ++ (((rs.getD kk run0).segs).drop 0)).length) (xs' := (trips (((((rs.getD kk run0).segs).take 0) ++ [(((ta).tmod (R.length : Int), 0, 0) : Seg)]) ++ (((rs.getD kk run0).segs).drop 0)))) (by first | exact List.length_append.symm | simp) (by first | exact (trips_append _ _).symm | simp [trips])⟩)
   trivial
  ·skip
   intro a543 w544 vs542 rsf548 hA545 hH547 hrq hS546; clear hA541 hS98
   have hrq_2 := hrq (6, 2) (by decide)
   have hrq_6 := hrq (9, 6) (by decide)
   have hrq_9 := hrq (13, 9) (by decide)
   obtain ⟨hs_0, hy_0⟩ := hH547 0 (by decide) (by decide)
   obtain ⟨hv_0, hr_0⟩ := hy_0
   obtain ⟨hs_1, hy_1⟩ := hH547 1 (by decide) (by decide)
   obtain ⟨hv_1, hr_1⟩ := hy_1
   obtain ⟨hs_3, hy_3⟩ := hH547 3 (by decide) (by decide)
   obtain ⟨hv_3, hr_3⟩ := hy_3
   obtain ⟨hs_4, hy_4⟩ := hH547 4 (by decide) (by decide)
   obtain ⟨hv_4, hr_4⟩ := hy_4
   obtain ⟨hs_5, hy_5⟩ := hH547 5 (by decide) (by decide)
   obtain ⟨hv_5, hr_5⟩ := hy_5
   obtain ⟨hs_7, hy_7⟩ := hH547 7 (by decide) (by decide)
   obtain ⟨hv_7, hr_7⟩ := hy_7
   obtain ⟨hs_8, hy_8⟩ := hH547 8 (by decide) (by decide)
   obtain ⟨hv_8, hr_8⟩ := hy_8
   obtain ⟨hs_10, hy_10⟩ := hH547 10 (by decide) (by decide)
   obtain ⟨hv_10, hr_10⟩ := hy_10
   obtain ⟨hs_11, hy_11⟩ := hH547 11 (by decide) (by decide)
   obtain ⟨hv_11, hr_11⟩ := hy_11
   obtain ⟨hs_12, hy_12⟩ := hH547 12 (by decide) (by decide)
   obtain ⟨hv_12, hr_12⟩ := hy_12
   obtain ⟨hs_13, hy_13⟩ := hH547 13 (by decide) (by decide)
   obtain ⟨hv_13, hr_13⟩ := hy_13
   have hS549 : Sep NoB w w544 [(row (vs542 8) 56 3 1 [(Value.int .i64 ((ta).tmod (R.length : Int))), (Value.int .i64 0), (Value.int .i64 0)]), (row (vs542 13) 56 3 ((((((rs.getD kk run0).segs).take 0) ++ [(((ta).tmod (R.length : Int), 0, 0) : Seg)]) ++ (((rs.getD kk run0).segs).drop 0)).length) (trips (((((rs.getD kk run0).segs).take 0) ++ [(((ta).tmod (R.length : Int), 0, 0) : Seg)]) ++ (((rs.getD kk run0).segs).drop 0)))), (blk b93 56 [(Value.int .i64 ((ta).tmod (R.length : Int))), (Value.int .i64 0), (Value.int .i64 0)]), (row v44 54 3 rs.length (vtrips (runV lv rs))), (blk b4 24 [vr]), (sl vr 2 R.length (pairs R)), (runsR false vu lv rs), (sl vp 3 plan.length (trips plan))] := by rw [show catR rsf548 0 14 = ([(row (vs542 8) 56 3 1 [(Value.int .i64 ((ta).tmod (R.length : Int))), (Value.int .i64 0), (Value.int .i64 0)]), (row (vs542 13) 56 3 ((((((rs.getD kk run0).segs).take 0) ++ [(((ta).tmod (R.length : Int), 0, 0) : Seg)]) ++ (((rs.getD kk run0).segs).drop 0)).length) (trips (((((rs.getD kk run0).segs).take 0) ++ [(((ta).tmod (R.length : Int), 0, 0) : Seg)]) ++ (((rs.getD kk run0).segs).drop 0))))] : List Res) by (try simp only [catR, hr_0, hr_1, hr_3, hr_4, hr_5, hr_7, hr_8, hr_10, hr_11, hr_12, hr_13, hrq_2, hrq_6, hrq_9]); (try rfl)] at hS546; exact hS546
   rw [hv_0] at hs_0
   have hA550 : Fr 241 [] [(135, v44), (17, (bptr b93 0)), (16, (Value.int .i64 0)), (15, (lv.getD kk nilS)), (14, (Value.int .i64 (kk : Int))), (13, v44), (6, (bptr b4 0)), (1, vu), (2, vp)] a543 := hA545.add (slot_ev hs_0 rfl); clear hA545
   rw [hv_1] at hs_1
   have hA551 : Fr 241 [] [(136, (Value.int .i64 (kk : Int))), (135, v44), (17, (bptr b93 0)), (16, (Value.int .i64 0)), (15, (lv.getD kk nilS)), (14, (Value.int .i64 (kk : Int))), (13, v44), (6, (bptr b4 0)), (1, vu), (2, vp)] a543 := hA550.add (slot_ev hs_1 rfl); clear hA550
   have hA552 : Fr 241 [] [(148, (vs542 13)), (136, (Value.int .i64 (kk : Int))), (135, v44), (17, (bptr b93 0)), (16, (Value.int .i64 0)), (15, (lv.getD kk nilS)), (14, (Value.int .i64 (kk : Int))), (13, v44), (6, (bptr b4 0)), (1, vu), (2, vp)] a543 := hA551.add (slot_ev hs_13 rfl); clear hA551
   clear hH547 hS546 hs_0 hs_1 hs_3 hs_4 hs_5 hs_7 hs_8 hs_10 hs_11 hs_12 hs_13 hrq hrq_2 hrq_6 hrq_9
   clear hr_0
   clear hv_0
   clear hr_1
   clear hv_1
   clear hr_3
   clear hv_3
   clear hr_4
   clear hv_4
   clear hr_5
   clear hv_5
   clear hr_7
   clear hv_7
   clear hr_8
   clear hv_8
   clear hr_10
   clear hv_10
   clear hr_11
   clear hv_11
   clear hr_12
   clear hv_12
   clear hr_13
   clear hv_13
   refine st hA552 (op_indexS rfl un_25 ty_54 (hA552.ev rfl) (i := kk) (hA552.ev rfl) (SlAt.of_row (hS549.ok_row 3 rfl)) (by decide) (by omega)) rfl rfl (by decide) fun a553 hA554 => ?_; clear hA552 a543
   refine st hA554 (op_fieldS rfl fd_54_0 (hA554.ev rfl) (SlAt.of_row (hS549.ok_row 3 rfl)) (by rw [((SlAt.of_row (hS549.ok_row 3 rfl))).1]; omega)) rfl rfl (by decide) fun a555 hA556 => ?_; clear hA554 a553
   refine sts hA556 (op_storeE hS549 rfl ty_51 (hA556.ev rfl) (hA556.ev rfl) (i := 3) rfl (vs := [(vs542 13)]) (isSl_cells (SlAt.isSl (SlAt.of_row (hS549.ok_row 1 rfl)))) rfl (all_c (SlAt.one (SlAt.of_row (hS549.ok_row 1 rfl))) all_n) (by rw [vtrips_length, runV_len hx.len]; first | omega | (simp only [List.length_cons, List.length_nil]; omega)) (by decide)) rfl rfl ?_
   intro _ w557 hS558 hA560; have hS559 := hS558.row_say (i := 3) rfl (n' := (rs.set kk (⟨(((((rs.getD kk run0).segs).take 0) ++ [(((ta).tmod (R.length : Int), 0, 0) : Seg)]) ++ (((rs.getD kk run0).segs).drop 0)), (rs.getD kk run0).lo, (rs.getD kk run0).hi⟩ : RunD)).length) (xs' := (vtrips (runV (lv.set kk (vs542 13)) (rs.set kk (⟨(((((rs.getD kk run0).segs).take 0) ++ [(((ta).tmod (R.length : Int), 0, 0) : Seg)]) ++ (((rs.getD kk run0).segs).drop 0)), (rs.getD kk run0).lo, (rs.getD kk run0).hi⟩ : RunD))))) (by simp only [List.length_set]) (runs_set0 (runs_at (hS549.ok 6 _ rfl)).len (by omega) _ _); clear hS558 hA556 hS549
   refine wl_nil ?_
   refine then_n ?_
   refine c_seq ?_
   refine c_seq ?_
   have hA561 := hA560.as [(13, v44), (6, (bptr b4 0)), (1, vu), (2, vp)] rfl; clear hA560
   have hS562 := hS559.row_say (i := 3) rfl (n' := (rs.set kk (⟨(putAt (rs.getD kk run0).segs 0 (ta.tmod (R.length : Int), 0, 0)), (rs.getD kk run0).lo, (rs.getD kk run0).hi⟩ : RunD)).length) (xs' := (vtrips (runV (lv.set kk (vs542 13)) (rs.set kk (⟨(putAt (rs.getD kk run0).segs 0 (ta.tmod (R.length : Int), 0, 0)), (rs.getD kk run0).lo, (rs.getD kk run0).hi⟩ : RunD))))) rfl rfl; clear hS559
   have hS563 := (hS562.row_say (i := 1) rfl (n' := (⟨(putAt (rs.getD kk run0).segs 0 (ta.tmod (R.length : Int), 0, 0)), (rs.getD kk run0).lo, (rs.getD kk run0).hi⟩ : RunD).segs.length) (xs' := trips (⟨(putAt (rs.getD kk run0).segs 0 (ta.tmod (R.length : Int), 0, 0)), (rs.getD kk run0).lo, (rs.getD kk run0).hi⟩ : RunD).segs) rfl rfl).row_sl (i := 1) rfl; clear hS562
   have hS564 := hS563.segs_set (x := (⟨(putAt (rs.getD kk run0).segs 0 (ta.tmod (R.length : Int), 0, 0)), (rs.getD kk run0).lo, (rs.getD kk run0).hi⟩ : RunD)) (i := 6) (j := 1) rfl rfl hb_kk; clear hS563
   have hS565 : Sep NoB w w557 [(row v44 54 3 ((rs.set kk (⟨(putAt (rs.getD kk run0).segs 0 (ta.tmod (R.length : Int), 0, 0)), (rs.getD kk run0).lo, (rs.getD kk run0).hi⟩ : RunD)).length) (vtrips (runV (lv.set kk (vs542 13)) (rs.set kk (⟨(putAt (rs.getD kk run0).segs 0 (ta.tmod (R.length : Int), 0, 0)), (rs.getD kk run0).lo, (rs.getD kk run0).hi⟩ : RunD))))), (segsR false (lv.set kk (vs542 13)) (rs.set kk (⟨(putAt (rs.getD kk run0).segs 0 (ta.tmod (R.length : Int), 0, 0)), (rs.getD kk run0).lo, (rs.getD kk run0).hi⟩ : RunD))), (row (vs542 8) 56 3 1 [(Value.int .i64 ((ta).tmod (R.length : Int))), (Value.int .i64 0), (Value.int .i64 0)]), (sl (vs542 13) 3 ((⟨(putAt (rs.getD kk run0).segs 0 (ta.tmod (R.length : Int), 0, 0)), (rs.getD kk run0).lo, (rs.getD kk run0).hi⟩ : RunD).segs.length) (trips ((⟨(putAt (rs.getD kk run0).segs 0 (ta.tmod (R.length : Int), 0, 0)), (rs.getD kk run0).lo, (rs.getD kk run0).hi⟩ : RunD).segs))), (blk b93 56 [(Value.int .i64 ((ta).tmod (R.length : Int))), (Value.int .i64 0), (Value.int .i64 0)]), (blk b4 24 [vr]), (sl vr 2 R.length (pairs R)), (runsR false vu lv rs), (sl vp 3 plan.length (trips plan))] := hS564.keep [4, 0, 1, 2, 3, 5, 6, 7, 8] (by decide) _ rfl rfl; clear hS564
   have hS566 := hS565.runs_ro rfl; clear hS565
   have hS567 : Sep NoB w w557 [(runsR false v44 (lv.set kk (vs542 13)) (rs.set kk (⟨(putAt (rs.getD kk run0).segs 0 (ta.tmod (R.length : Int), 0, 0)), (rs.getD kk run0).lo, (rs.getD kk run0).hi⟩ : RunD))), (blk b4 24 [vr]), (sl vr 2 R.length (pairs R)), (runsR false vu lv rs), (sl vp 3 plan.length (trips plan))] := hS566.keep [0, 4, 5, 6, 7] (by decide) _ rfl rfl; clear hS566
   have hsame : ∀ r, allowB (rs.set kk (⟨(putAt (rs.getD kk run0).segs 0 (ta.tmod (R.length : Int), 0, 0)), (rs.getD kk run0).lo, (rs.getD kk run0).hi⟩ : RunD)) r = allowB rs r := set_same_allow hb_kk rfl rfl (fun r => st_stay (rs.getD kk run0).segs 0 r (ta.tmod (R.length : Int)))
   have hl2 : (rs.set kk (⟨(putAt (rs.getD kk run0).segs 0 (ta.tmod (R.length : Int), 0, 0)), (rs.getD kk run0).lo, (rs.getD kk run0).hi⟩ : RunD)).length = rs.length := by simp only [List.length_set]
   generalize hg_ : rs.set kk (⟨(putAt (rs.getD kk run0).segs 0 (ta.tmod (R.length : Int), 0, 0)), (rs.getD kk run0).lo, (rs.getD kk run0).hi⟩ : RunD) = rs2 at hS567 hsame hl2; clear hg_
   have hA568 := hA561.as [(13, v44), (6, (bptr b4 0)), (1, vu), (2, vp)] rfl; clear hA561
   refine c_region ?_
   refine st hA568 (op_loadA rfl ty_24 (hA568.ev rfl) (hS567.bk 1 rfl) (l := [vr]) rfl rfl) rfl rfl (by decide) fun a569 hA570 => ?_; clear hA568 a555
   refine st hA570 (op_move rfl (hA570.ev rfl)) rfl rfl (by decide) fun a571 hA572 => ?_; clear hA570 a569
   refine st hA572 (op_move rfl (hA572.ev rfl)) rfl rfl (by decide) fun a573 hA574 => ?_; clear hA572 a571
   refine stw hA574 (op_call rfl en_27 (ev3 (hA574.ev rfl) (hA574.ev rfl) (hA574.ev rfl)) (ready_ok _ R _ (hS567.sk 2 rfl) rs2 _ _ (runs_at (hS567.ok 0 _ rfl)) plan _ (hS567.sk 4 rfl))) rfl rfl (by decide) ?_
   rintro a575 _ w577 ⟨rfl, hE578⟩ hA576; have hS579 := hS567.step hE578; clear hE578 hA574 hS567 a573
   refine st hA576 (op_not rfl (hA576.ev rfl)) rfl rfl (by decide) fun a580 hA581 => ?_; clear hA576 a575
   refine wl_nil ?_
   refine then_n ?_
   rcases Bool.eq_false_or_eq_true ((readyB R rs2 plan)) with hb582 | hb582
   ·skip
    rw [hb582] at hA581
    have hrd2 := ready_is (R := R) (rs := rs2) (plan := plan) (by assumption); have hth2 := hrd2.1; have he2 := hrd2.2.1; have h9x := hth2.runs; have halw : allowedF R rs2 = allowedF R rs := allowed_same hsame; have hps : possF R rs2 = possF R rs := poss_same halw he he2; have hrte : ratesF R rs2 = ratesF R rs := by unfold ratesF; rw [halw]
    have hls : leastR R rs2 plan = leastR R rs plan := by unfold leastR; rw [halw]
    have hms : mostR R rs2 plan = mostR R rs plan := by unfold mostR; rw [halw]
    have hpl2 : planF R rs2 plan = planF R rs plan := by unfold planF; rw [hps]
    have hrt2 := ratesF_len R rs2; have hale : (allowedF R rs2).length = (allowedF R rs).length := by rw [halw]
    refine c_false hA581 rfl ?_
    refine c_skip ?_
    refine then_n ?_
    refine c_seq ?_
    refine c_region ?_
    refine st hA581 (op_loadA rfl ty_24 (hA581.ev rfl) (hS579.bk 1 rfl) (l := [vr]) rfl rfl) rfl rfl (by decide) fun a583 hA584 => ?_; clear hA581 a580
    refine stw hA584 (op_call rfl en_19 (ev1 (hA584.ev rfl)) (Material_ok _ R _ (hS579.sk 2 rfl) hth.mat)) rfl rfl (by decide) ?_
    rintro a585 _ w587 ⟨u590, rfl, hT588⟩ hA586; have hS589 := hS579.callS hT588 rfl; clear hT588 hA584 hS579 a583
    refine st hA586 (op_move rfl (hA586.ev rfl)) rfl rfl (by decide) fun a591 hA592 => ?_; clear hA586 a585
    refine stw hA592 (op_call rfl en_20 (ev1 (hA592.ev rfl)) (Runs_ok _ rs _ _ (runs_at (hS589.ok 4 _ rfl)) h9 hth.segs)) rfl rfl (by decide) ?_
    rintro a593 v598 w595 ⟨lv599, hT596⟩ hA594; have hS597 := hS589.callS hT596 rfl; clear hT596 hA592 hS589 a591
    refine stw hA594 (op_call rfl en_18 (ev2 (hA594.ev rfl) (hA594.ev rfl)) (rates_ok R rs lv599 u590 v598 _ (SlAt.of_row (hS597.ok_row 1 rfl)) (runs_at (hS597.ok 0 _ rfl)) (by omega) (by omega) hc)) rfl rfl (by decide) ?_
    rintro a600 _ w602 ⟨u605, rfl, hT603⟩ hA601
    have hS604 : Sep NoB w w602 [(row u605 42 2 R.length (pairs (ratesF R rs))), (runsR true v598 lv599 rs), (row u590 42 2 R.length (pairs R)), (runsR false v44 (lv.set kk (vs542 13)) rs2), (blk b4 24 [vr]), (sl vr 2 R.length (pairs R)), (runsR false vu lv rs), (sl vp 3 plan.length (trips plan))] := hS597.callS hT603 rfl; clear hT603 hA594 hS597 a593
    refine st hA601 (op_move rfl (hA601.ev rfl)) rfl rfl (by decide) fun a606 hA607 => ?_; clear hA601 a600
    refine st hA607 (op_extract rfl (hA607.ev rfl) rfl) rfl rfl (by decide) fun a608 hA609 => ?_; clear hA607 a606
    refine st hA609 (op_extract rfl (hA609.ev rfl) rfl) rfl rfl (by decide) fun a610 hA611 => ?_; clear hA609 a608
    refine st hA611 (op_extract rfl (hA611.ev rfl) rfl) rfl rfl (by decide) fun a612 hA613 => ?_; clear hA611 a610
    refine st hA613 (op_assign rfl (hA613.ev rfl)) rfl rfl (by decide) fun a614 hA615 => ?_; clear hA613 a612
    refine st hA615 (op_assign rfl (hA615.ev rfl)) rfl rfl (by decide) fun a616 hA617 => ?_; clear hA615 a614
    refine st hA617 (op_assign rfl (hA617.ev rfl)) rfl rfl (by decide) fun a618 hA619 => ?_; clear hA617 a616
    refine wl_nil ?_
    refine then_n ?_
    refine c_seq ?_
    have hA620 := hA619.as [(22, (Value.int .i64 0)), (21, (Value.int .i64 (((allowedF R rs).length : Nat) : Int))), (20, u605), (13, v44), (6, (bptr b4 0)), (1, vu), (2, vp)] rfl; clear hA619
    refine c_region ?_
    refine st hA620 (op_loadA rfl ty_24 (hA620.ev rfl) (hS604.bk 4 rfl) (l := [vr]) rfl rfl) rfl rfl (by decide) fun a621 hA622 => ?_; clear hA620 a618
    refine stw hA622 (op_call rfl en_19 (ev1 (hA622.ev rfl)) (Material_ok _ R _ (hS604.sk 5 rfl) hth.mat)) rfl rfl (by decide) ?_
    rintro a623 _ w625 ⟨u628, rfl, hT626⟩ hA624; have hS627 := hS604.callS hT626 rfl; clear hT626 hA622 hS604 a621
    refine st hA624 (op_move rfl (hA624.ev rfl)) rfl rfl (by decide) fun a629 hA630 => ?_; clear hA624 a623
    refine stw hA630 (op_call rfl en_20 (ev1 (hA630.ev rfl)) (Runs_ok _ rs2 _ _ (runs_at (hS627.ok 4 _ rfl)) h9x hth2.segs)) rfl rfl (by decide) ?_
    rintro a631 v636 w633 ⟨lv637, hT634⟩ hA632; have hS635 := hS627.callS hT634 rfl; clear hT634 hA630 hS627 a629
    refine stw hA632 (op_call rfl en_18 (ev2 (hA632.ev rfl) (hA632.ev rfl)) (rates_ok R rs2 lv637 u628 v636 _ (SlAt.of_row (hS635.ok_row 1 rfl)) (runs_at (hS635.ok 0 _ rfl)) (by omega) (by omega) (hps.trans hc))) rfl rfl (by decide) ?_
    rintro a638 _ w640 ⟨u643, rfl, hT641⟩ hA639
    have hS642 : Sep NoB w w640 [(row u643 42 2 R.length (pairs (ratesF R rs2))), (runsR true v636 lv637 rs2), (row u628 42 2 R.length (pairs R)), (row u605 42 2 R.length (pairs (ratesF R rs))), (runsR true v598 lv599 rs), (row u590 42 2 R.length (pairs R)), (runsR false v44 (lv.set kk (vs542 13)) rs2), (blk b4 24 [vr]), (sl vr 2 R.length (pairs R)), (runsR false vu lv rs), (sl vp 3 plan.length (trips plan))] := hS635.callS hT641 rfl; clear hT641 hA632 hS635 a631
    refine st hA639 (op_move rfl (hA639.ev rfl)) rfl rfl (by decide) fun a644 hA645 => ?_; clear hA639 a638
    refine st hA645 (op_extract rfl (hA645.ev rfl) rfl) rfl rfl (by decide) fun a646 hA647 => ?_; clear hA645 a644
    refine st hA647 (op_extract rfl (hA647.ev rfl) rfl) rfl rfl (by decide) fun a648 hA649 => ?_; clear hA647 a646
    refine st hA649 (op_extract rfl (hA649.ev rfl) rfl) rfl rfl (by decide) fun a650 hA651 => ?_; clear hA649 a648
    refine st hA651 (op_assign rfl (hA651.ev rfl)) rfl rfl (by decide) fun a652 hA653 => ?_; clear hA651 a650
    refine st hA653 (op_assign rfl (hA653.ev rfl)) rfl rfl (by decide) fun a654 hA655 => ?_; clear hA653 a652
    refine st hA655 (op_assign rfl (hA655.ev rfl)) rfl rfl (by decide) fun a656 hA657 => ?_; clear hA655 a654
    refine wl_nil ?_
    refine then_n ?_
    refine c_seq ?_
    have hA658 := hA657.as [(25, (Value.int .i64 0)), (24, (Value.int .i64 (((allowedF R rs2).length : Nat) : Int))), (23, u643), (22, (Value.int .i64 0)), (21, (Value.int .i64 (((allowedF R rs).length : Nat) : Int))), (20, u605), (13, v44), (6, (bptr b4 0)), (1, vu), (2, vp)] rfl; clear hA657
    refine c_region ?_
    refine st hA658 (op_loadA rfl ty_24 (hA658.ev rfl) (hS642.bk 7 rfl) (l := [vr]) rfl rfl) rfl rfl (by decide) fun a659 hA660 => ?_; clear hA658 a656
    refine stw hA660 (op_call rfl en_19 (ev1 (hA660.ev rfl)) (Material_ok _ R _ (hS642.sk 8 rfl) hth.mat)) rfl rfl (by decide) ?_
    rintro a661 _ w663 ⟨u666, rfl, hT664⟩ hA662; have hS665 := hS642.callS hT664 rfl; clear hT664 hA660 hS642 a659
    refine st hA662 (op_move rfl (hA662.ev rfl)) rfl rfl (by decide) fun a667 hA668 => ?_; clear hA662 a661
    refine stw hA668 (op_call rfl en_20 (ev1 (hA668.ev rfl)) (Runs_ok _ rs _ _ (runs_at (hS665.ok 10 _ rfl)) h9 hth.segs)) rfl rfl (by decide) ?_
    rintro a669 v674 w671 ⟨lv675, hT672⟩ hA670; have hS673 := hS665.callS hT672 rfl; clear hT672 hA668 hS665 a667
    refine st hA670 (op_move rfl (hA670.ev rfl)) rfl rfl (by decide) fun a676 hA677 => ?_; clear hA670 a669
    refine stw hA677 (op_call rfl en_29 (ev1 (hA677.ev rfl)) (Plan_ok _ plan _ (hS673.sk 12 rfl) (by omega))) rfl rfl (by decide) ?_
    rintro a678 v684 w680 ⟨hE681, hO682⟩ hA679; have hS683 := hS673.new_row hE681 hO682; clear hE681 hO682 hA677 hS673 a676
    refine stw hA679 (op_call rfl en_28 (ev3 (hA679.ev rfl) (hA679.ev rfl) (hA679.ev rfl)) (stretch_fine R rs lv675 u666 v674 _ (SlAt.of_row (hS683.ok_row 2 rfl)) (runs_at (hS683.ok 1 _ rfl)) (by omega) (by omega) plan v684 (SlAt.of_row (hS683.ok_row 0 rfl)) (by omega) hc0)) rfl rfl (by decide) ?_
    rintro a685 _ w687 ⟨rfl, hE688⟩ hA686; have hS689 := hS683.step hE688; clear hE688 hA679 hS683 a678
    refine st hA686 (op_move rfl (hA686.ev rfl)) rfl rfl (by decide) fun a690 hA691 => ?_; clear hA686 a685
    refine st hA691 (op_extract rfl (hA691.ev rfl) rfl) rfl rfl (by decide) fun a692 hA693 => ?_; clear hA691 a690
    refine st hA693 (op_extract rfl (hA693.ev rfl) rfl) rfl rfl (by decide) fun a694 hA695 => ?_; clear hA693 a692
    refine stw hA695 (op_alloc hS689 rfl ze_42 (cs := [(Value.int .i64 0), (Value.int .i64 0)]) rfl) rfl rfl (by decide) ?_
    rintro a696 _ w698 ⟨b699, rfl, hS700⟩ hA697; clear hA695 hS689 a694
    refine sts hA697 (op_store hS700 rfl ty_42 (hA697.ev rfl) (hA697.ev rfl) (i := 0) rfl (vs := [(Value.int .i64 (stLo plan (leastR R rs plan))), (Value.int .i64 (stHi plan (mostR R rs plan)))]) rfl rfl rfl (Nat.le_of_ble_eq_true rfl)) rfl rfl ?_
    intro _ w701 hS702 hA703; clear hA697
    have hS704 : Sep NoB w w701 [(blk b699 42 [(Value.int .i64 (stLo plan (leastR R rs plan))), (Value.int .i64 (stHi plan (mostR R rs plan)))]), (row v684 67 3 plan.length (trips plan)), (runsR true v674 lv675 rs), (row u666 42 2 R.length (pairs R)), (row u643 42 2 R.length (pairs (ratesF R rs2))), (runsR true v636 lv637 rs2), (row u628 42 2 R.length (pairs R)), (row u605 42 2 R.length (pairs (ratesF R rs))), (runsR true v598 lv599 rs), (row u590 42 2 R.length (pairs R)), (runsR false v44 (lv.set kk (vs542 13)) rs2), (blk b4 24 [vr]), (sl vr 2 R.length (pairs R)), (runsR false vu lv rs), (sl vp 3 plan.length (trips plan))] := hS702; clear hS702 hS700
    refine st hA703 (op_assign rfl (hA703.ev rfl)) rfl rfl (by decide) fun a705 hA706 => ?_; clear hA703 a696
    refine wl_nil ?_
    refine then_n ?_
    refine c_seq ?_
    have hA707 := hA706.as [(27, (Value.int .i64 0)), (26, (bptr b699 0)), (25, (Value.int .i64 0)), (24, (Value.int .i64 (((allowedF R rs2).length : Nat) : Int))), (23, u643), (22, (Value.int .i64 0)), (21, (Value.int .i64 (((allowedF R rs).length : Nat) : Int))), (20, u605), (13, v44), (6, (bptr b4 0)), (2, vp)] rfl; clear hA706
    refine c_region ?_
    refine st hA707 (op_loadA rfl ty_24 (hA707.ev rfl) (hS704.bk 11 rfl) (l := [vr]) rfl rfl) rfl rfl (by decide) fun a708 hA709 => ?_; clear hA707 a705
    refine stw hA709 (op_call rfl en_19 (ev1 (hA709.ev rfl)) (Material_ok _ R _ (hS704.sk 12 rfl) hth.mat)) rfl rfl (by decide) ?_
    rintro a710 _ w712 ⟨u715, rfl, hT713⟩ hA711; have hS714 := hS704.callS hT713 rfl; clear hT713 hA709 hS704 a708
    refine st hA711 (op_move rfl (hA711.ev rfl)) rfl rfl (by decide) fun a716 hA717 => ?_; clear hA711 a710
    refine stw hA717 (op_call rfl en_20 (ev1 (hA717.ev rfl)) (Runs_ok _ rs2 _ _ (runs_at (hS714.ok 11 _ rfl)) h9x hth2.segs)) rfl rfl (by decide) ?_
    rintro a718 v723 w720 ⟨lv724, hT721⟩ hA719; have hS722 := hS714.callS hT721 rfl; clear hT721 hA717 hS714 a716
    refine st hA719 (op_move rfl (hA719.ev rfl)) rfl rfl (by decide) fun a725 hA726 => ?_; clear hA719 a718
    refine stw hA726 (op_call rfl en_29 (ev1 (hA726.ev rfl)) (Plan_ok _ plan _ (hS722.sk 16 rfl) (by omega))) rfl rfl (by decide) ?_
    rintro a727 v733 w729 ⟨hE730, hO731⟩ hA728; have hS732 := hS722.new_row hE730 hO731; clear hE730 hO731 hA726 hS722 a725
    refine stw hA728 (op_call rfl en_28 (ev3 (hA728.ev rfl) (hA728.ev rfl) (hA728.ev rfl)) (stretch_fine R rs2 lv724 u715 v723 _ (SlAt.of_row (hS732.ok_row 2 rfl)) (runs_at (hS732.ok 1 _ rfl)) (by omega) (by omega) plan v733 (SlAt.of_row (hS732.ok_row 0 rfl)) (by omega) (hpl2.trans hc0))) rfl rfl (by decide) ?_
    rintro a734 _ w736 ⟨rfl, hE737⟩ hA735; have hS738 := hS732.step hE737; clear hE737 hA728 hS732 a727
    refine st hA735 (op_move rfl (hA735.ev rfl)) rfl rfl (by decide) fun a739 hA740 => ?_; clear hA735 a734
    refine st hA740 (op_extract rfl (hA740.ev rfl) rfl) rfl rfl (by decide) fun a741 hA742 => ?_; clear hA740 a739
    refine st hA742 (op_extract rfl (hA742.ev rfl) rfl) rfl rfl (by decide) fun a743 hA744 => ?_; clear hA742 a741
    refine stw hA744 (op_alloc hS738 rfl ze_42 (cs := [(Value.int .i64 0), (Value.int .i64 0)]) rfl) rfl rfl (by decide) ?_
    rintro a745 _ w747 ⟨b748, rfl, hS749⟩ hA746; clear hA744 hS738 a743
    refine sts hA746 (op_store hS749 rfl ty_42 (hA746.ev rfl) (hA746.ev rfl) (i := 0) rfl (vs := [(Value.int .i64 (stLo plan (leastR R rs2 plan))), (Value.int .i64 (stHi plan (mostR R rs2 plan)))]) rfl rfl rfl (Nat.le_of_ble_eq_true rfl)) rfl rfl ?_
    intro _ w750 hS751 hA752; clear hA746
    have hS753 : Sep NoB w w750 [(blk b748 42 [(Value.int .i64 (stLo plan (leastR R rs2 plan))), (Value.int .i64 (stHi plan (mostR R rs2 plan)))]), (row v733 67 3 plan.length (trips plan)), (runsR true v723 lv724 rs2), (row u715 42 2 R.length (pairs R)), (blk b699 42 [(Value.int .i64 (stLo plan (leastR R rs plan))), (Value.int .i64 (stHi plan (mostR R rs plan)))]), (row v684 67 3 plan.length (trips plan)), (runsR true v674 lv675 rs), (row u666 42 2 R.length (pairs R)), (row u643 42 2 R.length (pairs (ratesF R rs2))), (runsR true v636 lv637 rs2), (row u628 42 2 R.length (pairs R)), (row u605 42 2 R.length (pairs (ratesF R rs))), (runsR true v598 lv599 rs), (row u590 42 2 R.length (pairs R)), (runsR false v44 (lv.set kk (vs542 13)) rs2), (blk b4 24 [vr]), (sl vr 2 R.length (pairs R)), (runsR false vu lv rs), (sl vp 3 plan.length (trips plan))] := hS751; clear hS751 hS749
    refine st hA752 (op_assign rfl (hA752.ev rfl)) rfl rfl (by decide) fun a754 hA755 => ?_; clear hA752 a745
    refine wl_nil ?_
    refine then_n ?_
    refine c_seq ?_
    refine c_seq ?_
    have hA756 := hA755.as [(29, (Value.int .i64 0)), (28, (bptr b748 0)), (27, (Value.int .i64 0)), (26, (bptr b699 0)), (25, (Value.int .i64 0)), (24, (Value.int .i64 (((allowedF R rs2).length : Nat) : Int))), (23, u643), (22, (Value.int .i64 0)), (21, (Value.int .i64 (((allowedF R rs).length : Nat) : Int))), (20, u605)] rfl; clear hA755
    refine c_region ?_
    refine st hA756 (op_move rfl (hA756.ev rfl)) rfl rfl (by decide) fun a757 hA758 => ?_; clear hA756 a754
    refine st hA758 (op_move rfl (hA758.ev rfl)) rfl rfl (by decide) fun a759 hA760 => ?_; clear hA758 a757
    refine st hA760 (op_neq rfl (hA760.ev rfl) (hA760.ev rfl)) rfl rfl (by decide) fun a761 hA762 => ?_; clear hA760 a759
    refine st hA762 (op_move rfl (hA762.ev rfl)) rfl rfl (by decide) fun a763 hA764 => ?_; clear hA762 a761
    refine stg hA764 (op_move rfl (hA764.ev rfl)) rfl rfl rfl rfl (by decide) fun a765 hA766 => ?_; clear hA764 a763
    refine stg hA766 (op_move rfl (hA766.ev rfl)) rfl rfl rfl rfl (by decide) fun a767 hA768 => ?_; clear hA766 a765
    refine stg hA768 (op_neq rfl (hA768.ev rfl) (hA768.ev rfl)) rfl rfl rfl rfl (by decide) fun a769 hA770 => ?_; clear hA768 a767
    refine st hA770 (op_pick_f rfl (hA770.ev rfl) (hA770.ev rfl)) rfl rfl (by decide) fun a771 hA772 => ?_; clear hA770 a769
    refine st hA772 (op_move rfl (hA772.ev rfl)) rfl rfl (by decide) fun a773 hA774 => ?_; clear hA772 a771
    refine stg hA774 (op_move rfl (hA774.ev rfl)) rfl rfl rfl rfl (by decide) fun a775 hA776 => ?_; clear hA774 a773
    refine stg hA776 (op_move rfl (hA776.ev rfl)) rfl rfl rfl rfl (by decide) fun a777 hA778 => ?_; clear hA776 a775
    refine stg hA778 (op_neq rfl (hA778.ev rfl) (hA778.ev rfl)) rfl rfl rfl rfl (by decide) fun a779 hA780 => ?_; clear hA778 a777
    refine st hA780 (op_pick_f rfl (hA780.ev rfl) (hA780.ev rfl)) rfl rfl (by decide) fun a781 hA782 => ?_; clear hA780 a779
    refine st hA782 (op_move rfl (hA782.ev rfl)) rfl rfl (by decide) fun a783 hA784 => ?_; clear hA782 a781
    refine stg hA784 (op_move rfl (hA784.ev rfl)) rfl rfl rfl rfl (by decide) fun a785 hA786 => ?_; clear hA784 a783
    refine stg hA786 (op_move rfl (hA786.ev rfl)) rfl rfl rfl rfl (by decide) fun a787 hA788 => ?_; clear hA786 a785
    refine stg hA788 (op_neq rfl (hA788.ev rfl) (hA788.ev rfl)) rfl rfl rfl rfl (by decide) fun a789 hA790 => ?_; clear hA788 a787
    have hd791 : (((allowedF R rs).length : Nat) : Int) = (((allowedF R rs2).length : Nat) : Int) := (by omega)
    rw [decide_eq_true hd791] at hA790
    refine st hA790 (op_pick_f rfl (hA790.ev rfl) (hA790.ev rfl)) rfl rfl (by decide) fun a792 hA793 => ?_; clear hA790 a789
    refine st hA793 (op_move rfl (hA793.ev rfl)) rfl rfl (by decide) fun a794 hA795 => ?_; clear hA793 a792
    refine stg hA795 (op_loadA rfl ty_42 (hA795.ev rfl) (hS753.bk 4 rfl) (l := [(Value.int .i64 (stLo plan (leastR R rs plan))), (Value.int .i64 (stHi plan (mostR R rs plan)))]) rfl rfl) rfl rfl rfl rfl (by decide) fun a796 hA797 => ?_; clear hA795 a794
    refine stg hA797 (op_loadA rfl ty_42 (hA797.ev rfl) (hS753.bk 0 rfl) (l := [(Value.int .i64 (stLo plan (leastR R rs2 plan))), (Value.int .i64 (stHi plan (mostR R rs2 plan)))]) rfl rfl) rfl rfl rfl rfl (by decide) fun a798 hA799 => ?_; clear hA797 a796
    refine stg hA799 (op_neqP tw_42 rfl (hA799.ev rfl) (hA799.ev rfl)) rfl rfl rfl rfl (by decide) fun a800 hA801 => ?_; clear hA799 a798
    have hd802 : (decide (((stLo plan (leastR R rs plan)) : Int) = (stLo plan (leastR R rs2 plan))) && decide (((stHi plan (mostR R rs plan)) : Int) = (stHi plan (mostR R rs2 plan)))) = true := (by rw [hls, hms]; simp)
    rw [hd802] at hA801
    have hq803 := hd802; simp only [Bool.and_eq_true, Bool.and_eq_false_iff, decide_eq_true_eq, decide_eq_false_iff_not] at hq803
    refine st hA801 (op_pick_f rfl (hA801.ev rfl) (hA801.ev rfl)) rfl rfl (by decide) fun a804 hA805 => ?_; clear hA801 a800
    refine st hA805 (op_move rfl (hA805.ev rfl)) rfl rfl (by decide) fun a806 hA807 => ?_; clear hA805 a804
    refine stg hA807 (op_move rfl (hA807.ev rfl)) rfl rfl rfl rfl (by decide) fun a808 hA809 => ?_; clear hA807 a806
    refine stg hA809 (op_lenS rfl un_28 (hA809.ev rfl) (SlAt.of_row (hS753.ok_row 11 rfl))) rfl rfl rfl rfl (by decide) fun a810 hA811 => ?_; clear hA809 a808
    refine stg hA811 (op_move rfl (hA811.ev rfl)) rfl rfl rfl rfl (by decide) fun a812 hA813 => ?_; clear hA811 a810
    refine stg hA813 (op_lenS rfl un_28 (hA813.ev rfl) (SlAt.of_row (hS753.ok_row 8 rfl))) rfl rfl rfl rfl (by decide) fun a814 hA815 => ?_; clear hA813 a812
    refine stg hA815 (op_neq rfl (hA815.ev rfl) (hA815.ev rfl)) rfl rfl rfl rfl (by decide) fun a816 hA817 => ?_; clear hA815 a814
    have hd818 : (R.length : Int) = (R.length : Int) := rfl
    rw [decide_eq_true hd818] at hA817
    refine st hA817 (op_pick_f rfl (hA817.ev rfl) (hA817.ev rfl)) rfl rfl (by decide) fun a819 hA820 => ?_; clear hA817 a816
    refine wl_nil ?_
    refine then_n ?_
    refine c_false hA820 rfl ?_
    refine c_skip ?_
    refine then_n ?_
    refine c_seq ?_
    refine c_seq ?_
    have hA821 := hA820.as [(23, u643), (20, u605)] rfl; clear hA820
    refine c_region ?_
    refine st hA821 (op_assign rfl (evc _ _)) rfl rfl (by decide) fun a822 hA823 => ?_; clear hA821 a819
    refine wl_nil ?_
    refine then_n ?_
    refine c_block ?_
    have hA824 := hA823.as [(30, (Value.int .i64 0)), (23, u643), (20, u605)] rfl; clear hA823
    refine c_loop (G := Nat) (fun (k : Nat) a_ w_ => Fr 241 [] [(30, (Value.int .i64 (k : Int))), (23, u643), (20, u605)] a_ ∧ Sep NoB w w_ [(blk b748 42 [(Value.int .i64 (stLo plan (leastR R rs2 plan))), (Value.int .i64 (stHi plan (mostR R rs2 plan)))]), (row v733 67 3 plan.length (trips plan)), (runsR true v723 lv724 rs2), (row u715 42 2 R.length (pairs R)), (blk b699 42 [(Value.int .i64 (stLo plan (leastR R rs plan))), (Value.int .i64 (stHi plan (mostR R rs plan)))]), (row v684 67 3 plan.length (trips plan)), (runsR true v674 lv675 rs), (row u666 42 2 R.length (pairs R)), (row u643 42 2 R.length (pairs (ratesF R rs2))), (runsR true v636 lv637 rs2), (row u628 42 2 R.length (pairs R)), (row u605 42 2 R.length (pairs (ratesF R rs))), (runsR true v598 lv599 rs), (row u590 42 2 R.length (pairs R)), (runsR false v44 (lv.set kk (vs542 13)) rs2), (blk b4 24 [vr]), (sl vr 2 R.length (pairs R)), (runsR false vu lv rs), (sl vp 3 plan.length (trips plan))] ∧ (k ≤ R.length)) (fun k => R.length - k) 0 ⟨hA824.as _ rfl, hS753, by omega⟩ ?_
    clear hA824 hS753 a822
    rintro k a825 w827 ⟨hA826, hS828, hk⟩
    refine c_seq ?_
    refine c_seq ?_
    refine c_region ?_
    refine st hA826 (op_move rfl (hA826.ev rfl)) rfl rfl (by decide) fun a829 hA830 => ?_; clear hA826 a825
    refine st hA830 (op_move rfl (hA830.ev rfl)) rfl rfl (by decide) fun a831 hA832 => ?_; clear hA830 a829
    refine st hA832 (op_lenS rfl un_28 (hA832.ev rfl) (SlAt.of_row (hS828.ok_row 11 rfl))) rfl rfl (by decide) fun a833 hA834 => ?_; clear hA832 a831
    refine st hA834 (op_lss rfl (hA834.ev rfl) (hA834.ev rfl)) rfl rfl (by decide) fun a835 hA836 => ?_; clear hA834 a833
    refine wl_nil ?_
    refine then_n ?_
    by_cases hb837 : (k : Int) < (R.length : Int)
    ·skip
     rw [decide_eq_true hb837] at hA836
     refine c_true hA836 rfl ?_
     refine c_skip ?_
     refine then_n ?_
     refine c_seq ?_
     refine c_block ?_
     refine c_seq ?_
     have hA838 := hA836.as [(30, (Value.int .i64 (k : Int))), (23, u643), (20, u605)] rfl; clear hA836
     refine c_drawn mixed hA838 hS828 8 [[], [], [0, 1], [2], [], [], [4, 5], [6]] [(Yd.val u605), (Yd.val (Value.int .i64 (k : Int))), (Yd.val (eptr u605 (k * 2))), (Yd.val (Value.agg #[(Value.int .i64 (((ratesF R rs).getD k (0, 0)).1)), (Value.int .i64 (((ratesF R rs).getD k (0, 0)).2))])), (Yd.val u643), (Yd.val (Value.int .i64 (k : Int))), (Yd.val (eptr u643 (k * 2))), (Yd.val (Value.agg #[(Value.int .i64 (((ratesF R rs2).getD k (0, 0)).1)), (Value.int .i64 (((ratesF R rs2).getD k (0, 0)).2))]))] (by decide +kernel) rfl rfl ?_ ?_
     ·skip
      refine ⟨fun a w hA hS hd => by exact opG_of rfl (dv (op_move rfl (hA.ev rfl)) hS rfl), ?_⟩
      refine ⟨fun a w hA hS hd => by exact opG_of rfl (dv (op_move rfl (hA.ev rfl)) hS rfl), ?_⟩
      refine ⟨fun a w hA hS hd => by have e0 := has_ev (hd 0 (by decide)) rfl (fun _ h => h); have e1 := has_ev (hd 1 (by decide)) rfl (fun _ h => h); exact opG_of rfl (dv (op_indexS rfl un_28 ty_42 (tmp_ev e0) (i := k) (tmp_ev e1) (SlAt.of_row (hS.ok_row 11 rfl)) (by decide) (by omega)) hS rfl), ?_⟩
      refine ⟨fun a w hA hS hd => by have e2 := has_ev (hd 2 (by decide)) rfl (fun _ h => h); exact opG_of rfl (dv (op_loadAE rfl ty_42 (tmp_ev e2) (SlAt.of_row (hS.ok_row 11 rfl)) (pairs_all (by omega)) rfl (by decide)) hS rfl), ?_⟩
      refine ⟨fun a w hA hS hd => by exact opG_of rfl (dv (op_move rfl (hA.ev rfl)) hS rfl), ?_⟩
      refine ⟨fun a w hA hS hd => by exact opG_of rfl (dv (op_move rfl (hA.ev rfl)) hS rfl), ?_⟩
      refine ⟨fun a w hA hS hd => by have e4 := has_ev (hd 4 (by decide)) rfl (fun _ h => h); have e5 := has_ev (hd 5 (by decide)) rfl (fun _ h => h); exact opG_of rfl (dv (op_indexS rfl un_28 ty_42 (tmp_ev e4) (i := k) (tmp_ev e5) (SlAt.of_row (hS.ok_row 8 rfl)) (by decide) (by omega)) hS rfl), ?_⟩
      refine ⟨fun a w hA hS hd => by have e6 := has_ev (hd 6 (by decide)) rfl (fun _ h => h); exact opG_of rfl (dv (op_loadAE rfl ty_42 (tmp_ev e6) (SlAt.of_row (hS.ok_row 8 rfl)) (pairs_all (by omega)) rfl (by decide)) hS rfl), ?_⟩
      trivial
     intro a840 w841 hA842 hS843 hH844; clear hA838 hS828
     have hA845 := hA842.add (has_ev (hH844 3 (by decide)) rfl (fun _ h => h)); clear hA842
     have hA846 := hA845.add (has_ev (hH844 7 (by decide)) rfl (fun _ h => h)); clear hA845
     clear hH844
     refine st hA846 (op_neqP tw_42 rfl (hA846.ev rfl) (hA846.ev rfl)) rfl rfl (by decide) fun a847 hA848 => ?_; clear hA846 a840
     have hd849 : (decide (((((ratesF R rs).getD k (0, 0)).1) : Int) = (((ratesF R rs2).getD k (0, 0)).1)) && decide (((((ratesF R rs).getD k (0, 0)).2) : Int) = (((ratesF R rs2).getD k (0, 0)).2))) = true := (by rw [hrte]; simp)
     rw [hd849] at hA848
     have hq850 := hd849; simp only [Bool.and_eq_true, Bool.and_eq_false_iff, decide_eq_true_eq, decide_eq_false_iff_not] at hq850
     refine wl_nil ?_
     refine then_n ?_
     refine c_false hA848 rfl ?_
     refine c_skip ?_
     refine blk_n ?_
     refine then_n ?_
     refine c_region ?_
     refine st hA848 (op_move rfl (hA848.ev rfl)) rfl rfl (by decide) fun a851 hA852 => ?_; clear hA848 a847
     refine st hA852 (op_add rfl (hA852.ev rfl) (evc _ _) (by omega) (by omega)) rfl rfl (by decide) fun a853 hA854 => ?_; clear hA852 a851
     refine st hA854 (op_assign rfl (hA854.ev rfl)) rfl rfl (by decide) fun a855 hA856 => ?_; clear hA854 a853
     refine wl_nil ?_
     exact then_n ⟨k + 1, ⟨hA856.as _ rfl, hS843, by omega⟩, by omega⟩
    ·skip
     rw [decide_eq_false hb837] at hA836
     refine c_false hA836 rfl ?_
     refine c_exit ?_
     refine then_exit ?_
     refine then_exit ?_
     refine blk_hit ?_
     refine then_n ?_
     refine c_seq ?_
     have hA857 := hA836.as [] rfl; clear hA836
     refine c_region ?_
     refine stw hA857 (op_call rfl en_17 ev0 (awake_ok _)) rfl rfl (by decide) ?_
     rintro a858 _ w860 ⟨rfl, hE861⟩ hA859; have hS862 := hS828.step hE861; clear hE861 hA857 hS828 a835
     refine st hA859 (op_assign rfl (hA859.ev rfl)) rfl rfl (by decide) fun a863 hA864 => ?_; clear hA859 a858
     refine wl_nil ?_
     refine then_n ?_
     refine c_ret ?_
     refine fin_run hA864 (.inl rfl) (run_results1 hA864 rfl (.tmp rfl)) ?_
     exact ⟨rfl, hS862.ext⟩
   ·skip
    rw [hb582] at hA581
    refine c_true hA581 rfl ?_
    refine c_seq ?_
    have hA865 := hA581.as [] rfl; clear hA581
    refine c_region ?_
    refine stw hA865 (op_call rfl en_17 ev0 (awake_ok _)) rfl rfl (by decide) ?_
    rintro a866 _ w868 ⟨rfl, hE869⟩ hA867; have hS870 := hS579.step hE869; clear hE869 hA865 hS579 a580
    refine st hA867 (op_assign rfl (hA867.ev rfl)) rfl rfl (by decide) fun a871 hA872 => ?_; clear hA867 a866
    refine wl_nil ?_
    refine then_n ?_
    refine c_ret ?_
    refine then_ret ?_
    refine fin_run hA872 (.inl rfl) (run_results1 hA872 rfl (.tmp rfl)) ?_
    exact ⟨rfl, hS870.ext⟩
theorem CreepCut_ok (w : World) (R : List (Int × Int)) (vr : Value) (hm : SlAt w vr 2 R.length (pairs R)) (rs : List RunD) (lv : List Value) (vu : Value) (hx : RunsAt w vu lv rs) (plan : List Seg) (vp : Value) (hp : SlAt w vp 3 plan.length (trips plan)) (wh : Int) (hB : 0 ≤ wh ∧ wh ≤ 255) (ta : Int) (hB2 : 0 ≤ ta ∧ ta ≤ 255) (y : Int) (hy : 0 ≤ y ∧ y ≤ 65535) : Calls Try.prog 5 #[.agg #[vr], vu, vp, .int .u8 wh, .int .u8 ta, .int .u16 y] w (Ret fun v w' => v = .bool true ∧ Ext NoB w w') := by
 rcases Bool.eq_false_or_eq_true (readyB R rs plan) with hf | hf
 ·by_cases h0 : rs.length = 0
  ·exact CreepCut_z w R vr hm rs lv vu hx plan vp hp wh ta y hB hB2 hy hf h0
  ·rcases poss_09 (ready_is hf).2.1 with hc | hc
   ·exact CreepCut_c w R vr hm rs lv vu hx plan vp hp wh ta y hB hB2 hy hf (by omega) hc
   ·exact CreepCut_b w R vr hm rs lv vu hx plan vp hp wh ta y hB hB2 hy hf (by omega) hc
 ·exact CreepCut_a w R vr hm rs lv vu hx plan vp hp wh ta y hB hB2 hy hf
end Go.Proofs.Ytkkglkdnnfegkaa
