/-
  Walks through the functions of the seat, printed by a program of ours (gowalk), a theorem a function: what the call returns and what it leaves in memory.
-/
import Derived.Test.YtkkglkdnnfegkaaBc
import Derived.Test.YtkkglkdnnfegkaaEnga
import Derived.Test.YtkkglkdnnfegkaaEngb
set_option linter.unusedSimpArgs false
set_option linter.unusedVariables false
namespace Go.Proofs.Ytkkglkdnnfegkaa
open Go.RowKit Go.Shelf Go.Eng
set_option maxHeartbeats 4000000 in
theorem CreepCut_a (w : World) (R : List (Int × Int)) (vr : Value) (hm : SlAt w vr 2 R.length (pairs R)) (rs : List RunD) (lv : List Value) (vu : Value) (hx : RunsAt w vu lv rs) (plan : List Seg) (vp : Value) (hp : SlAt w vp 3 plan.length (trips plan)) (wh ta y : Int) (hB : 0 ≤ wh ∧ wh ≤ 255) (hB2 : 0 ≤ ta ∧ ta ≤ 255) (hy : 0 ≤ y ∧ y ≤ 65535) (hf : readyB R rs plan = false) :
  Calls Try.prog 5 #[(Value.agg #[vr]), vu, vp, (Value.int .u8 wh), (Value.int .u8 ta), (Value.int .u16 y)] w (Ret fun v w' => v = .bool true ∧ Ext NoB w w') := by
 refine calls_enter Try.func5 rfl fun a0 hA0 => ?_
 replace hA0 : Fr 241 [] [(0, (Value.agg #[vr])), (1, vu), (2, vp), (3, (Value.int .u8 wh)), (4, (Value.int .u8 ta)), (5, (Value.int .u16 y))] a0 := hA0
 have hS0 : Sep NoB w w [(sl vr 2 R.length (pairs R)), (runsR false vu lv rs), (sl vp 3 plan.length (trips plan))] := sep_ro ⟨rfl, hm, rfl, hx, rfl, hp, trivial⟩
 refine c_seq ?_
 refine c_region ?_
 refine stw hA0 (op_box hS0 rfl (hA0.ev rfl) (cs := [vr]) rfl) rfl rfl (by decide) ?_
 rintro a1 _ w3 ⟨b4, rfl, hS5⟩ hA2; clear hA0 hS0 a0
 refine st hA2 (op_assign rfl (evc _ _)) rfl rfl (by decide) fun a6 hA7 => ?_; clear hA2 a1
 refine wl_nil ?_
 refine then_n ?_
 refine c_seq ?_
 refine c_seq ?_
 refine c_region ?_
 refine st hA7 (op_loadA rfl ty_24 (hA7.ev rfl) (hS5.bk 0 rfl) (l := [vr]) rfl rfl) rfl rfl (by decide) fun a8 hA9 => ?_; clear hA7 a6
 refine st hA9 (op_move rfl (hA9.ev rfl)) rfl rfl (by decide) fun a10 hA11 => ?_; clear hA9 a8
 refine st hA11 (op_move rfl (hA11.ev rfl)) rfl rfl (by decide) fun a12 hA13 => ?_; clear hA11 a10
 refine stw hA13 (op_call rfl en_27 (ev3 (hA13.ev rfl) (hA13.ev rfl) (hA13.ev rfl)) (ready_ok _ R _ (hS5.sk 1 rfl) rs _ _ (runs_at (hS5.ok 2 _ rfl)) plan _ (hS5.sk 3 rfl))) rfl rfl (by decide) ?_
 rintro a14 _ w16 ⟨rfl, hE17⟩ hA15; have hS18 := hS5.step hE17; clear hE17 hA13 hS5 a12
 rw [hf] at hA15
 refine st hA15 (op_not rfl (hA15.ev rfl)) rfl rfl (by decide) fun a19 hA20 => ?_; clear hA15 a14
 refine st hA20 (op_move rfl (hA20.ev rfl)) rfl rfl (by decide) fun a21 hA22 => ?_; clear hA20 a19
 refine skp hA22 rfl rfl rfl rfl rfl (by decide) fun a23 hA24 => ?_; clear hA22 a21
 refine skp hA24 rfl rfl rfl rfl rfl (by decide) fun a25 hA26 => ?_; clear hA24 a23
 refine skp hA26 rfl rfl rfl rfl rfl (by decide) fun a27 hA28 => ?_; clear hA26 a25
 refine st hA28 (op_pick_t rfl (hA28.ev rfl) (evc _ _)) rfl rfl (by decide) fun a29 hA30 => ?_; clear hA28 a27
 refine wl_nil ?_
 refine then_n ?_
 refine c_true hA30 rfl ?_
 refine c_seq ?_
 have hA31 := hA30.as [] rfl; clear hA30
 refine c_region ?_
 refine stw hA31 (op_call rfl en_17 ev0 (awake_ok _)) rfl rfl (by decide) ?_
 rintro a32 _ w34 ⟨rfl, hE35⟩ hA33; have hS36 := hS18.step hE35; clear hE35 hA31 hS18 a29
 refine st hA33 (op_assign rfl (hA33.ev rfl)) rfl rfl (by decide) fun a37 hA38 => ?_; clear hA33 a32
 refine wl_nil ?_
 refine then_n ?_
 refine c_ret ?_
 refine then_ret ?_
 refine fin_run hA38 (.inl rfl) (run_results1 hA38 rfl (.tmp rfl)) ?_
 exact ⟨rfl, hS36.ext⟩
set_option maxHeartbeats 4000000 in
theorem CreepCut_z (w : World) (R : List (Int × Int)) (vr : Value) (hm : SlAt w vr 2 R.length (pairs R)) (rs : List RunD) (lv : List Value) (vu : Value) (hx : RunsAt w vu lv rs) (plan : List Seg) (vp : Value) (hp : SlAt w vp 3 plan.length (trips plan)) (wh ta y : Int) (hB : 0 ≤ wh ∧ wh ≤ 255) (hB2 : 0 ≤ ta ∧ ta ≤ 255) (hy : 0 ≤ y ∧ y ≤ 65535) (hf : readyB R rs plan = true) (h0 : rs.length = 0) :
  Calls Try.prog 5 #[(Value.agg #[vr]), vu, vp, (Value.int .u8 wh), (Value.int .u8 ta), (Value.int .u16 y)] w (Ret fun v w' => v = .bool true ∧ Ext NoB w w') := by
 refine calls_enter Try.func5 rfl fun a0 hA0 => ?_
 replace hA0 : Fr 241 [] [(0, (Value.agg #[vr])), (1, vu), (2, vp), (3, (Value.int .u8 wh)), (4, (Value.int .u8 ta)), (5, (Value.int .u16 y))] a0 := hA0
 have hS0 : Sep NoB w w [(sl vr 2 R.length (pairs R)), (runsR false vu lv rs), (sl vp 3 plan.length (trips plan))] := sep_ro ⟨rfl, hm, rfl, hx, rfl, hp, trivial⟩
 refine c_seq ?_
 refine c_region ?_
 refine stw hA0 (op_box hS0 rfl (hA0.ev rfl) (cs := [vr]) rfl) rfl rfl (by decide) ?_
 rintro a1 _ w3 ⟨b4, rfl, hS5⟩ hA2; clear hA0 hS0 a0
 refine st hA2 (op_assign rfl (evc _ _)) rfl rfl (by decide) fun a6 hA7 => ?_; clear hA2 a1
 refine wl_nil ?_
 refine then_n ?_
 refine c_seq ?_
 refine c_seq ?_
 refine c_region ?_
 refine st hA7 (op_loadA rfl ty_24 (hA7.ev rfl) (hS5.bk 0 rfl) (l := [vr]) rfl rfl) rfl rfl (by decide) fun a8 hA9 => ?_; clear hA7 a6
 refine st hA9 (op_move rfl (hA9.ev rfl)) rfl rfl (by decide) fun a10 hA11 => ?_; clear hA9 a8
 refine st hA11 (op_move rfl (hA11.ev rfl)) rfl rfl (by decide) fun a12 hA13 => ?_; clear hA11 a10
 refine stw hA13 (op_call rfl en_27 (ev3 (hA13.ev rfl) (hA13.ev rfl) (hA13.ev rfl)) (ready_ok _ R _ (hS5.sk 1 rfl) rs _ _ (runs_at (hS5.ok 2 _ rfl)) plan _ (hS5.sk 3 rfl))) rfl rfl (by decide) ?_
 rintro a14 _ w16 ⟨rfl, hE17⟩ hA15; have hS18 := hS5.step hE17; clear hE17 hA13 hS5 a12
 rw [hf] at hA15
 refine st hA15 (op_not rfl (hA15.ev rfl)) rfl rfl (by decide) fun a19 hA20 => ?_; clear hA15 a14
 refine st hA20 (op_move rfl (hA20.ev rfl)) rfl rfl (by decide) fun a21 hA22 => ?_; clear hA20 a19
 refine stg hA22 (op_move rfl (hA22.ev rfl)) rfl rfl rfl rfl (by decide) fun a23 hA24 => ?_; clear hA22 a21
 refine stg hA24 (op_lenS rfl un_25 (hA24.ev rfl) (runs_at (hS18.ok 2 _ rfl)).runs) rfl rfl rfl rfl (by decide) fun a25 hA26 => ?_; clear hA24 a23
 refine stg hA26 (op_eql rfl (hA26.ev rfl) (evc _ _)) rfl rfl rfl rfl (by decide) fun a27 hA28 => ?_; clear hA26 a25
 have hd29 : (rs.length : Int) = 0 := (by omega)
 rw [decide_eq_true hd29] at hA28
 refine st hA28 (op_pick_f rfl (hA28.ev rfl) (hA28.ev rfl)) rfl rfl (by decide) fun a30 hA31 => ?_; clear hA28 a27
 refine wl_nil ?_
 refine then_n ?_
 refine c_true hA31 rfl ?_
 refine c_seq ?_
 have hA32 := hA31.as [] rfl; clear hA31
 refine c_region ?_
 refine stw hA32 (op_call rfl en_17 ev0 (awake_ok _)) rfl rfl (by decide) ?_
 rintro a33 _ w35 ⟨rfl, hE36⟩ hA34; have hS37 := hS18.step hE36; clear hE36 hA32 hS18 a30
 refine st hA34 (op_assign rfl (hA34.ev rfl)) rfl rfl (by decide) fun a38 hA39 => ?_; clear hA34 a33
 refine wl_nil ?_
 refine then_n ?_
 refine c_ret ?_
 refine then_ret ?_
 refine fin_run hA39 (.inl rfl) (run_results1 hA39 rfl (.tmp rfl)) ?_
 exact ⟨rfl, hS37.ext⟩
set_option maxHeartbeats 4000000 in
theorem CreepCut_b (w : World) (R : List (Int × Int)) (vr : Value) (hm : SlAt w vr 2 R.length (pairs R)) (rs : List RunD) (lv : List Value) (vu : Value) (hx : RunsAt w vu lv rs) (plan : List Seg) (vp : Value) (hp : SlAt w vp 3 plan.length (trips plan)) (wh ta y : Int) (hB : 0 ≤ wh ∧ wh ≤ 255) (hB2 : 0 ≤ ta ∧ ta ≤ 255) (hy : 0 ≤ y ∧ y ≤ 65535) (hf : readyB R rs plan = true) (h0 : 0 < rs.length) (hc : possF R rs = 9) :
  Calls Try.prog 5 #[(Value.agg #[vr]), vu, vp, (Value.int .u8 wh), (Value.int .u8 ta), (Value.int .u16 y)] w (Ret fun v w' => v = .bool true ∧ Ext NoB w w') := by
 refine calls_enter Try.func5 rfl fun a0 hA0 => ?_
 replace hA0 : Fr 241 [] [(0, (Value.agg #[vr])), (1, vu), (2, vp), (3, (Value.int .u8 wh)), (4, (Value.int .u8 ta)), (5, (Value.int .u16 y))] a0 := hA0
 have hrd := ready_is hf; have hth := hrd.1; have he := hrd.2.1; have h6 := hth.mat; have h9 := hth.runs; have h12 := hth.plan; have hp8 := hrd.2.2.1; have hsb := hrd.2.2.2; have hcm := check_mat (enter_mat he); have hR := hcm.1; have hR1 := hcm.2.1; have hR3 := hR.1; have hV := enter_runs he; have hs : ∀ i, i < plan.length → SegV R.length (plan.getD i (0, 0, 0)) := fun i hi => segV_of (List.all_eq_true.1 hsb i (List.mem_range.2 hi)); have hrt := ratesF_len R rs; have hle := allowed_le (rs := rs) hR; have hle_ : planF R rs plan = 9 := (plan_p (by rw [hc]; decide)).trans hc
 have hS0 : Sep NoB w w [(sl vr 2 R.length (pairs R)), (runsR false vu lv rs), (sl vp 3 plan.length (trips plan))] := sep_ro ⟨rfl, hm, rfl, hx, rfl, hp, trivial⟩
 refine c_seq ?_
 refine c_region ?_
 refine stw hA0 (op_box hS0 rfl (hA0.ev rfl) (cs := [vr]) rfl) rfl rfl (by decide) ?_
 rintro a1 _ w3 ⟨b4, rfl, hS5⟩ hA2; clear hA0 hS0 a0
 refine st hA2 (op_assign rfl (evc _ _)) rfl rfl (by decide) fun a6 hA7 => ?_; clear hA2 a1
 refine wl_nil ?_
 refine then_n ?_
 refine c_seq ?_
 refine c_seq ?_
 refine c_region ?_
 refine st hA7 (op_loadA rfl ty_24 (hA7.ev rfl) (hS5.bk 0 rfl) (l := [vr]) rfl rfl) rfl rfl (by decide) fun a8 hA9 => ?_; clear hA7 a6
 refine st hA9 (op_move rfl (hA9.ev rfl)) rfl rfl (by decide) fun a10 hA11 => ?_; clear hA9 a8
 refine st hA11 (op_move rfl (hA11.ev rfl)) rfl rfl (by decide) fun a12 hA13 => ?_; clear hA11 a10
 refine stw hA13 (op_call rfl en_27 (ev3 (hA13.ev rfl) (hA13.ev rfl) (hA13.ev rfl)) (ready_ok _ R _ (hS5.sk 1 rfl) rs _ _ (runs_at (hS5.ok 2 _ rfl)) plan _ (hS5.sk 3 rfl))) rfl rfl (by decide) ?_
 rintro a14 _ w16 ⟨rfl, hE17⟩ hA15; have hS18 := hS5.step hE17; clear hE17 hA13 hS5 a12
 rw [hf] at hA15
 refine st hA15 (op_not rfl (hA15.ev rfl)) rfl rfl (by decide) fun a19 hA20 => ?_; clear hA15 a14
 refine st hA20 (op_move rfl (hA20.ev rfl)) rfl rfl (by decide) fun a21 hA22 => ?_; clear hA20 a19
 refine stg hA22 (op_move rfl (hA22.ev rfl)) rfl rfl rfl rfl (by decide) fun a23 hA24 => ?_; clear hA22 a21
 refine stg hA24 (op_lenS rfl un_25 (hA24.ev rfl) (runs_at (hS18.ok 2 _ rfl)).runs) rfl rfl rfl rfl (by decide) fun a25 hA26 => ?_; clear hA24 a23
 refine stg hA26 (op_eql rfl (hA26.ev rfl) (evc _ _)) rfl rfl rfl rfl (by decide) fun a27 hA28 => ?_; clear hA26 a25
 have hd29 : ¬ ((rs.length : Int) = 0) := (by omega)
 rw [decide_eq_false hd29] at hA28
 refine st hA28 (op_pick_f rfl (hA28.ev rfl) (hA28.ev rfl)) rfl rfl (by decide) fun a30 hA31 => ?_; clear hA28 a27
 refine wl_nil ?_
 refine then_n ?_
 refine c_false hA31 rfl ?_
 refine c_skip ?_
 refine then_n ?_
 refine c_seq ?_
 have hA32 := hA31.as [(6, (bptr b4 0)), (1, vu), (2, vp), (3, (Value.int .u8 wh)), (4, (Value.int .u8 ta)), (5, (Value.int .u16 y))] rfl; clear hA31
 refine c_region ?_
 refine stw hA32 (op_buildSlice hS18 rfl pv0 un_25 ty_54 ze_54 (by decide) (cs := []) bs_54_0_) rfl rfl (by decide) ?_
 rintro a33 _ w35 ⟨b36, rfl, hS37⟩ hA34; clear hA32 hS18 a30
 refine st hA34 (op_move rfl (hA34.ev rfl)) rfl rfl (by decide) fun a38 hA39 => ?_; clear hA34 a33
 have hS40 := hS37.blk_row (i := 0) (sz := 3) (n := 0) rfl rfl (by decide); clear hS37
 refine stw hA39 (op_append hS40 rfl un_25 el_54 (hA39.ev rfl) (hA39.ev rfl) (i := 0) rfl (runs_at (hS40.ok 3 _ rfl)).runs (runs_one (runs_at (hS40.ok 3 _ rfl)).len (runs_at (hS40.ok 3 _ rfl)).segs) (by simp only [maxLen, replAt, List.length_take, List.length_drop, List.length_append, List.length_cons, List.length_nil]; omega) (by first | omega | (simp only [maxLen, replAt, List.length_take, List.length_drop, List.length_append, List.length_cons, List.length_nil]; omega))) rfl rfl (by decide) ?_
 intro a41 v44 w43 hS45 hA42
 have hS46 := hS45.row_say (i := 0) rfl (n' := rs.length) (xs' := (vtrips (runV lv rs))) (by simp) (by simp); clear hS45 hA39 hS40 a38
 refine st hA42 (op_assign rfl (hA42.ev rfl)) rfl rfl (by decide) fun a47 hA48 => ?_; clear hA42 a41
 refine wl_nil ?_
 refine then_n ?_
 refine c_seq ?_
 refine c_region ?_
 refine st hA48 (op_move rfl (hA48.ev rfl)) rfl rfl (by decide) fun a49 hA50 => ?_; clear hA48 a47
 refine st hA50 (op_conv un_5 un_3 rfl (hA50.ev rfl) (v := wh) (wrap_i64 (by omega) (by omega))) rfl rfl (by decide) fun a51 hA52 => ?_; clear hA50 a49
 refine st hA52 (op_move rfl (hA52.ev rfl)) rfl rfl (by decide) fun a53 hA54 => ?_; clear hA52 a51
 refine st hA54 (op_lenS rfl un_25 (hA54.ev rfl) (SlAt.of_row (hS46.ok_row 0 rfl))) rfl rfl (by decide) fun a55 hA56 => ?_; clear hA54 a53
 refine st hA56 (op_rem rfl (hA56.ev rfl) (hA56.ev rfl) (by omega)) rfl rfl (by decide) fun a57 hA58 => ?_; clear hA56 a55
 refine st hA58 (op_assign rfl (hA58.ev rfl)) rfl rfl (by decide) fun a59 hA60 => ?_; clear hA58 a57
 refine wl_nil ?_
 refine then_n ?_
 refine c_seq ?_
 have hA61 := hA60.as [(14, (Value.int .i64 ((wh).tmod (rs.length : Int)))), (13, v44), (6, (bptr b4 0)), (1, vu), (2, vp), (4, (Value.int .u8 ta)), (5, (Value.int .u16 y))] rfl; clear hA60
 obtain ⟨kk, hz_kk, hb_kk⟩ := rem_nat (n := wh) (m := rs.length) hB.1 (by omega); rw [hz_kk] at hA61
 have hrk := hV.runs kk hb_kk; have hs8 := hrk.len
 refine c_region ?_
 refine st hA61 (op_move rfl (hA61.ev rfl)) rfl rfl (by decide) fun a62 hA63 => ?_; clear hA61 a59
 refine st hA63 (op_move rfl (hA63.ev rfl)) rfl rfl (by decide) fun a64 hA65 => ?_; clear hA63 a62
 refine st hA65 (op_indexS rfl un_25 ty_54 (hA65.ev rfl) (i := kk) (hA65.ev rfl) (SlAt.of_row (hS46.ok_row 0 rfl)) (by decide) (by omega)) rfl rfl (by decide) fun a66 hA67 => ?_; clear hA65 a64
 refine st hA67 (op_fieldS rfl fd_54_0 (hA67.ev rfl) (SlAt.of_row (hS46.ok_row 0 rfl)) (by rw [((SlAt.of_row (hS46.ok_row 0 rfl))).1]; omega)) rfl rfl (by decide) fun a68 hA69 => ?_; clear hA67 a66
 refine st hA69 (op_load1E rfl ty_51 (hA69.ev rfl) (SlAt.of_row (hS46.ok_row 0 rfl)) (runs_at0 (runs_at (hS46.ok 3 _ rfl)).len (by omega))) rfl rfl (by decide) fun a70 hA71 => ?_; clear hA69 a68
 refine st hA71 (op_assign rfl (hA71.ev rfl)) rfl rfl (by decide) fun a72 hA73 => ?_; clear hA71 a70
 refine wl_nil ?_
 refine then_n ?_
 refine c_seq ?_
 refine c_region ?_
 refine st hA73 (op_assign rfl (evc _ _)) rfl rfl (by decide) fun a74 hA75 => ?_; clear hA73 a72
 refine wl_nil ?_
 refine then_n ?_
 refine c_seq ?_
 refine c_region ?_
 refine st hA75 (op_move rfl (hA75.ev rfl)) rfl rfl (by decide) fun a76 hA77 => ?_; clear hA75 a74
 refine st hA77 (op_conv un_5 un_3 rfl (hA77.ev rfl) (v := ta) (wrap_i64 (by omega) (by omega))) rfl rfl (by decide) fun a78 hA79 => ?_; clear hA77 a76
 refine st hA79 (op_field rfl fd_24_0 (hA79.ev rfl)) rfl rfl (by decide) fun a80 hA81 => ?_; clear hA79 a78
 refine st hA81 (op_load1 rfl ty_22 (hA81.ev rfl) (hS46.bk 1 rfl) rfl) rfl rfl (by decide) fun a82 hA83 => ?_; clear hA81 a80
 refine st hA83 (op_lenS rfl un_22 (hA83.ev rfl) (hS46.sk 2 rfl)) rfl rfl (by decide) fun a84 hA85 => ?_; clear hA83 a82
 refine st hA85 (op_rem rfl (hA85.ev rfl) (hA85.ev rfl) (by omega)) rfl rfl (by decide) fun a86 hA87 => ?_; clear hA85 a84
 refine st hA87 (op_build rfl (pv1 (hA87.ev rfl)) (bd_56_0i _)) rfl rfl (by decide) fun a88 hA89 => ?_; clear hA87 a86
 refine stw hA89 (op_alloc hS46 rfl ze_56 (cs := [(Value.int .i64 0), (Value.int .i64 0), (Value.int .i64 0)]) rfl) rfl rfl (by decide) ?_
 rintro a90 _ w92 ⟨b93, rfl, hS94⟩ hA91; clear hA89 hS46 a88
 refine sts hA91 (op_store hS94 rfl ty_56 (hA91.ev rfl) (hA91.ev rfl) (i := 0) rfl (vs := [(Value.int .i64 ((ta).tmod (R.length : Int))), (Value.int .i64 0), (Value.int .i64 0)]) rfl rfl rfl (Nat.le_of_ble_eq_true rfl)) rfl rfl ?_
 intro _ w95 hS96 hA97; clear hA91
 have hS98 : Sep NoB w w95 [(blk b93 56 [(Value.int .i64 ((ta).tmod (R.length : Int))), (Value.int .i64 0), (Value.int .i64 0)]), (row v44 54 3 rs.length (vtrips (runV lv rs))), (blk b4 24 [vr]), (sl vr 2 R.length (pairs R)), (runsR false vu lv rs), (sl vp 3 plan.length (trips plan))] := hS96; clear hS96 hS94
 refine wl_nil ?_
 refine then_n ?_
 refine c_seq ?_
 refine c_seq ?_
 have hA99 := hA97.as [(17, (bptr b93 0)), (16, (Value.int .i64 0)), (15, (lv.getD kk nilS)), (14, (Value.int .i64 (kk : Int))), (13, v44), (6, (bptr b4 0)), (1, vu), (2, vp), (4, (Value.int .u8 ta)), (5, (Value.int .u16 y))] rfl; clear hA97
 refine c_region ?_
 refine st hA99 (op_move rfl (hA99.ev rfl)) rfl rfl (by decide) fun a100 hA101 => ?_; clear hA99 a90
 refine st hA101 (op_lenS rfl un_51 (hA101.ev rfl) ((runs_at (hS98.ok 4 _ rfl)).segs kk (by omega))) rfl rfl (by decide) fun a102 hA103 => ?_; clear hA101 a100
 refine st hA103 (op_gtr rfl (hA103.ev rfl) (evc _ _)) rfl rfl (by decide) fun a104 hA105 => ?_; clear hA103 a102
 refine wl_nil ?_
 refine then_n ?_
 by_cases hb106 : 0 < ((rs.getD kk run0).segs.length : Int)
 ·skip
  rw [decide_eq_true hb106] at hA105
  refine c_true hA105 rfl ?_
  refine c_seq ?_
  refine c_region ?_
  refine st hA105 (op_move rfl (hA105.ev rfl)) rfl rfl (by decide) fun a107 hA108 => ?_; clear hA105 a104
  refine st hA108 (op_conv un_5 un_3 rfl (hA108.ev rfl) (v := ta) (wrap_i64 (by omega) (by omega))) rfl rfl (by decide) fun a109 hA110 => ?_; clear hA108 a107
  refine st hA110 (op_move rfl (hA110.ev rfl)) rfl rfl (by decide) fun a111 hA112 => ?_; clear hA110 a109
  refine st hA112 (op_lenS rfl un_51 (hA112.ev rfl) ((runs_at (hS98.ok 4 _ rfl)).segs kk (by omega))) rfl rfl (by decide) fun a113 hA114 => ?_; clear hA112 a111
  refine st hA114 (op_rem rfl (hA114.ev rfl) (hA114.ev rfl) (by omega)) rfl rfl (by decide) fun a115 hA116 => ?_; clear hA114 a113
  refine st hA116 (op_assign rfl (hA116.ev rfl)) rfl rfl (by decide) fun a117 hA118 => ?_; clear hA116 a115
  refine wl_nil ?_
  refine then_n ?_
  refine c_seq ?_
  have hA119 := hA118.as [(16, (Value.int .i64 ((ta).tmod ((rs.getD kk run0).segs.length : Int)))), (17, (bptr b93 0)), (15, (lv.getD kk nilS)), (14, (Value.int .i64 (kk : Int))), (13, v44), (6, (bptr b4 0)), (1, vu), (2, vp), (5, (Value.int .u16 y))] rfl; clear hA118
  obtain ⟨ii, hz_ii, hb_ii⟩ := rem_nat (n := ta) (m := (rs.getD kk run0).segs.length) hB2.1 (by omega); rw [hz_ii] at hA119
  have hsg := (hrk.segs ii hb_ii).h; have hsgb := (hrk.segs ii hb_ii).b; have hm1 := rem_bd (y := y) (d := ((rs.getD kk run0).segs.getD ii (0, 0, 0)).2.1 + 1) hy.1 (by omega); have hm2 := rem_bd (y := y) (d := ((rs.getD kk run0).segs.getD ii (0, 0, 0)).2.2 - ((rs.getD kk run0).segs.getD ii (0, 0, 0)).2.1 + 1) hy.1 (by omega)
  refine c_region ?_
  refine st hA119 (op_move rfl (hA119.ev rfl)) rfl rfl (by decide) fun a120 hA121 => ?_; clear hA119 a117
  refine st hA121 (op_move rfl (hA121.ev rfl)) rfl rfl (by decide) fun a122 hA123 => ?_; clear hA121 a120
  refine st hA123 (op_indexS rfl un_51 ty_56 (hA123.ev rfl) (i := ii) (hA123.ev rfl) ((runs_at (hS98.ok 4 _ rfl)).segs kk (by omega)) (by decide) (by omega)) rfl rfl (by decide) fun a124 hA125 => ?_; clear hA123 a122
  refine st hA125 (op_fieldS rfl fd_56_1 (hA125.ev rfl) ((runs_at (hS98.ok 4 _ rfl)).segs kk (by omega)) (by rw [(((runs_at (hS98.ok 4 _ rfl)).segs kk (by omega))).1]; omega)) rfl rfl (by decide) fun a126 hA127 => ?_; clear hA125 a124
  refine st hA127 (op_loadAE rfl ty_48 (hA127.ev rfl) ((runs_at (hS98.ok 4 _ rfl)).segs kk (by omega)) (trips_sub (by omega)) rfl (by decide)) rfl rfl (by decide) fun a128 hA129 => ?_; clear hA127 a126
  refine stw hA129 (op_alloc hS98 rfl ze_48 (cs := [(Value.int .i64 0), (Value.int .i64 0)]) rfl) rfl rfl (by decide) ?_
  rintro a130 _ w132 ⟨b133, rfl, hS134⟩ hA131; clear hA129 hS98 a128
  refine sts hA131 (op_store hS134 rfl ty_48 (hA131.ev rfl) (hA131.ev rfl) (i := 0) rfl (vs := [(Value.int .i64 ((((rs.getD kk run0).segs).getD ii (0, 0, 0)).2.1)), (Value.int .i64 ((((rs.getD kk run0).segs).getD ii (0, 0, 0)).2.2))]) rfl rfl rfl (Nat.le_of_ble_eq_true rfl)) rfl rfl ?_
  intro _ w135 hS136 hA137; clear hA131
  have hS138 : Sep NoB w w135 [(blk b133 48 [(Value.int .i64 ((((rs.getD kk run0).segs).getD ii (0, 0, 0)).2.1)), (Value.int .i64 ((((rs.getD kk run0).segs).getD ii (0, 0, 0)).2.2))]), (blk b93 56 [(Value.int .i64 ((ta).tmod (R.length : Int))), (Value.int .i64 0), (Value.int .i64 0)]), (row v44 54 3 rs.length (vtrips (runV lv rs))), (blk b4 24 [vr]), (sl vr 2 R.length (pairs R)), (runsR false vu lv rs), (sl vp 3 plan.length (trips plan))] := hS136; clear hS136 hS134
  refine wl_nil ?_
  refine then_n ?_
  refine c_seq ?_
  have hA139 := hA137.as [(18, (bptr b133 0)), (16, (Value.int .i64 (ii : Int))), (17, (bptr b93 0)), (15, (lv.getD kk nilS)), (14, (Value.int .i64 (kk : Int))), (13, v44), (6, (bptr b4 0)), (1, vu), (2, vp), (5, (Value.int .u16 y))] rfl; clear hA137
  refine c_drawn mixed hA139 hS138 12 [[], [], [0, 1], [2], [3], [], [5], [], [7], [8], [6, 9], [10]] [(Yd.val (lv.getD kk nilS)), (Yd.val (Value.int .i64 (ii : Int))), (Yd.val (eptr (lv.getD kk nilS) (ii * 3))), (Yd.val (eptr (lv.getD kk nilS) (ii * 3 + 0))), (Yd.val (Value.int .i64 ((((rs.getD kk run0).segs).getD ii (0, 0, 0)).1))), (Yd.val (Value.int .u16 y)), (Yd.val (Value.int .i64 y)), (Yd.val (bptr b133 0)), (Yd.val (Value.int .i64 ((((rs.getD kk run0).segs).getD ii (0, 0, 0)).2.1))), (Yd.val (Value.int .i64 (((((rs.getD kk run0).segs).getD ii (0, 0, 0)).2.1) + 1))), (Yd.val (Value.int .i64 ((y).tmod (((((rs.getD kk run0).segs).getD ii (0, 0, 0)).2.1) + 1)))), (Yd.val (Value.agg #[(Value.int .i64 ((y).tmod (((((rs.getD kk run0).segs).getD ii (0, 0, 0)).2.1) + 1))), (Value.int .i64 0)]))] (by decide +kernel) rfl rfl ?_ ?_
  ·skip
   refine ⟨fun a w hA hS hd => by exact opG_of rfl (dv (op_move rfl (hA.ev rfl)) hS rfl), ?_⟩
   refine ⟨fun a w hA hS hd => by exact opG_of rfl (dv (op_move rfl (hA.ev rfl)) hS rfl), ?_⟩
   refine ⟨fun a w hA hS hd => by have e0 := has_ev (hd 0 (by decide)) rfl (fun _ h => h); have e1 := has_ev (hd 1 (by decide)) rfl (fun _ h => h); exact opG_of rfl (dv (op_indexS rfl un_51 ty_56 (tmp_ev e0) (i := ii) (tmp_ev e1) ((runs_at (hS.ok 5 _ rfl)).segs kk (by omega)) (by decide) (by omega)) hS rfl), ?_⟩
   refine ⟨fun a w hA hS hd => by have e2 := has_ev (hd 2 (by decide)) rfl (fun _ h => h); exact opG_of rfl (dv (op_fieldS rfl fd_56_0 (tmp_ev e2) ((runs_at (hS.ok 5 _ rfl)).segs kk (by omega)) (by rw [(((runs_at (hS.ok 5 _ rfl)).segs kk (by omega))).1]; omega)) hS rfl), ?_⟩
   refine ⟨fun a w hA hS hd => by have e3 := has_ev (hd 3 (by decide)) rfl (fun _ h => h); exact opG_of rfl (dv (op_load1E rfl ty_3 (tmp_ev e3) ((runs_at (hS.ok 5 _ rfl)).segs kk (by omega)) (trips_at0 (by omega))) hS rfl), ?_⟩
   refine ⟨fun a w hA hS hd => by exact opG_of rfl (dv (op_move rfl (hA.ev rfl)) hS rfl), ?_⟩
   refine ⟨fun a w hA hS hd => by have e5 := has_ev (hd 5 (by decide)) rfl (fun _ h => h); exact opG_of rfl (dv (op_conv un_52 un_3 rfl (tmp_ev e5) (v := y) (wrap_i64 (by omega) (by omega))) hS rfl), ?_⟩
   refine ⟨fun a w hA hS hd => by exact opG_of rfl (dv (op_field rfl fd_48_0 (hA.ev rfl)) hS rfl), ?_⟩
   refine ⟨fun a w hA hS hd => by have e7 := has_ev (hd 7 (by decide)) rfl (fun _ h => h); exact opG_of rfl (dv (op_load1 rfl ty_3 (tmp_ev e7) (hS.bk 0 rfl) rfl) hS rfl), ?_⟩
   refine ⟨fun a w hA hS hd => by have e8 := has_ev (hd 8 (by decide)) rfl (fun _ h => h); exact opG_of rfl (dv (op_add rfl (tmp_ev e8) (evc _ _) (by omega) (by omega)) hS rfl), ?_⟩
   refine ⟨fun a w hA hS hd => by have e6 := has_ev (hd 6 (by decide)) rfl (fun _ h => h); have e9 := has_ev (hd 9 (by decide)) rfl (fun _ h => h); exact opG_of rfl (dv (op_rem rfl (tmp_ev e6) (tmp_ev e9) (by omega)) hS rfl), ?_⟩
   refine ⟨fun a w hA hS hd => by have e10 := has_ev (hd 10 (by decide)) rfl (fun _ h => h); exact opG_of rfl (dv (op_build rfl (pv1 (tmp_ev e10)) (bd_48_0i _)) hS rfl), ?_⟩
   trivial
  intro a141 w142 hA143 hS144 hH145; clear hA139 hS138
  have hA146 := hA143.add (has_ev (hH145 4 (by decide)) rfl (fun _ h => h)); clear hA143
  have hA147 := hA146.add (has_ev (hH145 11 (by decide)) rfl (fun _ h => h)); clear hA146
  clear hH145
  refine st hA147 (op_build rfl (pv2 (hA147.ev rfl) (hA147.ev rfl)) (bd_56_0i_1iia _ _ _)) rfl rfl (by decide) fun a148 hA149 => ?_; clear hA147 a141
  refine sts hA149 (op_store hS144 rfl ty_56 (hA149.ev rfl) (hA149.ev rfl) (i := 1) rfl (vs := [(Value.int .i64 ((((rs.getD kk run0).segs).getD ii (0, 0, 0)).1)), (Value.int .i64 ((y).tmod (((((rs.getD kk run0).segs).getD ii (0, 0, 0)).2.1) + 1))), (Value.int .i64 0)]) rfl rfl rfl (Nat.le_of_ble_eq_true rfl)) rfl rfl ?_
  intro _ w150 hS151 hA152; clear hA149
  have hS153 : Sep NoB w w150 [(blk b133 48 [(Value.int .i64 ((((rs.getD kk run0).segs).getD ii (0, 0, 0)).2.1)), (Value.int .i64 ((((rs.getD kk run0).segs).getD ii (0, 0, 0)).2.2))]), (blk b93 56 [(Value.int .i64 ((((rs.getD kk run0).segs).getD ii (0, 0, 0)).1)), (Value.int .i64 ((y).tmod (((((rs.getD kk run0).segs).getD ii (0, 0, 0)).2.1) + 1))), (Value.int .i64 0)]), (row v44 54 3 rs.length (vtrips (runV lv rs))), (blk b4 24 [vr]), (sl vr 2 R.length (pairs R)), (runsR false vu lv rs), (sl vp 3 plan.length (trips plan))] := hS151; clear hS151 hS144
  refine wl_nil ?_
  refine then_n ?_
  refine c_seq ?_
  have hA154 := hA152.as [(18, (bptr b133 0)), (16, (Value.int .i64 (ii : Int))), (17, (bptr b93 0)), (15, (lv.getD kk nilS)), (14, (Value.int .i64 (kk : Int))), (13, v44), (6, (bptr b4 0)), (1, vu), (2, vp), (5, (Value.int .u16 y))] rfl; clear hA152
  refine c_drawn mixed hA154 hS153 12 [[], [0], [1], [], [3], [], [5], [], [7], [6, 8], [9], [4, 10]] [(Yd.val (bptr b93 1)), (Yd.val (bptr b93 1)), (Yd.val (Value.int .i64 ((y).tmod (((((rs.getD kk run0).segs).getD ii (0, 0, 0)).2.1) + 1)))), (Yd.val (Value.int .u16 y)), (Yd.val (Value.int .i64 y)), (Yd.val (bptr b133 1)), (Yd.val (Value.int .i64 ((((rs.getD kk run0).segs).getD ii (0, 0, 0)).2.2))), (Yd.val (bptr b133 0)), (Yd.val (Value.int .i64 ((((rs.getD kk run0).segs).getD ii (0, 0, 0)).2.1))), (Yd.val (Value.int .i64 (((((rs.getD kk run0).segs).getD ii (0, 0, 0)).2.2) - ((((rs.getD kk run0).segs).getD ii (0, 0, 0)).2.1)))), (Yd.val (Value.int .i64 ((((((rs.getD kk run0).segs).getD ii (0, 0, 0)).2.2) - ((((rs.getD kk run0).segs).getD ii (0, 0, 0)).2.1)) + 1))), (Yd.val (Value.int .i64 ((y).tmod ((((((rs.getD kk run0).segs).getD ii (0, 0, 0)).2.2) - ((((rs.getD kk run0).segs).getD ii (0, 0, 0)).2.1)) + 1))))] (by decide +kernel) rfl rfl ?_ ?_
  ·skip
   refine ⟨fun a w hA hS hd => by exact opG_of rfl (dv (op_field rfl fd_56_1 (hA.ev rfl)) hS rfl), ?_⟩
   refine ⟨fun a w hA hS hd => by have e0 := has_ev (hd 0 (by decide)) rfl (fun _ h => h); exact opG_of rfl (dv (op_field rfl fd_48_0 (tmp_ev e0)) hS rfl), ?_⟩
   refine ⟨fun a w hA hS hd => by have e1 := has_ev (hd 1 (by decide)) rfl (fun _ h => h); exact opG_of rfl (dv (op_load1 rfl ty_3 (tmp_ev e1) (hS.bk 1 rfl) rfl) hS rfl), ?_⟩
   refine ⟨fun a w hA hS hd => by exact opG_of rfl (dv (op_move rfl (hA.ev rfl)) hS rfl), ?_⟩
   refine ⟨fun a w hA hS hd => by have e3 := has_ev (hd 3 (by decide)) rfl (fun _ h => h); exact opG_of rfl (dv (op_conv un_52 un_3 rfl (tmp_ev e3) (v := y) (wrap_i64 (by omega) (by omega))) hS rfl), ?_⟩
   refine ⟨fun a w hA hS hd => by exact opG_of rfl (dv (op_field rfl fd_48_1 (hA.ev rfl)) hS rfl), ?_⟩
   refine ⟨fun a w hA hS hd => by have e5 := has_ev (hd 5 (by decide)) rfl (fun _ h => h); exact opG_of rfl (dv (op_load1 rfl ty_3 (tmp_ev e5) (hS.bk 0 rfl) rfl) hS rfl), ?_⟩
   refine ⟨fun a w hA hS hd => by exact opG_of rfl (dv (op_field rfl fd_48_0 (hA.ev rfl)) hS rfl), ?_⟩
   refine ⟨fun a w hA hS hd => by have e7 := has_ev (hd 7 (by decide)) rfl (fun _ h => h); exact opG_of rfl (dv (op_load1 rfl ty_3 (tmp_ev e7) (hS.bk 0 rfl) rfl) hS rfl), ?_⟩
   refine ⟨fun a w hA hS hd => by have e6 := has_ev (hd 6 (by decide)) rfl (fun _ h => h); have e8 := has_ev (hd 8 (by decide)) rfl (fun _ h => h); exact opG_of rfl (dv (op_sub rfl (tmp_ev e6) (tmp_ev e8) (by omega) (by omega)) hS rfl), ?_⟩
   refine ⟨fun a w hA hS hd => by have e9 := has_ev (hd 9 (by decide)) rfl (fun _ h => h); exact opG_of rfl (dv (op_add rfl (tmp_ev e9) (evc _ _) (by omega) (by omega)) hS rfl), ?_⟩
   refine ⟨fun a w hA hS hd => by have e4 := has_ev (hd 4 (by decide)) rfl (fun _ h => h); have e10 := has_ev (hd 10 (by decide)) rfl (fun _ h => h); exact opG_of rfl (dv (op_rem rfl (tmp_ev e4) (tmp_ev e10) (by omega)) hS rfl), ?_⟩
   trivial
  intro a156 w157 hA158 hS159 hH160; clear hA154 hS153
  have hA161 := hA158.add (has_ev (hH160 2 (by decide)) rfl (fun _ h => h)); clear hA158
  have hA162 := hA161.add (has_ev (hH160 11 (by decide)) rfl (fun _ h => h)); clear hA161
  clear hH160
  refine st hA162 (op_add rfl (hA162.ev rfl) (hA162.ev rfl) (by omega) (by omega)) rfl rfl (by decide) fun a163 hA164 => ?_; clear hA162 a156
  refine st hA164 (op_field rfl fd_56_1 (hA164.ev rfl)) rfl rfl (by decide) fun a165 hA166 => ?_; clear hA164 a163
  refine st hA166 (op_field rfl fd_48_1 (hA166.ev rfl)) rfl rfl (by decide) fun a167 hA168 => ?_; clear hA166 a165
  refine sts hA168 (op_store hS159 rfl ty_3 (hA168.ev rfl) (hA168.ev rfl) (i := 1) rfl (vs := [(Value.int .i64 (((y).tmod (((((rs.getD kk run0).segs).getD ii (0, 0, 0)).2.1) + 1)) + ((y).tmod ((((((rs.getD kk run0).segs).getD ii (0, 0, 0)).2.2) - ((((rs.getD kk run0).segs).getD ii (0, 0, 0)).2.1)) + 1))))]) rfl rfl rfl (Nat.le_of_ble_eq_true rfl)) rfl rfl ?_
  intro _ w169 hS170 hA171; clear hA168
  have hS172 : Sep NoB w w169 [(blk b133 48 [(Value.int .i64 ((((rs.getD kk run0).segs).getD ii (0, 0, 0)).2.1)), (Value.int .i64 ((((rs.getD kk run0).segs).getD ii (0, 0, 0)).2.2))]), (blk b93 56 [(Value.int .i64 ((((rs.getD kk run0).segs).getD ii (0, 0, 0)).1)), (Value.int .i64 ((y).tmod (((((rs.getD kk run0).segs).getD ii (0, 0, 0)).2.1) + 1))), (Value.int .i64 (((y).tmod (((((rs.getD kk run0).segs).getD ii (0, 0, 0)).2.1) + 1)) + ((y).tmod ((((((rs.getD kk run0).segs).getD ii (0, 0, 0)).2.2) - ((((rs.getD kk run0).segs).getD ii (0, 0, 0)).2.1)) + 1))))]), (row v44 54 3 rs.length (vtrips (runV lv rs))), (blk b4 24 [vr]), (sl vr 2 R.length (pairs R)), (runsR false vu lv rs), (sl vp 3 plan.length (trips plan))] := hS170; clear hS170 hS159
  refine wl_nil ?_
  refine then_n ?_
  refine c_seq ?_
  have hA173 := hA171.as [(18, (bptr b133 0)), (16, (Value.int .i64 (ii : Int))), (17, (bptr b93 0)), (15, (lv.getD kk nilS)), (14, (Value.int .i64 (kk : Int))), (13, v44), (6, (bptr b4 0)), (1, vu), (2, vp)] rfl; clear hA171
  have hA174 := hA173.as [(18, (bptr b133 0)), (16, (Value.int .i64 (ii : Int))), (17, (bptr b93 0)), (15, (lv.getD kk nilS)), (14, (Value.int .i64 (kk : Int))), (13, v44), (6, (bptr b4 0)), (1, vu), (2, vp)] rfl; clear hA173
  refine c_drawV mixed hA174 hS172 20 [[], [], [0, 1], [2], [3], [], [5], [], [7], [8], [6, 9], [], [11], [], [13], [14], [12, 15], [10, 16], [4, 17], []] [(fun (vs175 : Nat → Value) (v_ : Value) (rs_ : List Res) => v_ = (lv.getD kk nilS) ∧ rs_ = []), (fun (vs175 : Nat → Value) (v_ : Value) (rs_ : List Res) => v_ = (Value.int .i64 (ii : Int)) ∧ rs_ = []), (fun (vs175 : Nat → Value) (v_ : Value) (rs_ : List Res) => v_ = (eptr (lv.getD kk nilS) (ii * 3)) ∧ rs_ = []), (fun (vs175 : Nat → Value) (v_ : Value) (rs_ : List Res) => v_ = (eptr (lv.getD kk nilS) (ii * 3 + 0)) ∧ rs_ = []), (fun (vs175 : Nat → Value) (v_ : Value) (rs_ : List Res) => v_ = (Value.int .i64 ((((rs.getD kk run0).segs).getD ii (0, 0, 0)).1)) ∧ rs_ = []), (fun (vs175 : Nat → Value) (v_ : Value) (rs_ : List Res) => v_ = (bptr b133 0) ∧ rs_ = []), (fun (vs175 : Nat → Value) (v_ : Value) (rs_ : List Res) => v_ = (Value.int .i64 ((((rs.getD kk run0).segs).getD ii (0, 0, 0)).2.1)) ∧ rs_ = []), (fun (vs175 : Nat → Value) (v_ : Value) (rs_ : List Res) => v_ = (bptr b93 1) ∧ rs_ = []), (fun (vs175 : Nat → Value) (v_ : Value) (rs_ : List Res) => v_ = (bptr b93 1) ∧ rs_ = []), (fun (vs175 : Nat → Value) (v_ : Value) (rs_ : List Res) => v_ = (Value.int .i64 ((y).tmod (((((rs.getD kk run0).segs).getD ii (0, 0, 0)).2.1) + 1))) ∧ rs_ = []), (fun (vs175 : Nat → Value) (v_ : Value) (rs_ : List Res) => v_ = (Value.int .i64 (((((rs.getD kk run0).segs).getD ii (0, 0, 0)).2.1) - ((y).tmod (((((rs.getD kk run0).segs).getD ii (0, 0, 0)).2.1) + 1)))) ∧ rs_ = []), (fun (vs175 : Nat → Value) (v_ : Value) (rs_ : List Res) => v_ = (bptr b133 1) ∧ rs_ = []), (fun (vs175 : Nat → Value) (v_ : Value) (rs_ : List Res) => v_ = (Value.int .i64 ((((rs.getD kk run0).segs).getD ii (0, 0, 0)).2.2)) ∧ rs_ = []), (fun (vs175 : Nat → Value) (v_ : Value) (rs_ : List Res) => v_ = (bptr b93 1) ∧ rs_ = []), (fun (vs175 : Nat → Value) (v_ : Value) (rs_ : List Res) => v_ = (bptr b93 2) ∧ rs_ = []), (fun (vs175 : Nat → Value) (v_ : Value) (rs_ : List Res) => v_ = (Value.int .i64 (((y).tmod (((((rs.getD kk run0).segs).getD ii (0, 0, 0)).2.1) + 1)) + ((y).tmod ((((((rs.getD kk run0).segs).getD ii (0, 0, 0)).2.2) - ((((rs.getD kk run0).segs).getD ii (0, 0, 0)).2.1)) + 1)))) ∧ rs_ = []), (fun (vs175 : Nat → Value) (v_ : Value) (rs_ : List Res) => v_ = (Value.int .i64 (((((rs.getD kk run0).segs).getD ii (0, 0, 0)).2.2) - (((y).tmod (((((rs.getD kk run0).segs).getD ii (0, 0, 0)).2.1) + 1)) + ((y).tmod ((((((rs.getD kk run0).segs).getD ii (0, 0, 0)).2.2) - ((((rs.getD kk run0).segs).getD ii (0, 0, 0)).2.1)) + 1))))) ∧ rs_ = []), (fun (vs175 : Nat → Value) (v_ : Value) (rs_ : List Res) => v_ = (Value.agg #[(Value.int .i64 (((((rs.getD kk run0).segs).getD ii (0, 0, 0)).2.1) - ((y).tmod (((((rs.getD kk run0).segs).getD ii (0, 0, 0)).2.1) + 1)))), (Value.int .i64 (((((rs.getD kk run0).segs).getD ii (0, 0, 0)).2.2) - (((y).tmod (((((rs.getD kk run0).segs).getD ii (0, 0, 0)).2.1) + 1)) + ((y).tmod ((((((rs.getD kk run0).segs).getD ii (0, 0, 0)).2.2) - ((((rs.getD kk run0).segs).getD ii (0, 0, 0)).2.1)) + 1)))))]) ∧ rs_ = []), (fun (vs175 : Nat → Value) (v_ : Value) (rs_ : List Res) => v_ = (Value.agg #[(Value.int .i64 ((((rs.getD kk run0).segs).getD ii (0, 0, 0)).1)), (Value.int .i64 (((((rs.getD kk run0).segs).getD ii (0, 0, 0)).2.1) - ((y).tmod (((((rs.getD kk run0).segs).getD ii (0, 0, 0)).2.1) + 1)))), (Value.int .i64 (((((rs.getD kk run0).segs).getD ii (0, 0, 0)).2.2) - (((y).tmod (((((rs.getD kk run0).segs).getD ii (0, 0, 0)).2.1) + 1)) + ((y).tmod ((((((rs.getD kk run0).segs).getD ii (0, 0, 0)).2.2) - ((((rs.getD kk run0).segs).getD ii (0, 0, 0)).2.1)) + 1)))))]) ∧ rs_ = []), (fun (vs175 : Nat → Value) (v_ : Value) (rs_ : List Res) => ∃ (b19_ : Nat), v_ = (bptr b19_ 0) ∧ rs_ = [(blk b19_ 56 [(Value.int .i64 0), (Value.int .i64 0), (Value.int .i64 0)])])] (by decide +kernel) (by decide +kernel) rfl rfl ⟨(fun _ _ _ _ _ h_ => h_), (fun _ _ _ _ _ h_ => h_), (fun _ _ _ _ _ h_ => h_), (fun _ _ _ _ _ h_ => h_), (fun _ _ _ _ _ h_ => h_), (fun _ _ _ _ _ h_ => h_), (fun _ _ _ _ _ h_ => h_), (fun _ _ _ _ _ h_ => h_), (fun _ _ _ _ _ h_ => h_), (fun _ _ _ _ _ h_ => h_), (fun _ _ _ _ _ h_ => h_), (fun _ _ _ _ _ h_ => h_), (fun _ _ _ _ _ h_ => h_), (fun _ _ _ _ _ h_ => h_), (fun _ _ _ _ _ h_ => h_), (fun _ _ _ _ _ h_ => h_), (fun _ _ _ _ _ h_ => h_), (fun _ _ _ _ _ h_ => h_), (fun _ _ _ _ _ h_ => h_), (fun _ _ _ _ _ h_ => h_), trivial⟩ ?_ ?_
  ·skip
   refine ⟨fun a w vs175 hA hS hd => ?_, ?_⟩
   ·skip
    exact opG_of rfl (vv (op_move rfl (hA.ev rfl)) (And.intro rfl rfl))
   refine ⟨fun a w vs175 hA hS hd => ?_, ?_⟩
   ·skip
    exact opG_of rfl (vv (op_move rfl (hA.ev rfl)) (And.intro rfl rfl))
   refine ⟨fun a w vs175 hA hS hd => ?_, ?_⟩
   ·skip
    obtain ⟨e0, rs0, hy0, hp0⟩ := hd 0 (by decide)
    obtain ⟨hv0, hr0⟩ := hy0; subst hr0
    rw [hv0] at e0
    obtain ⟨e1, rs1, hy1, hp1⟩ := hd 1 (by decide)
    obtain ⟨hv1, hr1⟩ := hy1; subst hr1
    rw [hv1] at e1
    exact opG_of rfl (vv (op_indexS rfl un_51 ty_56 (tmp_ev (slot_ev e0 rfl)) (i := ii) (tmp_ev (slot_ev e1 rfl)) ((runs_at (hS.ok 5 _ rfl)).segs kk (by omega)) (by decide) (by omega)) (And.intro rfl rfl))
   refine ⟨fun a w vs175 hA hS hd => ?_, ?_⟩
   ·skip
    obtain ⟨e2, rs2, hy2, hp2⟩ := hd 2 (by decide)
    obtain ⟨hv2, hr2⟩ := hy2; subst hr2
    rw [hv2] at e2
    exact opG_of rfl (vv (op_fieldS rfl fd_56_0 (tmp_ev (slot_ev e2 rfl)) ((runs_at (hS.ok 5 _ rfl)).segs kk (by omega)) (by rw [(((runs_at (hS.ok 5 _ rfl)).segs kk (by omega))).1]; omega)) (And.intro rfl rfl))
   refine ⟨fun a w vs175 hA hS hd => ?_, ?_⟩
   ·skip
    obtain ⟨e3, rs3, hy3, hp3⟩ := hd 3 (by decide)
    obtain ⟨hv3, hr3⟩ := hy3; subst hr3
    rw [hv3] at e3
    exact opG_of rfl (vv (op_load1E rfl ty_3 (tmp_ev (slot_ev e3 rfl)) ((runs_at (hS.ok 5 _ rfl)).segs kk (by omega)) (trips_at0 (by omega))) (And.intro rfl rfl))
   refine ⟨fun a w vs175 hA hS hd => ?_, ?_⟩
   ·skip
    exact opG_of rfl (vv (op_field rfl fd_48_0 (hA.ev rfl)) (And.intro rfl rfl))
   refine ⟨fun a w vs175 hA hS hd => ?_, ?_⟩
   ·skip
    obtain ⟨e5, rs5, hy5, hp5⟩ := hd 5 (by decide)
    obtain ⟨hv5, hr5⟩ := hy5; subst hr5
    rw [hv5] at e5
    exact opG_of rfl (vv (op_load1 rfl ty_3 (tmp_ev (slot_ev e5 rfl)) (hS.bk 0 rfl) rfl) (And.intro rfl rfl))
   refine ⟨fun a w vs175 hA hS hd => ?_, ?_⟩
   ·skip
    exact opG_of rfl (vv (op_field rfl fd_56_1 (hA.ev rfl)) (And.intro rfl rfl))
   refine ⟨fun a w vs175 hA hS hd => ?_, ?_⟩
   ·skip
    obtain ⟨e7, rs7, hy7, hp7⟩ := hd 7 (by decide)
    obtain ⟨hv7, hr7⟩ := hy7; subst hr7
    rw [hv7] at e7
    exact opG_of rfl (vv (op_field rfl fd_48_0 (tmp_ev (slot_ev e7 rfl))) (And.intro rfl rfl))
   refine ⟨fun a w vs175 hA hS hd => ?_, ?_⟩
   ·skip
    obtain ⟨e8, rs8, hy8, hp8⟩ := hd 8 (by decide)
    obtain ⟨hv8, hr8⟩ := hy8; subst hr8
    rw [hv8] at e8
    exact opG_of rfl (vv (op_load1 rfl ty_3 (tmp_ev (slot_ev e8 rfl)) (hS.bk 1 rfl) rfl) (And.intro rfl rfl))
   refine ⟨fun a w vs175 hA hS hd => ?_, ?_⟩
   ·skip
    obtain ⟨e6, rs6, hy6, hp6⟩ := hd 6 (by decide)
    obtain ⟨hv6, hr6⟩ := hy6; subst hr6
    rw [hv6] at e6
    obtain ⟨e9, rs9, hy9, hp9⟩ := hd 9 (by decide)
    obtain ⟨hv9, hr9⟩ := hy9; subst hr9
    rw [hv9] at e9
    exact opG_of rfl (vv (op_sub rfl (tmp_ev (slot_ev e6 rfl)) (tmp_ev (slot_ev e9 rfl)) (by omega) (by omega)) (And.intro rfl rfl))
   refine ⟨fun a w vs175 hA hS hd => ?_, ?_⟩
   ·skip
    exact opG_of rfl (vv (op_field rfl fd_48_1 (hA.ev rfl)) (And.intro rfl rfl))
   refine ⟨fun a w vs175 hA hS hd => ?_, ?_⟩
   ·skip
    obtain ⟨e11, rs11, hy11, hp11⟩ := hd 11 (by decide)
    obtain ⟨hv11, hr11⟩ := hy11; subst hr11
    rw [hv11] at e11
    exact opG_of rfl (vv (op_load1 rfl ty_3 (tmp_ev (slot_ev e11 rfl)) (hS.bk 0 rfl) rfl) (And.intro rfl rfl))
   refine ⟨fun a w vs175 hA hS hd => ?_, ?_⟩
   ·skip
    exact opG_of rfl (vv (op_field rfl fd_56_1 (hA.ev rfl)) (And.intro rfl rfl))
   refine ⟨fun a w vs175 hA hS hd => ?_, ?_⟩
   ·skip
    obtain ⟨e13, rs13, hy13, hp13⟩ := hd 13 (by decide)
    obtain ⟨hv13, hr13⟩ := hy13; subst hr13
    rw [hv13] at e13
    exact opG_of rfl (vv (op_field rfl fd_48_1 (tmp_ev (slot_ev e13 rfl))) (And.intro rfl rfl))
   refine ⟨fun a w vs175 hA hS hd => ?_, ?_⟩
   ·skip
    obtain ⟨e14, rs14, hy14, hp14⟩ := hd 14 (by decide)
    obtain ⟨hv14, hr14⟩ := hy14; subst hr14
    rw [hv14] at e14
    exact opG_of rfl (vv (op_load1 rfl ty_3 (tmp_ev (slot_ev e14 rfl)) (hS.bk 1 rfl) rfl) (And.intro rfl rfl))
   refine ⟨fun a w vs175 hA hS hd => ?_, ?_⟩
   ·skip
    obtain ⟨e12, rs12, hy12, hp12⟩ := hd 12 (by decide)
    obtain ⟨hv12, hr12⟩ := hy12; subst hr12
    rw [hv12] at e12
    obtain ⟨e15, rs15, hy15, hp15⟩ := hd 15 (by decide)
    obtain ⟨hv15, hr15⟩ := hy15; subst hr15
    rw [hv15] at e15
    exact opG_of rfl (vv (op_sub rfl (tmp_ev (slot_ev e12 rfl)) (tmp_ev (slot_ev e15 rfl)) (by omega) (by omega)) (And.intro rfl rfl))
   refine ⟨fun a w vs175 hA hS hd => ?_, ?_⟩
   ·skip
    obtain ⟨e10, rs10, hy10, hp10⟩ := hd 10 (by decide)
    obtain ⟨hv10, hr10⟩ := hy10; subst hr10
    rw [hv10] at e10
    obtain ⟨e16, rs16, hy16, hp16⟩ := hd 16 (by decide)
    obtain ⟨hv16, hr16⟩ := hy16; subst hr16
    rw [hv16] at e16
    exact opG_of rfl (vv (op_build rfl (pv2 (tmp_ev (slot_ev e10 rfl)) (tmp_ev (slot_ev e16 rfl))) (bd_48_0i_1i _ _)) (And.intro rfl rfl))
   refine ⟨fun a w vs175 hA hS hd => ?_, ?_⟩
   ·skip
    obtain ⟨e4, rs4, hy4, hp4⟩ := hd 4 (by decide)
    obtain ⟨hv4, hr4⟩ := hy4; subst hr4
    rw [hv4] at e4
    obtain ⟨e17, rs17, hy17, hp17⟩ := hd 17 (by decide)
    obtain ⟨hv17, hr17⟩ := hy17; subst hr17
    rw [hv17] at e17
    exact opG_of rfl (vv (op_build rfl (pv2 (tmp_ev (slot_ev e4 rfl)) (tmp_ev (slot_ev e17 rfl))) (bd_56_0i_1iia _ _ _)) (And.intro rfl rfl))
   refine ⟨fun a w vs175 hA hS hd => ?_, ?_⟩
   ·skip
    exact opG_of rfl (valloc rfl ze_56 (cs := [(Value.int .i64 0), (Value.int .i64 0), (Value.int .i64 0)]) rfl (fun b_ => ⟨b_, rfl, rfl⟩))
   trivial
  intro a176 w177 vs175 rsf181 hA178 hH180 hS179; clear hA174 hS172
  obtain ⟨hs_0, hy_0⟩ := hH180 0 (by decide)
  obtain ⟨hv_0, hr_0⟩ := hy_0
  obtain ⟨hs_1, hy_1⟩ := hH180 1 (by decide)
  obtain ⟨hv_1, hr_1⟩ := hy_1
  obtain ⟨hs_2, hy_2⟩ := hH180 2 (by decide)
  obtain ⟨hv_2, hr_2⟩ := hy_2
  obtain ⟨hs_3, hy_3⟩ := hH180 3 (by decide)
  obtain ⟨hv_3, hr_3⟩ := hy_3
  obtain ⟨hs_4, hy_4⟩ := hH180 4 (by decide)
  obtain ⟨hv_4, hr_4⟩ := hy_4
  obtain ⟨hs_5, hy_5⟩ := hH180 5 (by decide)
  obtain ⟨hv_5, hr_5⟩ := hy_5
  obtain ⟨hs_6, hy_6⟩ := hH180 6 (by decide)
  obtain ⟨hv_6, hr_6⟩ := hy_6
  obtain ⟨hs_7, hy_7⟩ := hH180 7 (by decide)
  obtain ⟨hv_7, hr_7⟩ := hy_7
  obtain ⟨hs_8, hy_8⟩ := hH180 8 (by decide)
  obtain ⟨hv_8, hr_8⟩ := hy_8
  obtain ⟨hs_9, hy_9⟩ := hH180 9 (by decide)
  obtain ⟨hv_9, hr_9⟩ := hy_9
  obtain ⟨hs_10, hy_10⟩ := hH180 10 (by decide)
  obtain ⟨hv_10, hr_10⟩ := hy_10
  obtain ⟨hs_11, hy_11⟩ := hH180 11 (by decide)
  obtain ⟨hv_11, hr_11⟩ := hy_11
  obtain ⟨hs_12, hy_12⟩ := hH180 12 (by decide)
  obtain ⟨hv_12, hr_12⟩ := hy_12
  obtain ⟨hs_13, hy_13⟩ := hH180 13 (by decide)
  obtain ⟨hv_13, hr_13⟩ := hy_13
  obtain ⟨hs_14, hy_14⟩ := hH180 14 (by decide)
  obtain ⟨hv_14, hr_14⟩ := hy_14
  obtain ⟨hs_15, hy_15⟩ := hH180 15 (by decide)
  obtain ⟨hv_15, hr_15⟩ := hy_15
  obtain ⟨hs_16, hy_16⟩ := hH180 16 (by decide)
  obtain ⟨hv_16, hr_16⟩ := hy_16
  obtain ⟨hs_17, hy_17⟩ := hH180 17 (by decide)
  obtain ⟨hv_17, hr_17⟩ := hy_17
  obtain ⟨hs_18, hy_18⟩ := hH180 18 (by decide)
  obtain ⟨hv_18, hr_18⟩ := hy_18
  obtain ⟨hs_19, hy_19⟩ := hH180 19 (by decide)
  obtain ⟨b19_, hv_19, hr_19⟩ := hy_19
  have hS182 : Sep NoB w w177 [(blk b19_ 56 [(Value.int .i64 0), (Value.int .i64 0), (Value.int .i64 0)]), (blk b133 48 [(Value.int .i64 ((((rs.getD kk run0).segs).getD ii (0, 0, 0)).2.1)), (Value.int .i64 ((((rs.getD kk run0).segs).getD ii (0, 0, 0)).2.2))]), (blk b93 56 [(Value.int .i64 ((((rs.getD kk run0).segs).getD ii (0, 0, 0)).1)), (Value.int .i64 ((y).tmod (((((rs.getD kk run0).segs).getD ii (0, 0, 0)).2.1) + 1))), (Value.int .i64 (((y).tmod (((((rs.getD kk run0).segs).getD ii (0, 0, 0)).2.1) + 1)) + ((y).tmod ((((((rs.getD kk run0).segs).getD ii (0, 0, 0)).2.2) - ((((rs.getD kk run0).segs).getD ii (0, 0, 0)).2.1)) + 1))))]), (row v44 54 3 rs.length (vtrips (runV lv rs))), (blk b4 24 [vr]), (sl vr 2 R.length (pairs R)), (runsR false vu lv rs), (sl vp 3 plan.length (trips plan))] := by rw [show catR rsf181 0 20 = ([(blk b19_ 56 [(Value.int .i64 0), (Value.int .i64 0), (Value.int .i64 0)])] : List Res) by (try simp only [catR, hr_0, hr_1, hr_2, hr_3, hr_4, hr_5, hr_6, hr_7, hr_8, hr_9, hr_10, hr_11, hr_12, hr_13, hr_14, hr_15, hr_16, hr_17, hr_18, hr_19]); (try rfl)] at hS179; exact hS179
  rw [hv_18] at hs_18
  have hA183 : Fr 241 [] [(121, (Value.agg #[(Value.int .i64 ((((rs.getD kk run0).segs).getD ii (0, 0, 0)).1)), (Value.int .i64 (((((rs.getD kk run0).segs).getD ii (0, 0, 0)).2.1) - ((y).tmod (((((rs.getD kk run0).segs).getD ii (0, 0, 0)).2.1) + 1)))), (Value.int .i64 (((((rs.getD kk run0).segs).getD ii (0, 0, 0)).2.2) - (((y).tmod (((((rs.getD kk run0).segs).getD ii (0, 0, 0)).2.1) + 1)) + ((y).tmod ((((((rs.getD kk run0).segs).getD ii (0, 0, 0)).2.2) - ((((rs.getD kk run0).segs).getD ii (0, 0, 0)).2.1)) + 1)))))])), (18, (bptr b133 0)), (16, (Value.int .i64 (ii : Int))), (17, (bptr b93 0)), (15, (lv.getD kk nilS)), (14, (Value.int .i64 (kk : Int))), (13, v44), (6, (bptr b4 0)), (1, vu), (2, vp)] a176 := hA178.add (slot_ev hs_18 rfl); clear hA178
  rw [hv_19] at hs_19
  have hA184 : Fr 241 [] [(19, (bptr b19_ 0)), (121, (Value.agg #[(Value.int .i64 ((((rs.getD kk run0).segs).getD ii (0, 0, 0)).1)), (Value.int .i64 (((((rs.getD kk run0).segs).getD ii (0, 0, 0)).2.1) - ((y).tmod (((((rs.getD kk run0).segs).getD ii (0, 0, 0)).2.1) + 1)))), (Value.int .i64 (((((rs.getD kk run0).segs).getD ii (0, 0, 0)).2.2) - (((y).tmod (((((rs.getD kk run0).segs).getD ii (0, 0, 0)).2.1) + 1)) + ((y).tmod ((((((rs.getD kk run0).segs).getD ii (0, 0, 0)).2.2) - ((((rs.getD kk run0).segs).getD ii (0, 0, 0)).2.1)) + 1)))))])), (18, (bptr b133 0)), (16, (Value.int .i64 (ii : Int))), (17, (bptr b93 0)), (15, (lv.getD kk nilS)), (14, (Value.int .i64 (kk : Int))), (13, v44), (6, (bptr b4 0)), (1, vu), (2, vp)] a176 := hA183.add (slot_ev hs_19 rfl); clear hA183
  clear hH180 hS179 hs_0 hs_1 hs_2 hs_3 hs_4 hs_5 hs_6 hs_7 hs_8 hs_9 hs_10 hs_11 hs_12 hs_13 hs_14 hs_15 hs_16 hs_17 hs_18 hs_19
  clear hr_0
  clear hv_0
  clear hr_1
  clear hv_1
  clear hr_2
  clear hv_2
  clear hr_3
  clear hv_3
  clear hr_4
  clear hv_4
  clear hr_5
  clear hv_5
  clear hr_6
  clear hv_6
  clear hr_7
  clear hv_7
  clear hr_8
  clear hv_8
  clear hr_9
  clear hv_9
  clear hr_10
  clear hv_10
  clear hr_11
  clear hv_11
  clear hr_12
  clear hv_12
  clear hr_13
  clear hv_13
  clear hr_14
  clear hv_14
  clear hr_15
  clear hv_15
  clear hr_16
  clear hv_16
  clear hr_17
  clear hv_17
  clear hr_18
  clear hv_18
  clear hr_19
  clear hv_19
  refine sts hA184 (op_store hS182 rfl ty_56 (hA184.ev rfl) (hA184.ev rfl) (i := 0) rfl (vs := [(Value.int .i64 ((((rs.getD kk run0).segs).getD ii (0, 0, 0)).1)), (Value.int .i64 (((((rs.getD kk run0).segs).getD ii (0, 0, 0)).2.1) - ((y).tmod (((((rs.getD kk run0).segs).getD ii (0, 0, 0)).2.1) + 1)))), (Value.int .i64 (((((rs.getD kk run0).segs).getD ii (0, 0, 0)).2.2) - (((y).tmod (((((rs.getD kk run0).segs).getD ii (0, 0, 0)).2.1) + 1)) + ((y).tmod ((((((rs.getD kk run0).segs).getD ii (0, 0, 0)).2.2) - ((((rs.getD kk run0).segs).getD ii (0, 0, 0)).2.1)) + 1)))))]) rfl rfl rfl (Nat.le_of_ble_eq_true rfl)) rfl rfl ?_
  intro _ w185 hS186 hA187; clear hA184
  have hS188 : Sep NoB w w185 [(blk b19_ 56 [(Value.int .i64 ((((rs.getD kk run0).segs).getD ii (0, 0, 0)).1)), (Value.int .i64 (((((rs.getD kk run0).segs).getD ii (0, 0, 0)).2.1) - ((y).tmod (((((rs.getD kk run0).segs).getD ii (0, 0, 0)).2.1) + 1)))), (Value.int .i64 (((((rs.getD kk run0).segs).getD ii (0, 0, 0)).2.2) - (((y).tmod (((((rs.getD kk run0).segs).getD ii (0, 0, 0)).2.1) + 1)) + ((y).tmod ((((((rs.getD kk run0).segs).getD ii (0, 0, 0)).2.2) - ((((rs.getD kk run0).segs).getD ii (0, 0, 0)).2.1)) + 1)))))]), (blk b133 48 [(Value.int .i64 ((((rs.getD kk run0).segs).getD ii (0, 0, 0)).2.1)), (Value.int .i64 ((((rs.getD kk run0).segs).getD ii (0, 0, 0)).2.2))]), (blk b93 56 [(Value.int .i64 ((((rs.getD kk run0).segs).getD ii (0, 0, 0)).1)), (Value.int .i64 ((y).tmod (((((rs.getD kk run0).segs).getD ii (0, 0, 0)).2.1) + 1))), (Value.int .i64 (((y).tmod (((((rs.getD kk run0).segs).getD ii (0, 0, 0)).2.1) + 1)) + ((y).tmod ((((((rs.getD kk run0).segs).getD ii (0, 0, 0)).2.2) - ((((rs.getD kk run0).segs).getD ii (0, 0, 0)).2.1)) + 1))))]), (row v44 54 3 rs.length (vtrips (runV lv rs))), (blk b4 24 [vr]), (sl vr 2 R.length (pairs R)), (runsR false vu lv rs), (sl vp 3 plan.length (trips plan))] := hS186; clear hS186 hS182
  refine wl_nil ?_
  refine then_n ?_
  have hA189 := hA187.as [(19, (bptr b19_ 0)), (16, (Value.int .i64 (ii : Int))), (17, (bptr b93 0)), (15, (lv.getD kk nilS)), (14, (Value.int .i64 (kk : Int))), (13, v44), (6, (bptr b4 0)), (1, vu), (2, vp)] rfl; clear hA187
  refine c_drawCC mixed hA189 hS188 12 [(4, 0), (7, 4)] [[], [], [], [1, 2], [0, 3], [], [5], [4, 6], [], [], [9], [8, 10]] [(fun (vs190 : Nat → Value) (v_ : Value) (rs_ : List Res) => ∃ (b0_ : Nat), v_ = (Value.slice (some ⟨b0_, 0, none⟩) 0 0) ∧ rs_ = [(blk b0_ 56 [])]), (fun (vs190 : Nat → Value) (v_ : Value) (rs_ : List Res) => v_ = (lv.getD kk nilS) ∧ rs_ = []), (fun (vs190 : Nat → Value) (v_ : Value) (rs_ : List Res) => v_ = (Value.int .i64 (ii : Int)) ∧ rs_ = []), (fun (vs190 : Nat → Value) (v_ : Value) (rs_ : List Res) => v_ = (slcut (lv.getD kk nilS) 0 ii 3) ∧ rs_ = []), (fun (vs190 : Nat → Value) (v_ : Value) (rs_ : List Res) => True ∧ rs_ = [(row v_ 56 3 ((((rs.getD kk run0).segs).take ii).length) (trips (((rs.getD kk run0).segs).take ii)))]), (fun (vs190 : Nat → Value) (v_ : Value) (rs_ : List Res) => v_ = (Value.agg #[(Value.int .i64 ((((rs.getD kk run0).segs).getD ii (0, 0, 0)).1)), (Value.int .i64 (((((rs.getD kk run0).segs).getD ii (0, 0, 0)).2.1) - ((y).tmod (((((rs.getD kk run0).segs).getD ii (0, 0, 0)).2.1) + 1)))), (Value.int .i64 (((((rs.getD kk run0).segs).getD ii (0, 0, 0)).2.2) - (((y).tmod (((((rs.getD kk run0).segs).getD ii (0, 0, 0)).2.1) + 1)) + ((y).tmod ((((((rs.getD kk run0).segs).getD ii (0, 0, 0)).2.2) - ((((rs.getD kk run0).segs).getD ii (0, 0, 0)).2.1)) + 1)))))]) ∧ rs_ = []), (fun (vs190 : Nat → Value) (v_ : Value) (rs_ : List Res) => True ∧ rs_ = [(row v_ 56 3 1 [(Value.int .i64 ((((rs.getD kk run0).segs).getD ii (0, 0, 0)).1)), (Value.int .i64 (((((rs.getD kk run0).segs).getD ii (0, 0, 0)).2.1) - ((y).tmod (((((rs.getD kk run0).segs).getD ii (0, 0, 0)).2.1) + 1)))), (Value.int .i64 (((((rs.getD kk run0).segs).getD ii (0, 0, 0)).2.2) - (((y).tmod (((((rs.getD kk run0).segs).getD ii (0, 0, 0)).2.1) + 1)) + ((y).tmod ((((((rs.getD kk run0).segs).getD ii (0, 0, 0)).2.2) - ((((rs.getD kk run0).segs).getD ii (0, 0, 0)).2.1)) + 1)))))])]), (fun (vs190 : Nat → Value) (v_ : Value) (rs_ : List Res) => True ∧ rs_ = [(row v_ 56 3 (((((rs.getD kk run0).segs).take ii) ++ [(((((rs.getD kk run0).segs).getD ii (0, 0, 0)).1, ((((rs.getD kk run0).segs).getD ii (0, 0, 0)).2.1) - ((y).tmod (((((rs.getD kk run0).segs).getD ii (0, 0, 0)).2.1) + 1)), ((((rs.getD kk run0).segs).getD ii (0, 0, 0)).2.2) - (((y).tmod (((((rs.getD kk run0).segs).getD ii (0, 0, 0)).2.1) + 1)) + ((y).tmod ((((((rs.getD kk run0).segs).getD ii (0, 0, 0)).2.2) - ((((rs.getD kk run0).segs).getD ii (0, 0, 0)).2.1)) + 1)))) : Seg)]).length) (trips ((((rs.getD kk run0).segs).take ii) ++ [(((((rs.getD kk run0).segs).getD ii (0, 0, 0)).1, ((((rs.getD kk run0).segs).getD ii (0, 0, 0)).2.1) - ((y).tmod (((((rs.getD kk run0).segs).getD ii (0, 0, 0)).2.1) + 1)), ((((rs.getD kk run0).segs).getD ii (0, 0, 0)).2.2) - (((y).tmod (((((rs.getD kk run0).segs).getD ii (0, 0, 0)).2.1) + 1)) + ((y).tmod ((((((rs.getD kk run0).segs).getD ii (0, 0, 0)).2.2) - ((((rs.getD kk run0).segs).getD ii (0, 0, 0)).2.1)) + 1)))) : Seg)])))]), (fun (vs190 : Nat → Value) (v_ : Value) (rs_ : List Res) => v_ = (lv.getD kk nilS) ∧ rs_ = []), (fun (vs190 : Nat → Value) (v_ : Value) (rs_ : List Res) => v_ = (Value.int .i64 (ii : Int)) ∧ rs_ = []), (fun (vs190 : Nat → Value) (v_ : Value) (rs_ : List Res) => v_ = (Value.int .i64 ((ii : Int) + 1)) ∧ rs_ = []), (fun (vs190 : Nat → Value) (v_ : Value) (rs_ : List Res) => v_ = (slcut (lv.getD kk nilS) (ii + 1) ((rs.getD kk run0).segs.length) 3) ∧ rs_ = [])] (by decide +kernel) (by decide +kernel) (by decide +kernel) (by decide +kernel) rfl rfl ⟨(fun _ _ _ _ _ h_ => h_), (fun _ _ _ _ _ h_ => h_), (fun _ _ _ _ _ h_ => h_), (fun _ _ _ _ _ h_ => h_), (fun _ _ _ _ _ h_ => h_), (fun _ _ _ _ _ h_ => h_), (fun _ _ _ _ _ h_ => h_), (fun _ _ _ _ _ h_ => h_), (fun _ _ _ _ _ h_ => h_), (fun _ _ _ _ _ h_ => h_), (fun _ _ _ _ _ h_ => h_), (fun _ _ _ _ _ h_ => h_), trivial⟩ (by decide +kernel) ?_ ?_ ?_
  ·skip
   refine ⟨fun hj_ a w vs190 hA hS hd => ?_, ?_⟩
   ·skip
    exact opG_of rfl (vblz rfl pv0 un_51 ty_56 ze_56 bs_56_0_ (fun b_ => ⟨b_, rfl, rfl⟩))
   refine ⟨fun hj_ a w vs190 hA hS hd => ?_, ?_⟩
   ·skip
    exact opG_of rfl (vv (op_move rfl (hA.ev rfl)) (And.intro rfl rfl))
   refine ⟨fun hj_ a w vs190 hA hS hd => ?_, ?_⟩
   ·skip
    exact opG_of rfl (vv (op_move rfl (hA.ev rfl)) (And.intro rfl rfl))
   refine ⟨fun hj_ a w vs190 hA hS hd => ?_, ?_⟩
   ·skip
    obtain ⟨e1, rs1, hy1, hp1⟩ := hd 1 (by decide)
    obtain ⟨hv1, hr1⟩ := hy1; subst hr1
    rw [hv1] at e1
    obtain ⟨e2, rs2, hy2, hp2⟩ := hd 2 (by decide)
    obtain ⟨hv2, hr2⟩ := hy2; subst hr2
    rw [hv2] at e2
    exact opG_of rfl (vv (op_sliceHi rfl un_51 ty_56 (tmp_ev (slot_ev e1 rfl)) (h := ii) (tmp_ev (slot_ev e2 rfl)) ((runs_at (hS.ok 6 _ rfl)).segs kk (by omega)) (by omega)) (And.intro rfl rfl))
   refine ⟨fun hj_ => absurd hj_ (by decide), ?_⟩
   refine ⟨fun hj_ a w vs190 hA hS hd => ?_, ?_⟩
   ·skip
    exact opG_of rfl (vv (op_loadA rfl ty_56 (hA.ev rfl) (hS.bk 0 rfl) (l := [(Value.int .i64 ((((rs.getD kk run0).segs).getD ii (0, 0, 0)).1)), (Value.int .i64 (((((rs.getD kk run0).segs).getD ii (0, 0, 0)).2.1) - ((y).tmod (((((rs.getD kk run0).segs).getD ii (0, 0, 0)).2.1) + 1)))), (Value.int .i64 (((((rs.getD kk run0).segs).getD ii (0, 0, 0)).2.2) - (((y).tmod (((((rs.getD kk run0).segs).getD ii (0, 0, 0)).2.1) + 1)) + ((y).tmod ((((((rs.getD kk run0).segs).getD ii (0, 0, 0)).2.2) - ((((rs.getD kk run0).segs).getD ii (0, 0, 0)).2.1)) + 1)))))]) rfl rfl) (And.intro rfl rfl))
   refine ⟨fun hj_ a w vs190 hA hS hd => ?_, ?_⟩
   ·skip
    obtain ⟨e5, rs5, hy5, hp5⟩ := hd 5 (by decide)
    obtain ⟨hv5, hr5⟩ := hy5; subst hr5
    rw [hv5] at e5
    exact opG_of rfl (vblt rfl (pv1 (tmp_ev (slot_ev e5 rfl))) un_51 ty_56 ze_56 (by decide) (cs := [(Value.int .i64 ((((rs.getD kk run0).segs).getD ii (0, 0, 0)).1)), (Value.int .i64 (((((rs.getD kk run0).segs).getD ii (0, 0, 0)).2.1) - ((y).tmod (((((rs.getD kk run0).segs).getD ii (0, 0, 0)).2.1) + 1)))), (Value.int .i64 (((((rs.getD kk run0).segs).getD ii (0, 0, 0)).2.2) - (((y).tmod (((((rs.getD kk run0).segs).getD ii (0, 0, 0)).2.1) + 1)) + ((y).tmod ((((((rs.getD kk run0).segs).getD ii (0, 0, 0)).2.2) - ((((rs.getD kk run0).segs).getD ii (0, 0, 0)).2.1)) + 1)))))]) (bs_56_1_0iiia _ _ _) rfl (by decide) (fun _ => And.intro trivial rfl))
   refine ⟨fun hj_ => absurd hj_ (by decide), ?_⟩
   refine ⟨fun hj_ a w vs190 hA hS hd => ?_, ?_⟩
   ·skip
    exact opG_of rfl (vv (op_move rfl (hA.ev rfl)) (And.intro rfl rfl))
   refine ⟨fun hj_ a w vs190 hA hS hd => ?_, ?_⟩
   ·skip
    exact opG_of rfl (vv (op_move rfl (hA.ev rfl)) (And.intro rfl rfl))
   refine ⟨fun hj_ a w vs190 hA hS hd => ?_, ?_⟩
   ·skip
    obtain ⟨e9, rs9, hy9, hp9⟩ := hd 9 (by decide)
    obtain ⟨hv9, hr9⟩ := hy9; subst hr9
    rw [hv9] at e9
    exact opG_of rfl (vv (op_add rfl (tmp_ev (slot_ev e9 rfl)) (evc _ _) (by omega) (by omega)) (And.intro rfl rfl))
   refine ⟨fun hj_ a w vs190 hA hS hd => ?_, ?_⟩
   ·skip
    obtain ⟨e8, rs8, hy8, hp8⟩ := hd 8 (by decide)
    obtain ⟨hv8, hr8⟩ := hy8; subst hr8
    rw [hv8] at e8
    obtain ⟨e10, rs10, hy10, hp10⟩ := hd 10 (by decide)
    obtain ⟨hv10, hr10⟩ := hy10; subst hr10
    rw [hv10] at e10
    exact opG_of rfl (vv (op_sliceLo rfl un_51 ty_56 (tmp_ev (slot_ev e8 rfl)) (l := ii + 1) ((tmp_ev (slot_ev e10 rfl)).trans (congrArg (Value.int .i64) (show ((ii : Int) + 1 : Int) = ((ii + 1 : Nat) : Int) by omega))) ((runs_at (hS.ok 6 _ rfl)).segs kk (by omega)) (by omega)) (And.intro rfl rfl))
   trivial
  ·skip
   refine ⟨fun o_ ho_ => ?_, ?_⟩
   ·skip
    obtain rfl := Option.some.inj ho_; clear ho_
    intro a w vs190 rs0 Lr hA hs0 hy0 hd hL hS
    obtain ⟨b0_, hv0, hr0⟩ := hy0; subst hr0
    rw [hv0] at hs0
    replace hS := hS.blk_row (i := 0) (sz := 3) (n := 0) rfl rfl (by decide)
    obtain ⟨e3, rs3, hy3, hp3⟩ := hd 3 (by decide) (by decide)
    obtain ⟨hv3, hr3⟩ := hy3; subst hr3
    rw [hv3] at e3
    exact opG_of rfl (opY_mono (op_append hS rfl un_51 el_56 (tmp_ev (slot_ev hs0 rfl)) (tmp_ev (slot_ev e3 rfl)) (i := 0) rfl (SlAt.say (n' := (((rs.getD kk run0).segs).take ii).length) (cs' := (trips (((rs.getD kk run0).segs).take ii))) (SlAt.cut ((runs_at (hL.ok 6 _ rfl)).segs kk (by omega)) (Nat.zero_le _) (by omega)) (by simp only [List.length_take]; omega) (trips_cutHi _ _)) (trips_one _) (by simp only [maxLen, replAt, List.length_take, List.length_drop, List.length_append, List.length_cons, List.length_nil]; omega) (by first | omega | (simp only [maxLen, replAt, List.length_take, List.length_drop, List.length_append, List.length_cons, List.length_nil]; omega))) fun v_ w_ h_ => ⟨_, And.intro trivial rfl, h_.row_say (i := 0) rfl (n' := (((rs.getD kk run0).segs).take ii).length) (xs' := (trips (((rs.getD kk run0).segs).take ii))) (by simp) (by simp)⟩)
   refine ⟨fun o_ ho_ => ?_, ?_⟩
   ·skip
    obtain rfl := Option.some.inj ho_; clear ho_
    intro a w vs190 rs0 Lr hA hs0 hy0 hd hL hS
    obtain ⟨hv4, hr4⟩ := hy0; subst hr4
    obtain ⟨e6, rs6, hy6, hp6⟩ := hd 6 (by decide) (by decide)
    obtain ⟨hv6, hr6⟩ := hy6; subst hr6
    have hp6_0 := hp6 _ (List.mem_of_getElem? (i := 0) rfl)
    exact opG_of rfl (opY_mono (op_append hS rfl un_51 el_56 (tmp_ev (slot_ev hs0 rfl)) (tmp_ev (slot_ev e6 rfl)) (i := 0) rfl (SlAt.of_row hp6_0) rfl (by simp only [maxLen, replAt, List.length_take, List.length_drop, List.length_append, List.length_cons, List.length_nil]; omega) (by first | omega | (simp only [maxLen, replAt, List.length_take, List.length_drop, List.length_append, List.length_cons, List.length_nil]; omega))) fun v_ w_ h_ => ⟨_, And.intro trivial rfl, h_.row_say (i := 0) rfl (n' := ((((rs.getD kk run0).segs).take ii) ++ [(((((rs.getD kk run0).segs).getD ii (0, 0, 0)).1, ((((rs.getD kk run0).segs).getD ii (0, 0, 0)).2.1) - ((y).tmod (((((rs.getD kk run0).segs).getD ii (0, 0, 0)).2.1) + 1)), ((((rs.getD kk run0).segs).getD ii (0, 0, 0)).2.2) - (((y).tmod (((((rs.getD kk run0).segs).getD ii (0, 0, 0)).2.1) + 1)) + ((y).tmod ((((((rs.getD kk run0).segs).getD ii (0, 0, 0)).2.2) - ((((rs.getD kk run0).segs).getD ii (0, 0, 0)).2.1)) + 1)))) : Seg)]).length) (xs' := (trips ((((rs.getD kk run0).segs).take ii) ++ [(((((rs.getD kk run0).segs).getD ii (0, 0, 0)).1, ((((rs.getD kk run0).segs).getD ii (0, 0, 0)).2.1) - ((y).tmod (((((rs.getD kk run0).segs).getD ii (0, 0, 0)).2.1) + 1)), ((((rs.getD kk run0).segs).getD ii (0, 0, 0)).2.2) - (((y).tmod (((((rs.getD kk run0).segs).getD ii (0, 0, 0)).2.1) + 1)) + ((y).tmod ((((((rs.getD kk run0).segs).getD ii (0, 0, 0)).2.2) - ((((rs.getD kk run0).segs).getD ii (0, 0, 0)).2.1)) + 1)))) : Seg)]))) (by first | exact List.length_append.symm | simp) (by first | exact (trips_append _ _).symm | simp [trips])⟩)
   trivial
  ·skip
   intro a191 w192 vs190 rsf196 hA193 hH195 hrq hS194; clear hA189 hS188
   have hrq_0 := hrq (4, 0) (by decide)
   have hrq_4 := hrq (7, 4) (by decide)
   obtain ⟨hs_1, hy_1⟩ := hH195 1 (by decide) (by decide)
   obtain ⟨hv_1, hr_1⟩ := hy_1
   obtain ⟨hs_2, hy_2⟩ := hH195 2 (by decide) (by decide)
   obtain ⟨hv_2, hr_2⟩ := hy_2
   obtain ⟨hs_3, hy_3⟩ := hH195 3 (by decide) (by decide)
   obtain ⟨hv_3, hr_3⟩ := hy_3
   obtain ⟨hs_5, hy_5⟩ := hH195 5 (by decide) (by decide)
   obtain ⟨hv_5, hr_5⟩ := hy_5
   obtain ⟨hs_6, hy_6⟩ := hH195 6 (by decide) (by decide)
   obtain ⟨hv_6, hr_6⟩ := hy_6
   obtain ⟨hs_7, hy_7⟩ := hH195 7 (by decide) (by decide)
   obtain ⟨hv_7, hr_7⟩ := hy_7
   obtain ⟨hs_8, hy_8⟩ := hH195 8 (by decide) (by decide)
   obtain ⟨hv_8, hr_8⟩ := hy_8
   obtain ⟨hs_9, hy_9⟩ := hH195 9 (by decide) (by decide)
   obtain ⟨hv_9, hr_9⟩ := hy_9
   obtain ⟨hs_10, hy_10⟩ := hH195 10 (by decide) (by decide)
   obtain ⟨hv_10, hr_10⟩ := hy_10
   obtain ⟨hs_11, hy_11⟩ := hH195 11 (by decide) (by decide)
   obtain ⟨hv_11, hr_11⟩ := hy_11
   have hS197 : Sep NoB w w192 [(row (vs190 6) 56 3 1 [(Value.int .i64 ((((rs.getD kk run0).segs).getD ii (0, 0, 0)).1)), (Value.int .i64 (((((rs.getD kk run0).segs).getD ii (0, 0, 0)).2.1) - ((y).tmod (((((rs.getD kk run0).segs).getD ii (0, 0, 0)).2.1) + 1)))), (Value.int .i64 (((((rs.getD kk run0).segs).getD ii (0, 0, 0)).2.2) - (((y).tmod (((((rs.getD kk run0).segs).getD ii (0, 0, 0)).2.1) + 1)) + ((y).tmod ((((((rs.getD kk run0).segs).getD ii (0, 0, 0)).2.2) - ((((rs.getD kk run0).segs).getD ii (0, 0, 0)).2.1)) + 1)))))]), (row (vs190 7) 56 3 (((((rs.getD kk run0).segs).take ii) ++ [(((((rs.getD kk run0).segs).getD ii (0, 0, 0)).1, ((((rs.getD kk run0).segs).getD ii (0, 0, 0)).2.1) - ((y).tmod (((((rs.getD kk run0).segs).getD ii (0, 0, 0)).2.1) + 1)), ((((rs.getD kk run0).segs).getD ii (0, 0, 0)).2.2) - (((y).tmod (((((rs.getD kk run0).segs).getD ii (0, 0, 0)).2.1) + 1)) + ((y).tmod ((((((rs.getD kk run0).segs).getD ii (0, 0, 0)).2.2) - ((((rs.getD kk run0).segs).getD ii (0, 0, 0)).2.1)) + 1)))) : Seg)]).length) (trips ((((rs.getD kk run0).segs).take ii) ++ [(((((rs.getD kk run0).segs).getD ii (0, 0, 0)).1, ((((rs.getD kk run0).segs).getD ii (0, 0, 0)).2.1) - ((y).tmod (((((rs.getD kk run0).segs).getD ii (0, 0, 0)).2.1) + 1)), ((((rs.getD kk run0).segs).getD ii (0, 0, 0)).2.2) - (((y).tmod (((((rs.getD kk run0).segs).getD ii (0, 0, 0)).2.1) + 1)) + ((y).tmod ((((((rs.getD kk run0).segs).getD ii (0, 0, 0)).2.2) - ((((rs.getD kk run0).segs).getD ii (0, 0, 0)).2.1)) + 1)))) : Seg)]))), (blk b19_ 56 [(Value.int .i64 ((((rs.getD kk run0).segs).getD ii (0, 0, 0)).1)), (Value.int .i64 (((((rs.getD kk run0).segs).getD ii (0, 0, 0)).2.1) - ((y).tmod (((((rs.getD kk run0).segs).getD ii (0, 0, 0)).2.1) + 1)))), (Value.int .i64 (((((rs.getD kk run0).segs).getD ii (0, 0, 0)).2.2) - (((y).tmod (((((rs.getD kk run0).segs).getD ii (0, 0, 0)).2.1) + 1)) + ((y).tmod ((((((rs.getD kk run0).segs).getD ii (0, 0, 0)).2.2) - ((((rs.getD kk run0).segs).getD ii (0, 0, 0)).2.1)) + 1)))))]), (blk b133 48 [(Value.int .i64 ((((rs.getD kk run0).segs).getD ii (0, 0, 0)).2.1)), (Value.int .i64 ((((rs.getD kk run0).segs).getD ii (0, 0, 0)).2.2))]), (blk b93 56 [(Value.int .i64 ((((rs.getD kk run0).segs).getD ii (0, 0, 0)).1)), (Value.int .i64 ((y).tmod (((((rs.getD kk run0).segs).getD ii (0, 0, 0)).2.1) + 1))), (Value.int .i64 (((y).tmod (((((rs.getD kk run0).segs).getD ii (0, 0, 0)).2.1) + 1)) + ((y).tmod ((((((rs.getD kk run0).segs).getD ii (0, 0, 0)).2.2) - ((((rs.getD kk run0).segs).getD ii (0, 0, 0)).2.1)) + 1))))]), (row v44 54 3 rs.length (vtrips (runV lv rs))), (blk b4 24 [vr]), (sl vr 2 R.length (pairs R)), (runsR false vu lv rs), (sl vp 3 plan.length (trips plan))] := by rw [show catR rsf196 0 12 = ([(row (vs190 6) 56 3 1 [(Value.int .i64 ((((rs.getD kk run0).segs).getD ii (0, 0, 0)).1)), (Value.int .i64 (((((rs.getD kk run0).segs).getD ii (0, 0, 0)).2.1) - ((y).tmod (((((rs.getD kk run0).segs).getD ii (0, 0, 0)).2.1) + 1)))), (Value.int .i64 (((((rs.getD kk run0).segs).getD ii (0, 0, 0)).2.2) - (((y).tmod (((((rs.getD kk run0).segs).getD ii (0, 0, 0)).2.1) + 1)) + ((y).tmod ((((((rs.getD kk run0).segs).getD ii (0, 0, 0)).2.2) - ((((rs.getD kk run0).segs).getD ii (0, 0, 0)).2.1)) + 1)))))]), (row (vs190 7) 56 3 (((((rs.getD kk run0).segs).take ii) ++ [(((((rs.getD kk run0).segs).getD ii (0, 0, 0)).1, ((((rs.getD kk run0).segs).getD ii (0, 0, 0)).2.1) - ((y).tmod (((((rs.getD kk run0).segs).getD ii (0, 0, 0)).2.1) + 1)), ((((rs.getD kk run0).segs).getD ii (0, 0, 0)).2.2) - (((y).tmod (((((rs.getD kk run0).segs).getD ii (0, 0, 0)).2.1) + 1)) + ((y).tmod ((((((rs.getD kk run0).segs).getD ii (0, 0, 0)).2.2) - ((((rs.getD kk run0).segs).getD ii (0, 0, 0)).2.1)) + 1)))) : Seg)]).length) (trips ((((rs.getD kk run0).segs).take ii) ++ [(((((rs.getD kk run0).segs).getD ii (0, 0, 0)).1, ((((rs.getD kk run0).segs).getD ii (0, 0, 0)).2.1) - ((y).tmod (((((rs.getD kk run0).segs).getD ii (0, 0, 0)).2.1) + 1)), ((((rs.getD kk run0).segs).getD ii (0, 0, 0)).2.2) - (((y).tmod (((((rs.getD kk run0).segs).getD ii (0, 0, 0)).2.1) + 1)) + ((y).tmod ((((((rs.getD kk run0).segs).getD ii (0, 0, 0)).2.2) - ((((rs.getD kk run0).segs).getD ii (0, 0, 0)).2.1)) + 1)))) : Seg)])))] : List Res) by (try simp only [catR, hr_1, hr_2, hr_3, hr_5, hr_6, hr_7, hr_8, hr_9, hr_10, hr_11, hrq_0, hrq_4]); (try rfl)] at hS194; exact hS194
   have hA198 : Fr 241 [] [(129, (vs190 7)), (19, (bptr b19_ 0)), (16, (Value.int .i64 (ii : Int))), (17, (bptr b93 0)), (15, (lv.getD kk nilS)), (14, (Value.int .i64 (kk : Int))), (13, v44), (6, (bptr b4 0)), (1, vu), (2, vp)] a191 := hA193.add (slot_ev hs_7 rfl); clear hA193
   rw [hv_11] at hs_11
   have hA199 : Fr 241 [] [(133, (slcut (lv.getD kk nilS) (ii + 1) ((rs.getD kk run0).segs.length) 3)), (129, (vs190 7)), (19, (bptr b19_ 0)), (16, (Value.int .i64 (ii : Int))), (17, (bptr b93 0)), (15, (lv.getD kk nilS)), (14, (Value.int .i64 (kk : Int))), (13, v44), (6, (bptr b4 0)), (1, vu), (2, vp)] a191 := hA198.add (slot_ev hs_11 rfl); clear hA198
   clear hH195 hS194 hs_1 hs_2 hs_3 hs_5 hs_6 hs_7 hs_8 hs_9 hs_10 hs_11 hrq hrq_0 hrq_4
   clear hr_1
   clear hv_1
   clear hr_2
   clear hv_2
   clear hr_3
   clear hv_3
   clear hr_5
   clear hv_5
   clear hr_6
   clear hv_6
   clear hr_7
   clear hv_7
   clear hr_8
   clear hv_8
   clear hr_9
   clear hv_9
   clear hr_10
   clear hv_10
   clear hr_11
   clear hv_11
   refine stw hA199 (op_append hS197 rfl un_51 el_56 (hA199.ev rfl) (hA199.ev rfl) (i := 1) rfl (SlAt.say (n' := (((rs.getD kk run0).segs).drop (ii + 1)).length) (cs' := (trips (((rs.getD kk run0).segs).drop (ii + 1)))) (SlAt.cut ((runs_at (hS197.ok 8 _ rfl)).segs kk (by omega)) (by omega) (Nat.le_refl _)) (by simp only [List.length_drop]) (trips_cutLo _ _)) (trips_one _) (by simp only [maxLen, replAt, List.length_take, List.length_drop, List.length_append, List.length_cons, List.length_nil]; omega) (by first | omega | (simp only [maxLen, replAt, List.length_take, List.length_drop, List.length_append, List.length_cons, List.length_nil]; omega))) rfl rfl (by decide) ?_
   intro a200 v203 w202 hS204 hA201
   have hS205 := hS204.row_say (i := 1) rfl (n' := (((((rs.getD kk run0).segs).take ii) ++ [(((((rs.getD kk run0).segs).getD ii (0, 0, 0)).1, ((((rs.getD kk run0).segs).getD ii (0, 0, 0)).2.1) - ((y).tmod (((((rs.getD kk run0).segs).getD ii (0, 0, 0)).2.1) + 1)), ((((rs.getD kk run0).segs).getD ii (0, 0, 0)).2.2) - (((y).tmod (((((rs.getD kk run0).segs).getD ii (0, 0, 0)).2.1) + 1)) + ((y).tmod ((((((rs.getD kk run0).segs).getD ii (0, 0, 0)).2.2) - ((((rs.getD kk run0).segs).getD ii (0, 0, 0)).2.1)) + 1)))) : Seg)]) ++ (((rs.getD kk run0).segs).drop (ii + 1))).length) (xs' := (trips (((((rs.getD kk run0).segs).take ii) ++ [(((((rs.getD kk run0).segs).getD ii (0, 0, 0)).1, ((((rs.getD kk run0).segs).getD ii (0, 0, 0)).2.1) - ((y).tmod (((((rs.getD kk run0).segs).getD ii (0, 0, 0)).2.1) + 1)), ((((rs.getD kk run0).segs).getD ii (0, 0, 0)).2.2) - (((y).tmod (((((rs.getD kk run0).segs).getD ii (0, 0, 0)).2.1) + 1)) + ((y).tmod ((((((rs.getD kk run0).segs).getD ii (0, 0, 0)).2.2) - ((((rs.getD kk run0).segs).getD ii (0, 0, 0)).2.1)) + 1)))) : Seg)]) ++ (((rs.getD kk run0).segs).drop (ii + 1))))) (by first | exact List.length_append.symm | simp) (by first | exact (trips_append _ _).symm | simp [trips]); clear hS204 hA199 hS197 a191
   refine st hA201 (op_assign rfl (hA201.ev rfl)) rfl rfl (by decide) fun a206 hA207 => ?_; clear hA201 a200
   refine wl_nil ?_
   refine then_n ?_
   refine c_seq ?_
   have hS208 := hS205.row_say (i := 1) rfl (n' := (replAt (rs.getD kk run0).segs ii (((rs.getD kk run0).segs.getD ii (0, 0, 0)).1, ((rs.getD kk run0).segs.getD ii (0, 0, 0)).2.1 - (y.tmod (((rs.getD kk run0).segs.getD ii (0, 0, 0)).2.1 + 1)), ((rs.getD kk run0).segs.getD ii (0, 0, 0)).2.2 - (y.tmod (((rs.getD kk run0).segs.getD ii (0, 0, 0)).2.1 + 1) + y.tmod (((rs.getD kk run0).segs.getD ii (0, 0, 0)).2.2 - ((rs.getD kk run0).segs.getD ii (0, 0, 0)).2.1 + 1)))).length) (xs' := (trips (replAt (rs.getD kk run0).segs ii (((rs.getD kk run0).segs.getD ii (0, 0, 0)).1, ((rs.getD kk run0).segs.getD ii (0, 0, 0)).2.1 - (y.tmod (((rs.getD kk run0).segs.getD ii (0, 0, 0)).2.1 + 1)), ((rs.getD kk run0).segs.getD ii (0, 0, 0)).2.2 - (y.tmod (((rs.getD kk run0).segs.getD ii (0, 0, 0)).2.1 + 1) + y.tmod (((rs.getD kk run0).segs.getD ii (0, 0, 0)).2.2 - ((rs.getD kk run0).segs.getD ii (0, 0, 0)).2.1 + 1)))))) rfl rfl; clear hS205
   have hrl_ := repl_len (l := (rs.getD kk run0).segs) (s := (((rs.getD kk run0).segs.getD ii (0, 0, 0)).1, ((rs.getD kk run0).segs.getD ii (0, 0, 0)).2.1 - (y.tmod (((rs.getD kk run0).segs.getD ii (0, 0, 0)).2.1 + 1)), ((rs.getD kk run0).segs.getD ii (0, 0, 0)).2.2 - (y.tmod (((rs.getD kk run0).segs.getD ii (0, 0, 0)).2.1 + 1) + y.tmod (((rs.getD kk run0).segs.getD ii (0, 0, 0)).2.2 - ((rs.getD kk run0).segs.getD ii (0, 0, 0)).2.1 + 1)))) hb_ii
   have hA209 := hA207.as [(15, v203), (16, (Value.int .i64 (ii : Int))), (17, (bptr b93 0)), (14, (Value.int .i64 (kk : Int))), (13, v44), (6, (bptr b4 0)), (1, vu), (2, vp)] rfl; clear hA207
   refine c_drawCC mixed hA209 hS208 14 [(6, 2), (9, 6), (13, 9)] [[], [], [], [], [], [3, 4], [2, 5], [], [7], [6, 8], [], [], [10, 11], [9, 12]] [(fun (vs210 : Nat → Value) (v_ : Value) (rs_ : List Res) => v_ = v44 ∧ rs_ = []), (fun (vs210 : Nat → Value) (v_ : Value) (rs_ : List Res) => v_ = (Value.int .i64 (kk : Int)) ∧ rs_ = []), (fun (vs210 : Nat → Value) (v_ : Value) (rs_ : List Res) => ∃ (b2_ : Nat), v_ = (Value.slice (some ⟨b2_, 0, none⟩) 0 0) ∧ rs_ = [(blk b2_ 56 [])]), (fun (vs210 : Nat → Value) (v_ : Value) (rs_ : List Res) => v_ = v203 ∧ rs_ = []), (fun (vs210 : Nat → Value) (v_ : Value) (rs_ : List Res) => v_ = (Value.int .i64 (ii : Int)) ∧ rs_ = []), (fun (vs210 : Nat → Value) (v_ : Value) (rs_ : List Res) => v_ = (slcut v203 0 ii 3) ∧ rs_ = []), (fun (vs210 : Nat → Value) (v_ : Value) (rs_ : List Res) => True ∧ rs_ = [(row v_ 56 3 (((replAt (rs.getD kk run0).segs ii (((rs.getD kk run0).segs.getD ii (0, 0, 0)).1, ((rs.getD kk run0).segs.getD ii (0, 0, 0)).2.1 - (y.tmod (((rs.getD kk run0).segs.getD ii (0, 0, 0)).2.1 + 1)), ((rs.getD kk run0).segs.getD ii (0, 0, 0)).2.2 - (y.tmod (((rs.getD kk run0).segs.getD ii (0, 0, 0)).2.1 + 1) + y.tmod (((rs.getD kk run0).segs.getD ii (0, 0, 0)).2.2 - ((rs.getD kk run0).segs.getD ii (0, 0, 0)).2.1 + 1)))).take ii).length) (trips ((replAt (rs.getD kk run0).segs ii (((rs.getD kk run0).segs.getD ii (0, 0, 0)).1, ((rs.getD kk run0).segs.getD ii (0, 0, 0)).2.1 - (y.tmod (((rs.getD kk run0).segs.getD ii (0, 0, 0)).2.1 + 1)), ((rs.getD kk run0).segs.getD ii (0, 0, 0)).2.2 - (y.tmod (((rs.getD kk run0).segs.getD ii (0, 0, 0)).2.1 + 1) + y.tmod (((rs.getD kk run0).segs.getD ii (0, 0, 0)).2.2 - ((rs.getD kk run0).segs.getD ii (0, 0, 0)).2.1 + 1)))).take ii)))]), (fun (vs210 : Nat → Value) (v_ : Value) (rs_ : List Res) => v_ = (Value.agg #[(Value.int .i64 ((((rs.getD kk run0).segs).getD ii (0, 0, 0)).1)), (Value.int .i64 ((y).tmod (((((rs.getD kk run0).segs).getD ii (0, 0, 0)).2.1) + 1))), (Value.int .i64 (((y).tmod (((((rs.getD kk run0).segs).getD ii (0, 0, 0)).2.1) + 1)) + ((y).tmod ((((((rs.getD kk run0).segs).getD ii (0, 0, 0)).2.2) - ((((rs.getD kk run0).segs).getD ii (0, 0, 0)).2.1)) + 1))))]) ∧ rs_ = []), (fun (vs210 : Nat → Value) (v_ : Value) (rs_ : List Res) => True ∧ rs_ = [(row v_ 56 3 1 [(Value.int .i64 ((((rs.getD kk run0).segs).getD ii (0, 0, 0)).1)), (Value.int .i64 ((y).tmod (((((rs.getD kk run0).segs).getD ii (0, 0, 0)).2.1) + 1))), (Value.int .i64 (((y).tmod (((((rs.getD kk run0).segs).getD ii (0, 0, 0)).2.1) + 1)) + ((y).tmod ((((((rs.getD kk run0).segs).getD ii (0, 0, 0)).2.2) - ((((rs.getD kk run0).segs).getD ii (0, 0, 0)).2.1)) + 1))))])]), (fun (vs210 : Nat → Value) (v_ : Value) (rs_ : List Res) => True ∧ rs_ = [(row v_ 56 3 ((((replAt (rs.getD kk run0).segs ii (((rs.getD kk run0).segs.getD ii (0, 0, 0)).1, ((rs.getD kk run0).segs.getD ii (0, 0, 0)).2.1 - (y.tmod (((rs.getD kk run0).segs.getD ii (0, 0, 0)).2.1 + 1)), ((rs.getD kk run0).segs.getD ii (0, 0, 0)).2.2 - (y.tmod (((rs.getD kk run0).segs.getD ii (0, 0, 0)).2.1 + 1) + y.tmod (((rs.getD kk run0).segs.getD ii (0, 0, 0)).2.2 - ((rs.getD kk run0).segs.getD ii (0, 0, 0)).2.1 + 1)))).take ii) ++ [(((((rs.getD kk run0).segs).getD ii (0, 0, 0)).1, (y).tmod (((((rs.getD kk run0).segs).getD ii (0, 0, 0)).2.1) + 1), ((y).tmod (((((rs.getD kk run0).segs).getD ii (0, 0, 0)).2.1) + 1)) + ((y).tmod ((((((rs.getD kk run0).segs).getD ii (0, 0, 0)).2.2) - ((((rs.getD kk run0).segs).getD ii (0, 0, 0)).2.1)) + 1))) : Seg)]).length) (trips (((replAt (rs.getD kk run0).segs ii (((rs.getD kk run0).segs.getD ii (0, 0, 0)).1, ((rs.getD kk run0).segs.getD ii (0, 0, 0)).2.1 - (y.tmod (((rs.getD kk run0).segs.getD ii (0, 0, 0)).2.1 + 1)), ((rs.getD kk run0).segs.getD ii (0, 0, 0)).2.2 - (y.tmod (((rs.getD kk run0).segs.getD ii (0, 0, 0)).2.1 + 1) + y.tmod (((rs.getD kk run0).segs.getD ii (0, 0, 0)).2.2 - ((rs.getD kk run0).segs.getD ii (0, 0, 0)).2.1 + 1)))).take ii) ++ [(((((rs.getD kk run0).segs).getD ii (0, 0, 0)).1, (y).tmod (((((rs.getD kk run0).segs).getD ii (0, 0, 0)).2.1) + 1), ((y).tmod (((((rs.getD kk run0).segs).getD ii (0, 0, 0)).2.1) + 1)) + ((y).tmod ((((((rs.getD kk run0).segs).getD ii (0, 0, 0)).2.2) - ((((rs.getD kk run0).segs).getD ii (0, 0, 0)).2.1)) + 1))) : Seg)])))]), (fun (vs210 : Nat → Value) (v_ : Value) (rs_ : List Res) => v_ = v203 ∧ rs_ = []), (fun (vs210 : Nat → Value) (v_ : Value) (rs_ : List Res) => v_ = (Value.int .i64 (ii : Int)) ∧ rs_ = []), (fun (vs210 : Nat → Value) (v_ : Value) (rs_ : List Res) => v_ = (slcut v203 ii ((replAt (rs.getD kk run0).segs ii (((rs.getD kk run0).segs.getD ii (0, 0, 0)).1, ((rs.getD kk run0).segs.getD ii (0, 0, 0)).2.1 - (y.tmod (((rs.getD kk run0).segs.getD ii (0, 0, 0)).2.1 + 1)), ((rs.getD kk run0).segs.getD ii (0, 0, 0)).2.2 - (y.tmod (((rs.getD kk run0).segs.getD ii (0, 0, 0)).2.1 + 1) + y.tmod (((rs.getD kk run0).segs.getD ii (0, 0, 0)).2.2 - ((rs.getD kk run0).segs.getD ii (0, 0, 0)).2.1 + 1)))).length) 3) ∧ rs_ = []), (fun (vs210 : Nat → Value) (v_ : Value) (rs_ : List Res) => True ∧ rs_ = [(row v_ 56 3 (((((replAt (rs.getD kk run0).segs ii (((rs.getD kk run0).segs.getD ii (0, 0, 0)).1, ((rs.getD kk run0).segs.getD ii (0, 0, 0)).2.1 - (y.tmod (((rs.getD kk run0).segs.getD ii (0, 0, 0)).2.1 + 1)), ((rs.getD kk run0).segs.getD ii (0, 0, 0)).2.2 - (y.tmod (((rs.getD kk run0).segs.getD ii (0, 0, 0)).2.1 + 1) + y.tmod (((rs.getD kk run0).segs.getD ii (0, 0, 0)).2.2 - ((rs.getD kk run0).segs.getD ii (0, 0, 0)).2.1 + 1)))).take ii) ++ [(((((rs.getD kk run0).segs).getD ii (0, 0, 0)).1, (y).tmod (((((rs.getD kk run0).segs).getD ii (0, 0, 0)).2.1) + 1), ((y).tmod (((((rs.getD kk run0).segs).getD ii (0, 0, 0)).2.1) + 1)) + ((y).tmod ((((((rs.getD kk run0).segs).getD ii (0, 0, 0)).2.2) - ((((rs.getD kk run0).segs).getD ii (0, 0, 0)).2.1)) + 1))) : Seg)]) ++ ((replAt (rs.getD kk run0).segs ii (((rs.getD kk run0).segs.getD ii (0, 0, 0)).1, ((rs.getD kk run0).segs.getD ii (0, 0, 0)).2.1 - (y.tmod (((rs.getD kk run0).segs.getD ii (0, 0, 0)).2.1 + 1)), ((rs.getD kk run0).segs.getD ii (0, 0, 0)).2.2 - (y.tmod (((rs.getD kk run0).segs.getD ii (0, 0, 0)).2.1 + 1) + y.tmod (((rs.getD kk run0).segs.getD ii (0, 0, 0)).2.2 - ((rs.getD kk run0).segs.getD ii (0, 0, 0)).2.1 + 1)))).drop ii)).length) (trips ((((replAt (rs.getD kk run0).segs ii (((rs.getD kk run0).segs.getD ii (0, 0, 0)).1, ((rs.getD kk run0).segs.getD ii (0, 0, 0)).2.1 - (y.tmod (((rs.getD kk run0).segs.getD ii (0, 0, 0)).2.1 + 1)), ((rs.getD kk run0).segs.getD ii (0, 0, 0)).2.2 - (y.tmod (((rs.getD kk run0).segs.getD ii (0, 0, 0)).2.1 + 1) + y.tmod (((rs.getD kk run0).segs.getD ii (0, 0, 0)).2.2 - ((rs.getD kk run0).segs.getD ii (0, 0, 0)).2.1 + 1)))).take ii) ++ [(((((rs.getD kk run0).segs).getD ii (0, 0, 0)).1, (y).tmod (((((rs.getD kk run0).segs).getD ii (0, 0, 0)).2.1) + 1), ((y).tmod (((((rs.getD kk run0).segs).getD ii (0, 0, 0)).2.1) + 1)) + ((y).tmod ((((((rs.getD kk run0).segs).getD ii (0, 0, 0)).2.2) - ((((rs.getD kk run0).segs).getD ii (0, 0, 0)).2.1)) + 1))) : Seg)]) ++ ((replAt (rs.getD kk run0).segs ii (((rs.getD kk run0).segs.getD ii (0, 0, 0)).1, ((rs.getD kk run0).segs.getD ii (0, 0, 0)).2.1 - (y.tmod (((rs.getD kk run0).segs.getD ii (0, 0, 0)).2.1 + 1)), ((rs.getD kk run0).segs.getD ii (0, 0, 0)).2.2 - (y.tmod (((rs.getD kk run0).segs.getD ii (0, 0, 0)).2.1 + 1) + y.tmod (((rs.getD kk run0).segs.getD ii (0, 0, 0)).2.2 - ((rs.getD kk run0).segs.getD ii (0, 0, 0)).2.1 + 1)))).drop ii))))])] (by decide +kernel) (by decide +kernel) (by decide +kernel) (by decide +kernel) rfl rfl ⟨(fun _ _ _ _ _ h_ => h_), (fun _ _ _ _ _ h_ => h_), (fun _ _ _ _ _ h_ => h_), (fun _ _ _ _ _ h_ => h_), (fun _ _ _ _ _ h_ => h_), (fun _ _ _ _ _ h_ => h_), (fun _ _ _ _ _ h_ => h_), (fun _ _ _ _ _ h_ => h_), (fun _ _ _ _ _ h_ => h_), (fun _ _ _ _ _ h_ => h_), (fun _ _ _ _ _ h_ => h_), (fun _ _ _ _ _ h_ => h_), (fun _ _ _ _ _ h_ => h_), (fun _ _ _ _ _ h_ => h_), trivial⟩ (by decide +kernel) ?_ ?_ ?_
   ·skip
    refine ⟨fun hj_ a w vs210 hA hS hd => ?_, ?_⟩
    ·skip
     exact opG_of rfl (vv (op_move rfl (hA.ev rfl)) (And.intro rfl rfl))
    refine ⟨fun hj_ a w vs210 hA hS hd => ?_, ?_⟩
    ·skip
     exact opG_of rfl (vv (op_move rfl (hA.ev rfl)) (And.intro rfl rfl))
    refine ⟨fun hj_ a w vs210 hA hS hd => ?_, ?_⟩
    ·skip
     exact opG_of rfl (vblz rfl pv0 un_51 ty_56 ze_56 bs_56_0_ (fun b_ => ⟨b_, rfl, rfl⟩))
    refine ⟨fun hj_ a w vs210 hA hS hd => ?_, ?_⟩
    ·skip
     exact opG_of rfl (vv (op_move rfl (hA.ev rfl)) (And.intro rfl rfl))
    refine ⟨fun hj_ a w vs210 hA hS hd => ?_, ?_⟩
    ·skip
     exact opG_of rfl (vv (op_move rfl (hA.ev rfl)) (And.intro rfl rfl))
    refine ⟨fun hj_ a w vs210 hA hS hd => ?_, ?_⟩
    ·skip
     obtain ⟨e3, rs3, hy3, hp3⟩ := hd 3 (by decide)
     obtain ⟨hv3, hr3⟩ := hy3; subst hr3
     rw [hv3] at e3
     obtain ⟨e4, rs4, hy4, hp4⟩ := hd 4 (by decide)
     obtain ⟨hv4, hr4⟩ := hy4; subst hr4
     rw [hv4] at e4
     exact opG_of rfl (vv (op_sliceHi rfl un_51 ty_56 (tmp_ev (slot_ev e3 rfl)) (h := ii) (tmp_ev (slot_ev e4 rfl)) (SlAt.of_row (hS.ok_row 1 rfl)) (by omega)) (And.intro rfl rfl))
    refine ⟨fun hj_ => absurd hj_ (by decide), ?_⟩
    refine ⟨fun hj_ a w vs210 hA hS hd => ?_, ?_⟩
    ·skip
     exact opG_of rfl (vv (op_loadA rfl ty_56 (hA.ev rfl) (hS.bk 4 rfl) (l := [(Value.int .i64 ((((rs.getD kk run0).segs).getD ii (0, 0, 0)).1)), (Value.int .i64 ((y).tmod (((((rs.getD kk run0).segs).getD ii (0, 0, 0)).2.1) + 1))), (Value.int .i64 (((y).tmod (((((rs.getD kk run0).segs).getD ii (0, 0, 0)).2.1) + 1)) + ((y).tmod ((((((rs.getD kk run0).segs).getD ii (0, 0, 0)).2.2) - ((((rs.getD kk run0).segs).getD ii (0, 0, 0)).2.1)) + 1))))]) rfl rfl) (And.intro rfl rfl))
    refine ⟨fun hj_ a w vs210 hA hS hd => ?_, ?_⟩
    ·skip
     obtain ⟨e7, rs7, hy7, hp7⟩ := hd 7 (by decide)
     obtain ⟨hv7, hr7⟩ := hy7; subst hr7
     rw [hv7] at e7
     exact opG_of rfl (vblt rfl (pv1 (tmp_ev (slot_ev e7 rfl))) un_51 ty_56 ze_56 (by decide) (cs := [(Value.int .i64 ((((rs.getD kk run0).segs).getD ii (0, 0, 0)).1)), (Value.int .i64 ((y).tmod (((((rs.getD kk run0).segs).getD ii (0, 0, 0)).2.1) + 1))), (Value.int .i64 (((y).tmod (((((rs.getD kk run0).segs).getD ii (0, 0, 0)).2.1) + 1)) + ((y).tmod ((((((rs.getD kk run0).segs).getD ii (0, 0, 0)).2.2) - ((((rs.getD kk run0).segs).getD ii (0, 0, 0)).2.1)) + 1))))]) (bs_56_1_0iiia _ _ _) rfl (by decide) (fun _ => And.intro trivial rfl))
    refine ⟨fun hj_ => absurd hj_ (by decide), ?_⟩
    refine ⟨fun hj_ a w vs210 hA hS hd => ?_, ?_⟩
    ·skip
     exact opG_of rfl (vv (op_move rfl (hA.ev rfl)) (And.intro rfl rfl))
    refine ⟨fun hj_ a w vs210 hA hS hd => ?_, ?_⟩
    ·skip
     exact opG_of rfl (vv (op_move rfl (hA.ev rfl)) (And.intro rfl rfl))
    refine ⟨fun hj_ a w vs210 hA hS hd => ?_, ?_⟩
    ·skip
     obtain ⟨e10, rs10, hy10, hp10⟩ := hd 10 (by decide)
     obtain ⟨hv10, hr10⟩ := hy10; subst hr10
     rw [hv10] at e10
     obtain ⟨e11, rs11, hy11, hp11⟩ := hd 11 (by decide)
     obtain ⟨hv11, hr11⟩ := hy11; subst hr11
     rw [hv11] at e11
     exact opG_of rfl (vv (op_sliceLo rfl un_51 ty_56 (tmp_ev (slot_ev e10 rfl)) (l := ii) (tmp_ev (slot_ev e11 rfl)) (SlAt.of_row (hS.ok_row 1 rfl)) (by omega)) (And.intro rfl rfl))
    refine ⟨fun hj_ => absurd hj_ (by decide), ?_⟩
    trivial
   ·skip
    refine ⟨fun o_ ho_ => ?_, ?_⟩
    ·skip
     obtain rfl := Option.some.inj ho_; clear ho_
     intro a w vs210 rs0 Lr hA hs0 hy0 hd hL hS
     obtain ⟨b2_, hv2, hr2⟩ := hy0; subst hr2
     rw [hv2] at hs0
     replace hS := hS.blk_row (i := 0) (sz := 3) (n := 0) rfl rfl (by decide)
     obtain ⟨e5, rs5, hy5, hp5⟩ := hd 5 (by decide) (by decide)
     obtain ⟨hv5, hr5⟩ := hy5; subst hr5
     rw [hv5] at e5
     exact opG_of rfl (opY_mono (op_append hS rfl un_51 el_56 (tmp_ev (slot_ev hs0 rfl)) (tmp_ev (slot_ev e5 rfl)) (i := 0) rfl (SlAt.say (n' := ((replAt (rs.getD kk run0).segs ii (((rs.getD kk run0).segs.getD ii (0, 0, 0)).1, ((rs.getD kk run0).segs.getD ii (0, 0, 0)).2.1 - (y.tmod (((rs.getD kk run0).segs.getD ii (0, 0, 0)).2.1 + 1)), ((rs.getD kk run0).segs.getD ii (0, 0, 0)).2.2 - (y.tmod (((rs.getD kk run0).segs.getD ii (0, 0, 0)).2.1 + 1) + y.tmod (((rs.getD kk run0).segs.getD ii (0, 0, 0)).2.2 - ((rs.getD kk run0).segs.getD ii (0, 0, 0)).2.1 + 1)))).take ii).length) (cs' := (trips ((replAt (rs.getD kk run0).segs ii (((rs.getD kk run0).segs.getD ii (0, 0, 0)).1, ((rs.getD kk run0).segs.getD ii (0, 0, 0)).2.1 - (y.tmod (((rs.getD kk run0).segs.getD ii (0, 0, 0)).2.1 + 1)), ((rs.getD kk run0).segs.getD ii (0, 0, 0)).2.2 - (y.tmod (((rs.getD kk run0).segs.getD ii (0, 0, 0)).2.1 + 1) + y.tmod (((rs.getD kk run0).segs.getD ii (0, 0, 0)).2.2 - ((rs.getD kk run0).segs.getD ii (0, 0, 0)).2.1 + 1)))).take ii))) (SlAt.cut (SlAt.of_row (hL.ok_row 1 rfl)) (Nat.zero_le _) (by omega)) (by simp only [List.length_take]; omega) (trips_cutHi _ _)) (trips_one _) (by simp only [maxLen, replAt, List.length_take, List.length_drop, List.length_append, List.length_cons, List.length_nil]; omega) (by first | omega | (simp only [maxLen, replAt, List.length_take, List.length_drop, List.length_append, List.length_cons, List.length_nil]; omega))) fun v_ w_ h_ => ⟨_, And.intro trivial rfl, h_.row_say (i := 0) rfl (n' := ((replAt (rs.getD kk run0).segs ii (((rs.getD kk run0).segs.getD ii (0, 0, 0)).1, ((rs.getD kk run0).segs.getD ii (0, 0, 0)).2.1 - (y.tmod (((rs.getD kk run0).segs.getD ii (0, 0, 0)).2.1 + 1)), ((rs.getD kk run0).segs.getD ii (0, 0, 0)).2.2 - (y.tmod (((rs.getD kk run0).segs.getD ii (0, 0, 0)).2.1 + 1) + y.tmod (((rs.getD kk run0).segs.getD ii (0, 0, 0)).2.2 - ((rs.getD kk run0).segs.getD ii (0, 0, 0)).2.1 + 1)))).take ii).length) (xs' := (trips ((replAt (rs.getD kk run0).segs ii (((rs.getD kk run0).segs.getD ii (0, 0, 0)).1, ((rs.getD kk run0).segs.getD ii (0, 0, 0)).2.1 - (y.tmod (((rs.getD kk run0).segs.getD ii (0, 0, 0)).2.1 + 1)), ((rs.getD kk run0).segs.getD ii (0, 0, 0)).2.2 - (y.tmod (((rs.getD kk run0).segs.getD ii (0, 0, 0)).2.1 + 1) + y.tmod (((rs.getD kk run0).segs.getD ii (0, 0, 0)).2.2 - ((rs.getD kk run0).segs.getD ii (0, 0, 0)).2.1 + 1)))).take ii))) (by simp) (by simp)⟩)
    refine ⟨fun o_ ho_ => ?_, ?_⟩
    ·skip
     obtain rfl := Option.some.inj ho_; clear ho_
     intro a w vs210 rs0 Lr hA hs0 hy0 hd hL hS
     obtain ⟨hv6, hr6⟩ := hy0; subst hr6
     obtain ⟨e8, rs8, hy8, hp8⟩ := hd 8 (by decide) (by decide)
     obtain ⟨hv8, hr8⟩ := hy8; subst hr8
     have hp8_0 := hp8 _ (List.mem_of_getElem? (i := 0) rfl)
     exact opG_of rfl (opY_mono (op_append hS rfl un_51 el_56 (tmp_ev (slot_ev hs0 rfl)) (tmp_ev (slot_ev e8 rfl)) (i := 0) rfl (SlAt.of_row hp8_0) rfl (by simp only [maxLen, replAt, List.length_take, List.length_drop, List.length_append, List.length_cons, List.length_nil]; omega) (by first | omega | (simp only [maxLen, replAt, List.length_take, List.length_drop, List.length_append, List.length_cons, List.length_nil]; omega))) fun v_ w_ h_ => ⟨_, And.intro trivial rfl, h_.row_say (i := 0) rfl (n' := (((replAt (rs.getD kk run0).segs ii (((rs.getD kk run0).segs.getD ii (0, 0, 0)).1, ((rs.getD kk run0).segs.getD ii (0, 0, 0)).2.1 - (y.tmod (((rs.getD kk run0).segs.getD ii (0, 0, 0)).2.1 + 1)), ((rs.getD kk run0).segs.getD ii (0, 0, 0)).2.2 - (y.tmod (((rs.getD kk run0).segs.getD ii (0, 0, 0)).2.1 + 1) + y.tmod (((rs.getD kk run0).segs.getD ii (0, 0, 0)).2.2 - ((rs.getD kk run0).segs.getD ii (0, 0, 0)).2.1 + 1)))).take ii) ++ [(((((rs.getD kk run0).segs).getD ii (0, 0, 0)).1, (y).tmod (((((rs.getD kk run0).segs).getD ii (0, 0, 0)).2.1) + 1), ((y).tmod (((((rs.getD kk run0).segs).getD ii (0, 0, 0)).2.1) + 1)) + ((y).tmod ((((((rs.getD kk run0).segs).getD ii (0, 0, 0)).2.2) - ((((rs.getD kk run0).segs).getD ii (0, 0, 0)).2.1)) + 1))) : Seg)]).length) (xs' := (trips (((replAt (rs.getD kk run0).segs ii (((rs.getD kk run0).segs.getD ii (0, 0, 0)).1, ((rs.getD kk run0).segs.getD ii (0, 0, 0)).2.1 - (y.tmod (((rs.getD kk run0).segs.getD ii (0, 0, 0)).2.1 + 1)), ((rs.getD kk run0).segs.getD ii (0, 0, 0)).2.2 - (y.tmod (((rs.getD kk run0).segs.getD ii (0, 0, 0)).2.1 + 1) + y.tmod (((rs.getD kk run0).segs.getD ii (0, 0, 0)).2.2 - ((rs.getD kk run0).segs.getD ii (0, 0, 0)).2.1 + 1)))).take ii) ++ [(((((rs.getD kk run0).segs).getD ii (0, 0, 0)).1, (y).tmod (((((rs.getD kk run0).segs).getD ii (0, 0, 0)).2.1) + 1), ((y).tmod (((((rs.getD kk run0).segs).getD ii (0, 0, 0)).2.1) + 1)) + ((y).tmod ((((((rs.getD kk run0).segs).getD ii (0, 0, 0)).2.2) - ((((rs.getD kk run0).segs).getD ii (0, 0, 0)).2.1)) + 1))) : Seg)]))) (by first | exact List.length_append.symm | simp) (by first | exact (trips_append _ _).symm | simp [trips])⟩)
    refine ⟨fun o_ ho_ => ?_, ?_⟩
    ·skip
     obtain rfl := Option.some.inj ho_; clear ho_
     intro a w vs210 rs0 Lr hA hs0 hy0 hd hL hS
     obtain ⟨hv9, hr9⟩ := hy0; subst hr9
     obtain ⟨e12, rs12, hy12, hp12⟩ := hd 12 (by decide) (by decide)
     obtain ⟨hv12, hr12⟩ := hy12; subst hr12
     rw [hv12] at e12
     exact opG_of rfl (opY_mono (op_append hS rfl un_51 el_56 (tmp_ev (slot_ev hs0 rfl)) (tmp_ev (slot_ev e12 rfl)) (i := 0) rfl (SlAt.say (n' := ((replAt (rs.getD kk run0).segs ii (((rs.getD kk run0).segs.getD ii (0, 0, 0)).1, ((rs.getD kk run0).segs.getD ii (0, 0, 0)).2.1 - (y.tmod (((rs.getD kk run0).segs.getD ii (0, 0, 0)).2.1 + 1)), ((rs.getD kk run0).segs.getD ii (0, 0, 0)).2.2 - (y.tmod (((rs.getD kk run0).segs.getD ii (0, 0, 0)).2.1 + 1) + y.tmod (((rs.getD kk run0).segs.getD ii (0, 0, 0)).2.2 - ((rs.getD kk run0).segs.getD ii (0, 0, 0)).2.1 + 1)))).drop ii).length) (cs' := (trips ((replAt (rs.getD kk run0).segs ii (((rs.getD kk run0).segs.getD ii (0, 0, 0)).1, ((rs.getD kk run0).segs.getD ii (0, 0, 0)).2.1 - (y.tmod (((rs.getD kk run0).segs.getD ii (0, 0, 0)).2.1 + 1)), ((rs.getD kk run0).segs.getD ii (0, 0, 0)).2.2 - (y.tmod (((rs.getD kk run0).segs.getD ii (0, 0, 0)).2.1 + 1) + y.tmod (((rs.getD kk run0).segs.getD ii (0, 0, 0)).2.2 - ((rs.getD kk run0).segs.getD ii (0, 0, 0)).2.1 + 1)))).drop ii))) (SlAt.cut (SlAt.of_row (hL.ok_row 1 rfl)) (by omega) (Nat.le_refl _)) (by simp only [List.length_drop]) (trips_cutLo _ _)) (trips_one _) (by simp only [maxLen, replAt, List.length_take, List.length_drop, List.length_append, List.length_cons, List.length_nil]; omega) (by first | omega | (simp only [maxLen, replAt, List.length_take, List.length_drop, List.length_append, List.length_cons, List.length_nil]; omega))) fun v_ w_ h_ => ⟨_, And.intro trivial rfl, h_.row_say (i := 0) rfl (n' := ((((replAt (rs.getD kk run0).segs ii (((rs.getD kk run0).segs.getD ii (0, 0, 0)).1, ((rs.getD kk run0).segs.getD ii (0, 0, 0)).2.1 - (y.tmod (((rs.getD kk run0).segs.getD ii (0, 0, 0)).2.1 + 1)), ((rs.getD kk run0).segs.getD ii (0, 0, 0)).2.2 - (y.tmod (((rs.getD kk run0).segs.getD ii (0, 0, 0)).2.1 + 1) + y.tmod (((rs.getD kk run0).segs.getD ii (0, 0, 0)).2.2 - ((rs.getD kk run0).segs.getD ii (0, 0, 0)).2.1 + 1)))).take ii) ++ [(((((rs.getD kk run0).segs).getD ii (0, 0, 0)).1, (y).tmod (((((rs.getD kk run0).segs).getD ii (0, 0, 0)).2.1) + 1), ((y).tmod (((((rs.getD kk run0).segs).getD ii (0, 0, 0)).2.1) + 1)) + ((y).tmod ((((((rs.getD kk run0).segs).getD ii (0, 0, 0)).2.2) - ((((rs.getD kk run0).segs).getD ii (0, 0, 0)).2.1)) + 1))) : Seg)]) ++ ((replAt (rs.getD kk run0).segs ii (((rs.getD kk run0).segs.getD ii (0, 0, 0)).1, ((rs.getD kk run0).segs.getD ii (0, 0, 0)).2.1 - (y.tmod (((rs.getD kk run0).segs.getD ii (0, 0, 0)).2.1 + 1)), ((rs.getD kk run0).segs.getD ii (0, 0, 0)).2.2 - (y.tmod (((rs.getD kk run0).segs.getD ii (0, 0, 0)).2.1 + 1) + y.tmod (((rs.getD kk run0).segs.getD ii (0, 0, 0)).2.2 - ((rs.getD kk run0).segs.getD ii (0, 0, 0)).2.1 + 1)))).drop ii)).length) (xs' := (trips ((((replAt (rs.getD kk run0).segs ii (((rs.getD kk run0).segs.getD ii (0, 0, 0)).1, ((rs.getD kk run0).segs.getD ii (0, 0, 0)).2.1 - (y.tmod (((rs.getD kk run0).segs.getD ii (0, 0, 0)).2.1 + 1)), ((rs.getD kk run0).segs.getD ii (0, 0, 0)).2.2 - (y.tmod (((rs.getD kk run0).segs.getD ii (0, 0, 0)).2.1 + 1) + y.tmod (((rs.getD kk run0).segs.getD ii (0, 0, 0)).2.2 - ((rs.getD kk run0).segs.getD ii (0, 0, 0)).2.1 + 1)))).take ii) ++ [(((((rs.getD kk run0).segs).getD ii (0, 0, 0)).1, (y).tmod (((((rs.getD kk run0).segs).getD ii (0, 0, 0)).2.1) + 1), ((y).tmod (((((rs.getD kk run0).segs).getD ii (0, 0, 0)).2.1) + 1)) + ((y).tmod ((((((rs.getD kk run0).segs).getD ii (0, 0, 0)).2.2) - ((((rs.getD kk run0).segs).getD ii (0, 0, 0)).2.1)) + 1))) : Seg)]) ++ ((replAt (rs.getD kk run0).segs ii (((rs.getD kk run0).segs.getD ii (0, 0, 0)).1, ((rs.getD kk run0).segs.getD ii (0, 0, 0)).2.1 - (y.tmod (((rs.getD kk run0).segs.getD ii (0, 0, 0)).2.1 + 1)), ((rs.getD kk run0).segs.getD ii (0, 0, 0)).2.2 - (y.tmod (((rs.getD kk run0).segs.getD ii (0, 0, 0)).2.1 + 1) + y.tmod (((rs.getD kk run0).segs.getD ii (0, 0, 0)).2.2 - ((rs.getD kk run0).segs.getD ii (0, 0, 0)).2.1 + 1)))).drop ii)))) (by first | exact List.length_append.symm | simp) (by first | exact (trips_append _ _).symm | simp [trips])⟩)
    trivial
   ·skip
    intro a211 w212 vs210 rsf216 hA213 hH215 hrq hS214; clear hA209 hS208
    have hrq_2 := hrq (6, 2) (by decide)
    have hrq_6 := hrq (9, 6) (by decide)
    have hrq_9 := hrq (13, 9) (by decide)
    obtain ⟨hs_0, hy_0⟩ := hH215 0 (by decide) (by decide)
    obtain ⟨hv_0, hr_0⟩ := hy_0
    obtain ⟨hs_1, hy_1⟩ := hH215 1 (by decide) (by decide)
    obtain ⟨hv_1, hr_1⟩ := hy_1
    obtain ⟨hs_3, hy_3⟩ := hH215 3 (by decide) (by decide)
    obtain ⟨hv_3, hr_3⟩ := hy_3
    obtain ⟨hs_4, hy_4⟩ := hH215 4 (by decide) (by decide)
    obtain ⟨hv_4, hr_4⟩ := hy_4
    obtain ⟨hs_5, hy_5⟩ := hH215 5 (by decide) (by decide)
    obtain ⟨hv_5, hr_5⟩ := hy_5
    obtain ⟨hs_7, hy_7⟩ := hH215 7 (by decide) (by decide)
    obtain ⟨hv_7, hr_7⟩ := hy_7
    obtain ⟨hs_8, hy_8⟩ := hH215 8 (by decide) (by decide)
    obtain ⟨hv_8, hr_8⟩ := hy_8
    obtain ⟨hs_10, hy_10⟩ := hH215 10 (by decide) (by decide)
    obtain ⟨hv_10, hr_10⟩ := hy_10
    obtain ⟨hs_11, hy_11⟩ := hH215 11 (by decide) (by decide)
    obtain ⟨hv_11, hr_11⟩ := hy_11
    obtain ⟨hs_12, hy_12⟩ := hH215 12 (by decide) (by decide)
    obtain ⟨hv_12, hr_12⟩ := hy_12
    obtain ⟨hs_13, hy_13⟩ := hH215 13 (by decide) (by decide)
    obtain ⟨hv_13, hr_13⟩ := hy_13
    have hS217 : Sep NoB w w212 [(row (vs210 8) 56 3 1 [(Value.int .i64 ((((rs.getD kk run0).segs).getD ii (0, 0, 0)).1)), (Value.int .i64 ((y).tmod (((((rs.getD kk run0).segs).getD ii (0, 0, 0)).2.1) + 1))), (Value.int .i64 (((y).tmod (((((rs.getD kk run0).segs).getD ii (0, 0, 0)).2.1) + 1)) + ((y).tmod ((((((rs.getD kk run0).segs).getD ii (0, 0, 0)).2.2) - ((((rs.getD kk run0).segs).getD ii (0, 0, 0)).2.1)) + 1))))]), (row (vs210 13) 56 3 (((((replAt (rs.getD kk run0).segs ii (((rs.getD kk run0).segs.getD ii (0, 0, 0)).1, ((rs.getD kk run0).segs.getD ii (0, 0, 0)).2.1 - (y.tmod (((rs.getD kk run0).segs.getD ii (0, 0, 0)).2.1 + 1)), ((rs.getD kk run0).segs.getD ii (0, 0, 0)).2.2 - (y.tmod (((rs.getD kk run0).segs.getD ii (0, 0, 0)).2.1 + 1) + y.tmod (((rs.getD kk run0).segs.getD ii (0, 0, 0)).2.2 - ((rs.getD kk run0).segs.getD ii (0, 0, 0)).2.1 + 1)))).take ii) ++ [(((((rs.getD kk run0).segs).getD ii (0, 0, 0)).1, (y).tmod (((((rs.getD kk run0).segs).getD ii (0, 0, 0)).2.1) + 1), ((y).tmod (((((rs.getD kk run0).segs).getD ii (0, 0, 0)).2.1) + 1)) + ((y).tmod ((((((rs.getD kk run0).segs).getD ii (0, 0, 0)).2.2) - ((((rs.getD kk run0).segs).getD ii (0, 0, 0)).2.1)) + 1))) : Seg)]) ++ ((replAt (rs.getD kk run0).segs ii (((rs.getD kk run0).segs.getD ii (0, 0, 0)).1, ((rs.getD kk run0).segs.getD ii (0, 0, 0)).2.1 - (y.tmod (((rs.getD kk run0).segs.getD ii (0, 0, 0)).2.1 + 1)), ((rs.getD kk run0).segs.getD ii (0, 0, 0)).2.2 - (y.tmod (((rs.getD kk run0).segs.getD ii (0, 0, 0)).2.1 + 1) + y.tmod (((rs.getD kk run0).segs.getD ii (0, 0, 0)).2.2 - ((rs.getD kk run0).segs.getD ii (0, 0, 0)).2.1 + 1)))).drop ii)).length) (trips ((((replAt (rs.getD kk run0).segs ii (((rs.getD kk run0).segs.getD ii (0, 0, 0)).1, ((rs.getD kk run0).segs.getD ii (0, 0, 0)).2.1 - (y.tmod (((rs.getD kk run0).segs.getD ii (0, 0, 0)).2.1 + 1)), ((rs.getD kk run0).segs.getD ii (0, 0, 0)).2.2 - (y.tmod (((rs.getD kk run0).segs.getD ii (0, 0, 0)).2.1 + 1) + y.tmod (((rs.getD kk run0).segs.getD ii (0, 0, 0)).2.2 - ((rs.getD kk run0).segs.getD ii (0, 0, 0)).2.1 + 1)))).take ii) ++ [(((((rs.getD kk run0).segs).getD ii (0, 0, 0)).1, (y).tmod (((((rs.getD kk run0).segs).getD ii (0, 0, 0)).2.1) + 1), ((y).tmod (((((rs.getD kk run0).segs).getD ii (0, 0, 0)).2.1) + 1)) + ((y).tmod ((((((rs.getD kk run0).segs).getD ii (0, 0, 0)).2.2) - ((((rs.getD kk run0).segs).getD ii (0, 0, 0)).2.1)) + 1))) : Seg)]) ++ ((replAt (rs.getD kk run0).segs ii (((rs.getD kk run0).segs.getD ii (0, 0, 0)).1, ((rs.getD kk run0).segs.getD ii (0, 0, 0)).2.1 - (y.tmod (((rs.getD kk run0).segs.getD ii (0, 0, 0)).2.1 + 1)), ((rs.getD kk run0).segs.getD ii (0, 0, 0)).2.2 - (y.tmod (((rs.getD kk run0).segs.getD ii (0, 0, 0)).2.1 + 1) + y.tmod (((rs.getD kk run0).segs.getD ii (0, 0, 0)).2.2 - ((rs.getD kk run0).segs.getD ii (0, 0, 0)).2.1 + 1)))).drop ii)))), (row (vs190 6) 56 3 1 [(Value.int .i64 ((((rs.getD kk run0).segs).getD ii (0, 0, 0)).1)), (Value.int .i64 (((((rs.getD kk run0).segs).getD ii (0, 0, 0)).2.1) - ((y).tmod (((((rs.getD kk run0).segs).getD ii (0, 0, 0)).2.1) + 1)))), (Value.int .i64 (((((rs.getD kk run0).segs).getD ii (0, 0, 0)).2.2) - (((y).tmod (((((rs.getD kk run0).segs).getD ii (0, 0, 0)).2.1) + 1)) + ((y).tmod ((((((rs.getD kk run0).segs).getD ii (0, 0, 0)).2.2) - ((((rs.getD kk run0).segs).getD ii (0, 0, 0)).2.1)) + 1)))))]), (row v203 56 3 ((replAt (rs.getD kk run0).segs ii (((rs.getD kk run0).segs.getD ii (0, 0, 0)).1, ((rs.getD kk run0).segs.getD ii (0, 0, 0)).2.1 - (y.tmod (((rs.getD kk run0).segs.getD ii (0, 0, 0)).2.1 + 1)), ((rs.getD kk run0).segs.getD ii (0, 0, 0)).2.2 - (y.tmod (((rs.getD kk run0).segs.getD ii (0, 0, 0)).2.1 + 1) + y.tmod (((rs.getD kk run0).segs.getD ii (0, 0, 0)).2.2 - ((rs.getD kk run0).segs.getD ii (0, 0, 0)).2.1 + 1)))).length) (trips (replAt (rs.getD kk run0).segs ii (((rs.getD kk run0).segs.getD ii (0, 0, 0)).1, ((rs.getD kk run0).segs.getD ii (0, 0, 0)).2.1 - (y.tmod (((rs.getD kk run0).segs.getD ii (0, 0, 0)).2.1 + 1)), ((rs.getD kk run0).segs.getD ii (0, 0, 0)).2.2 - (y.tmod (((rs.getD kk run0).segs.getD ii (0, 0, 0)).2.1 + 1) + y.tmod (((rs.getD kk run0).segs.getD ii (0, 0, 0)).2.2 - ((rs.getD kk run0).segs.getD ii (0, 0, 0)).2.1 + 1)))))), (blk b19_ 56 [(Value.int .i64 ((((rs.getD kk run0).segs).getD ii (0, 0, 0)).1)), (Value.int .i64 (((((rs.getD kk run0).segs).getD ii (0, 0, 0)).2.1) - ((y).tmod (((((rs.getD kk run0).segs).getD ii (0, 0, 0)).2.1) + 1)))), (Value.int .i64 (((((rs.getD kk run0).segs).getD ii (0, 0, 0)).2.2) - (((y).tmod (((((rs.getD kk run0).segs).getD ii (0, 0, 0)).2.1) + 1)) + ((y).tmod ((((((rs.getD kk run0).segs).getD ii (0, 0, 0)).2.2) - ((((rs.getD kk run0).segs).getD ii (0, 0, 0)).2.1)) + 1)))))]), (blk b133 48 [(Value.int .i64 ((((rs.getD kk run0).segs).getD ii (0, 0, 0)).2.1)), (Value.int .i64 ((((rs.getD kk run0).segs).getD ii (0, 0, 0)).2.2))]), (blk b93 56 [(Value.int .i64 ((((rs.getD kk run0).segs).getD ii (0, 0, 0)).1)), (Value.int .i64 ((y).tmod (((((rs.getD kk run0).segs).getD ii (0, 0, 0)).2.1) + 1))), (Value.int .i64 (((y).tmod (((((rs.getD kk run0).segs).getD ii (0, 0, 0)).2.1) + 1)) + ((y).tmod ((((((rs.getD kk run0).segs).getD ii (0, 0, 0)).2.2) - ((((rs.getD kk run0).segs).getD ii (0, 0, 0)).2.1)) + 1))))]), (row v44 54 3 rs.length (vtrips (runV lv rs))), (blk b4 24 [vr]), (sl vr 2 R.length (pairs R)), (runsR false vu lv rs), (sl vp 3 plan.length (trips plan))] := by rw [show catR rsf216 0 14 = ([(row (vs210 8) 56 3 1 [(Value.int .i64 ((((rs.getD kk run0).segs).getD ii (0, 0, 0)).1)), (Value.int .i64 ((y).tmod (((((rs.getD kk run0).segs).getD ii (0, 0, 0)).2.1) + 1))), (Value.int .i64 (((y).tmod (((((rs.getD kk run0).segs).getD ii (0, 0, 0)).2.1) + 1)) + ((y).tmod ((((((rs.getD kk run0).segs).getD ii (0, 0, 0)).2.2) - ((((rs.getD kk run0).segs).getD ii (0, 0, 0)).2.1)) + 1))))]), (row (vs210 13) 56 3 (((((replAt (rs.getD kk run0).segs ii (((rs.getD kk run0).segs.getD ii (0, 0, 0)).1, ((rs.getD kk run0).segs.getD ii (0, 0, 0)).2.1 - (y.tmod (((rs.getD kk run0).segs.getD ii (0, 0, 0)).2.1 + 1)), ((rs.getD kk run0).segs.getD ii (0, 0, 0)).2.2 - (y.tmod (((rs.getD kk run0).segs.getD ii (0, 0, 0)).2.1 + 1) + y.tmod (((rs.getD kk run0).segs.getD ii (0, 0, 0)).2.2 - ((rs.getD kk run0).segs.getD ii (0, 0, 0)).2.1 + 1)))).take ii) ++ [(((((rs.getD kk run0).segs).getD ii (0, 0, 0)).1, (y).tmod (((((rs.getD kk run0).segs).getD ii (0, 0, 0)).2.1) + 1), ((y).tmod (((((rs.getD kk run0).segs).getD ii (0, 0, 0)).2.1) + 1)) + ((y).tmod ((((((rs.getD kk run0).segs).getD ii (0, 0, 0)).2.2) - ((((rs.getD kk run0).segs).getD ii (0, 0, 0)).2.1)) + 1))) : Seg)]) ++ ((replAt (rs.getD kk run0).segs ii (((rs.getD kk run0).segs.getD ii (0, 0, 0)).1, ((rs.getD kk run0).segs.getD ii (0, 0, 0)).2.1 - (y.tmod (((rs.getD kk run0).segs.getD ii (0, 0, 0)).2.1 + 1)), ((rs.getD kk run0).segs.getD ii (0, 0, 0)).2.2 - (y.tmod (((rs.getD kk run0).segs.getD ii (0, 0, 0)).2.1 + 1) + y.tmod (((rs.getD kk run0).segs.getD ii (0, 0, 0)).2.2 - ((rs.getD kk run0).segs.getD ii (0, 0, 0)).2.1 + 1)))).drop ii)).length) (trips ((((replAt (rs.getD kk run0).segs ii (((rs.getD kk run0).segs.getD ii (0, 0, 0)).1, ((rs.getD kk run0).segs.getD ii (0, 0, 0)).2.1 - (y.tmod (((rs.getD kk run0).segs.getD ii (0, 0, 0)).2.1 + 1)), ((rs.getD kk run0).segs.getD ii (0, 0, 0)).2.2 - (y.tmod (((rs.getD kk run0).segs.getD ii (0, 0, 0)).2.1 + 1) + y.tmod (((rs.getD kk run0).segs.getD ii (0, 0, 0)).2.2 - ((rs.getD kk run0).segs.getD ii (0, 0, 0)).2.1 + 1)))).take ii) ++ [(((((rs.getD kk run0).segs).getD ii (0, 0, 0)).1, (y).tmod (((((rs.getD kk run0).segs).getD ii (0, 0, 0)).2.1) + 1), ((y).tmod (((((rs.getD kk run0).segs).getD ii (0, 0, 0)).2.1) + 1)) + ((y).tmod ((((((rs.getD kk run0).segs).getD ii (0, 0, 0)).2.2) - ((((rs.getD kk run0).segs).getD ii (0, 0, 0)).2.1)) + 1))) : Seg)]) ++ ((replAt (rs.getD kk run0).segs ii (((rs.getD kk run0).segs.getD ii (0, 0, 0)).1, ((rs.getD kk run0).segs.getD ii (0, 0, 0)).2.1 - (y.tmod (((rs.getD kk run0).segs.getD ii (0, 0, 0)).2.1 + 1)), ((rs.getD kk run0).segs.getD ii (0, 0, 0)).2.2 - (y.tmod (((rs.getD kk run0).segs.getD ii (0, 0, 0)).2.1 + 1) + y.tmod (((rs.getD kk run0).segs.getD ii (0, 0, 0)).2.2 - ((rs.getD kk run0).segs.getD ii (0, 0, 0)).2.1 + 1)))).drop ii))))] : List Res) by (try simp only [catR, hr_0, hr_1, hr_3, hr_4, hr_5, hr_7, hr_8, hr_10, hr_11, hr_12, hr_13, hrq_2, hrq_6, hrq_9]); (try rfl)] at hS214; exact hS214
    rw [hv_0] at hs_0
    have hA218 : Fr 241 [] [(135, v44), (15, v203), (16, (Value.int .i64 (ii : Int))), (17, (bptr b93 0)), (14, (Value.int .i64 (kk : Int))), (13, v44), (6, (bptr b4 0)), (1, vu), (2, vp)] a211 := hA213.add (slot_ev hs_0 rfl); clear hA213
    rw [hv_1] at hs_1
    have hA219 : Fr 241 [] [(136, (Value.int .i64 (kk : Int))), (135, v44), (15, v203), (16, (Value.int .i64 (ii : Int))), (17, (bptr b93 0)), (14, (Value.int .i64 (kk : Int))), (13, v44), (6, (bptr b4 0)), (1, vu), (2, vp)] a211 := hA218.add (slot_ev hs_1 rfl); clear hA218
    have hA220 : Fr 241 [] [(148, (vs210 13)), (136, (Value.int .i64 (kk : Int))), (135, v44), (15, v203), (16, (Value.int .i64 (ii : Int))), (17, (bptr b93 0)), (14, (Value.int .i64 (kk : Int))), (13, v44), (6, (bptr b4 0)), (1, vu), (2, vp)] a211 := hA219.add (slot_ev hs_13 rfl); clear hA219
    clear hH215 hS214 hs_0 hs_1 hs_3 hs_4 hs_5 hs_7 hs_8 hs_10 hs_11 hs_12 hs_13 hrq hrq_2 hrq_6 hrq_9
    clear hr_0
    clear hv_0
    clear hr_1
    clear hv_1
    clear hr_3
    clear hv_3
    clear hr_4
    clear hv_4
    clear hr_5
    clear hv_5
    clear hr_7
    clear hv_7
    clear hr_8
    clear hv_8
    clear hr_10
    clear hv_10
    clear hr_11
    clear hv_11
    clear hr_12
    clear hv_12
    clear hr_13
    clear hv_13
    refine st hA220 (op_indexS rfl un_25 ty_54 (hA220.ev rfl) (i := kk) (hA220.ev rfl) (SlAt.of_row (hS217.ok_row 7 rfl)) (by decide) (by omega)) rfl rfl (by decide) fun a221 hA222 => ?_; clear hA220 a211
    refine st hA222 (op_fieldS rfl fd_54_0 (hA222.ev rfl) (SlAt.of_row (hS217.ok_row 7 rfl)) (by rw [((SlAt.of_row (hS217.ok_row 7 rfl))).1]; omega)) rfl rfl (by decide) fun a223 hA224 => ?_; clear hA222 a221
    refine sts hA224 (op_storeE hS217 rfl ty_51 (hA224.ev rfl) (hA224.ev rfl) (i := 7) rfl (vs := [(vs210 13)]) (isSl_cells (SlAt.isSl (SlAt.of_row (hS217.ok_row 1 rfl)))) rfl (all_c (SlAt.one (SlAt.of_row (hS217.ok_row 1 rfl))) all_n) (by rw [vtrips_length, runV_len hx.len]; first | omega | (simp only [List.length_cons, List.length_nil]; omega)) (by decide)) rfl rfl ?_
    intro _ w225 hS226 hA228; have hS227 := hS226.row_say (i := 7) rfl (n' := (rs.set kk (⟨((((replAt (rs.getD kk run0).segs ii (((rs.getD kk run0).segs.getD ii (0, 0, 0)).1, ((rs.getD kk run0).segs.getD ii (0, 0, 0)).2.1 - (y.tmod (((rs.getD kk run0).segs.getD ii (0, 0, 0)).2.1 + 1)), ((rs.getD kk run0).segs.getD ii (0, 0, 0)).2.2 - (y.tmod (((rs.getD kk run0).segs.getD ii (0, 0, 0)).2.1 + 1) + y.tmod (((rs.getD kk run0).segs.getD ii (0, 0, 0)).2.2 - ((rs.getD kk run0).segs.getD ii (0, 0, 0)).2.1 + 1)))).take ii) ++ [(((((rs.getD kk run0).segs).getD ii (0, 0, 0)).1, (y).tmod (((((rs.getD kk run0).segs).getD ii (0, 0, 0)).2.1) + 1), ((y).tmod (((((rs.getD kk run0).segs).getD ii (0, 0, 0)).2.1) + 1)) + ((y).tmod ((((((rs.getD kk run0).segs).getD ii (0, 0, 0)).2.2) - ((((rs.getD kk run0).segs).getD ii (0, 0, 0)).2.1)) + 1))) : Seg)]) ++ ((replAt (rs.getD kk run0).segs ii (((rs.getD kk run0).segs.getD ii (0, 0, 0)).1, ((rs.getD kk run0).segs.getD ii (0, 0, 0)).2.1 - (y.tmod (((rs.getD kk run0).segs.getD ii (0, 0, 0)).2.1 + 1)), ((rs.getD kk run0).segs.getD ii (0, 0, 0)).2.2 - (y.tmod (((rs.getD kk run0).segs.getD ii (0, 0, 0)).2.1 + 1) + y.tmod (((rs.getD kk run0).segs.getD ii (0, 0, 0)).2.2 - ((rs.getD kk run0).segs.getD ii (0, 0, 0)).2.1 + 1)))).drop ii)), (rs.getD kk run0).lo, (rs.getD kk run0).hi⟩ : RunD)).length) (xs' := (vtrips (runV (lv.set kk (vs210 13)) (rs.set kk (⟨((((replAt (rs.getD kk run0).segs ii (((rs.getD kk run0).segs.getD ii (0, 0, 0)).1, ((rs.getD kk run0).segs.getD ii (0, 0, 0)).2.1 - (y.tmod (((rs.getD kk run0).segs.getD ii (0, 0, 0)).2.1 + 1)), ((rs.getD kk run0).segs.getD ii (0, 0, 0)).2.2 - (y.tmod (((rs.getD kk run0).segs.getD ii (0, 0, 0)).2.1 + 1) + y.tmod (((rs.getD kk run0).segs.getD ii (0, 0, 0)).2.2 - ((rs.getD kk run0).segs.getD ii (0, 0, 0)).2.1 + 1)))).take ii) ++ [(((((rs.getD kk run0).segs).getD ii (0, 0, 0)).1, (y).tmod (((((rs.getD kk run0).segs).getD ii (0, 0, 0)).2.1) + 1), ((y).tmod (((((rs.getD kk run0).segs).getD ii (0, 0, 0)).2.1) + 1)) + ((y).tmod ((((((rs.getD kk run0).segs).getD ii (0, 0, 0)).2.2) - ((((rs.getD kk run0).segs).getD ii (0, 0, 0)).2.1)) + 1))) : Seg)]) ++ ((replAt (rs.getD kk run0).segs ii (((rs.getD kk run0).segs.getD ii (0, 0, 0)).1, ((rs.getD kk run0).segs.getD ii (0, 0, 0)).2.1 - (y.tmod (((rs.getD kk run0).segs.getD ii (0, 0, 0)).2.1 + 1)), ((rs.getD kk run0).segs.getD ii (0, 0, 0)).2.2 - (y.tmod (((rs.getD kk run0).segs.getD ii (0, 0, 0)).2.1 + 1) + y.tmod (((rs.getD kk run0).segs.getD ii (0, 0, 0)).2.2 - ((rs.getD kk run0).segs.getD ii (0, 0, 0)).2.1 + 1)))).drop ii)), (rs.getD kk run0).lo, (rs.getD kk run0).hi⟩ : RunD))))) (by simp only [List.length_set]) (runs_set0 (runs_at (hS217.ok 10 _ rfl)).len (by omega) _ _); clear hS226 hA224 hS217
    refine wl_nil ?_
    refine then_n ?_
    refine c_seq ?_
    refine c_seq ?_
    have hA229 := hA228.as [(13, v44), (6, (bptr b4 0)), (1, vu), (2, vp)] rfl; clear hA228
    have hS230 := hS227.row_say (i := 7) rfl (n' := (rs.set kk (⟨(putAt (replAt (rs.getD kk run0).segs ii (((rs.getD kk run0).segs.getD ii (0, 0, 0)).1, ((rs.getD kk run0).segs.getD ii (0, 0, 0)).2.1 - (y.tmod (((rs.getD kk run0).segs.getD ii (0, 0, 0)).2.1 + 1)), ((rs.getD kk run0).segs.getD ii (0, 0, 0)).2.2 - (y.tmod (((rs.getD kk run0).segs.getD ii (0, 0, 0)).2.1 + 1) + y.tmod (((rs.getD kk run0).segs.getD ii (0, 0, 0)).2.2 - ((rs.getD kk run0).segs.getD ii (0, 0, 0)).2.1 + 1)))) ii (((rs.getD kk run0).segs.getD ii (0, 0, 0)).1, (y.tmod (((rs.getD kk run0).segs.getD ii (0, 0, 0)).2.1 + 1)), (y.tmod (((rs.getD kk run0).segs.getD ii (0, 0, 0)).2.1 + 1) + y.tmod (((rs.getD kk run0).segs.getD ii (0, 0, 0)).2.2 - ((rs.getD kk run0).segs.getD ii (0, 0, 0)).2.1 + 1)))), (rs.getD kk run0).lo, (rs.getD kk run0).hi⟩ : RunD)).length) (xs' := (vtrips (runV (lv.set kk (vs210 13)) (rs.set kk (⟨(putAt (replAt (rs.getD kk run0).segs ii (((rs.getD kk run0).segs.getD ii (0, 0, 0)).1, ((rs.getD kk run0).segs.getD ii (0, 0, 0)).2.1 - (y.tmod (((rs.getD kk run0).segs.getD ii (0, 0, 0)).2.1 + 1)), ((rs.getD kk run0).segs.getD ii (0, 0, 0)).2.2 - (y.tmod (((rs.getD kk run0).segs.getD ii (0, 0, 0)).2.1 + 1) + y.tmod (((rs.getD kk run0).segs.getD ii (0, 0, 0)).2.2 - ((rs.getD kk run0).segs.getD ii (0, 0, 0)).2.1 + 1)))) ii (((rs.getD kk run0).segs.getD ii (0, 0, 0)).1, (y.tmod (((rs.getD kk run0).segs.getD ii (0, 0, 0)).2.1 + 1)), (y.tmod (((rs.getD kk run0).segs.getD ii (0, 0, 0)).2.1 + 1) + y.tmod (((rs.getD kk run0).segs.getD ii (0, 0, 0)).2.2 - ((rs.getD kk run0).segs.getD ii (0, 0, 0)).2.1 + 1)))), (rs.getD kk run0).lo, (rs.getD kk run0).hi⟩ : RunD))))) rfl rfl; clear hS227
    have hS231 := (hS230.row_say (i := 1) rfl (n' := (⟨(putAt (replAt (rs.getD kk run0).segs ii (((rs.getD kk run0).segs.getD ii (0, 0, 0)).1, ((rs.getD kk run0).segs.getD ii (0, 0, 0)).2.1 - (y.tmod (((rs.getD kk run0).segs.getD ii (0, 0, 0)).2.1 + 1)), ((rs.getD kk run0).segs.getD ii (0, 0, 0)).2.2 - (y.tmod (((rs.getD kk run0).segs.getD ii (0, 0, 0)).2.1 + 1) + y.tmod (((rs.getD kk run0).segs.getD ii (0, 0, 0)).2.2 - ((rs.getD kk run0).segs.getD ii (0, 0, 0)).2.1 + 1)))) ii (((rs.getD kk run0).segs.getD ii (0, 0, 0)).1, (y.tmod (((rs.getD kk run0).segs.getD ii (0, 0, 0)).2.1 + 1)), (y.tmod (((rs.getD kk run0).segs.getD ii (0, 0, 0)).2.1 + 1) + y.tmod (((rs.getD kk run0).segs.getD ii (0, 0, 0)).2.2 - ((rs.getD kk run0).segs.getD ii (0, 0, 0)).2.1 + 1)))), (rs.getD kk run0).lo, (rs.getD kk run0).hi⟩ : RunD).segs.length) (xs' := trips (⟨(putAt (replAt (rs.getD kk run0).segs ii (((rs.getD kk run0).segs.getD ii (0, 0, 0)).1, ((rs.getD kk run0).segs.getD ii (0, 0, 0)).2.1 - (y.tmod (((rs.getD kk run0).segs.getD ii (0, 0, 0)).2.1 + 1)), ((rs.getD kk run0).segs.getD ii (0, 0, 0)).2.2 - (y.tmod (((rs.getD kk run0).segs.getD ii (0, 0, 0)).2.1 + 1) + y.tmod (((rs.getD kk run0).segs.getD ii (0, 0, 0)).2.2 - ((rs.getD kk run0).segs.getD ii (0, 0, 0)).2.1 + 1)))) ii (((rs.getD kk run0).segs.getD ii (0, 0, 0)).1, (y.tmod (((rs.getD kk run0).segs.getD ii (0, 0, 0)).2.1 + 1)), (y.tmod (((rs.getD kk run0).segs.getD ii (0, 0, 0)).2.1 + 1) + y.tmod (((rs.getD kk run0).segs.getD ii (0, 0, 0)).2.2 - ((rs.getD kk run0).segs.getD ii (0, 0, 0)).2.1 + 1)))), (rs.getD kk run0).lo, (rs.getD kk run0).hi⟩ : RunD).segs) rfl rfl).row_sl (i := 1) rfl; clear hS230
    have hS232 := hS231.segs_set (x := (⟨(putAt (replAt (rs.getD kk run0).segs ii (((rs.getD kk run0).segs.getD ii (0, 0, 0)).1, ((rs.getD kk run0).segs.getD ii (0, 0, 0)).2.1 - (y.tmod (((rs.getD kk run0).segs.getD ii (0, 0, 0)).2.1 + 1)), ((rs.getD kk run0).segs.getD ii (0, 0, 0)).2.2 - (y.tmod (((rs.getD kk run0).segs.getD ii (0, 0, 0)).2.1 + 1) + y.tmod (((rs.getD kk run0).segs.getD ii (0, 0, 0)).2.2 - ((rs.getD kk run0).segs.getD ii (0, 0, 0)).2.1 + 1)))) ii (((rs.getD kk run0).segs.getD ii (0, 0, 0)).1, (y.tmod (((rs.getD kk run0).segs.getD ii (0, 0, 0)).2.1 + 1)), (y.tmod (((rs.getD kk run0).segs.getD ii (0, 0, 0)).2.1 + 1) + y.tmod (((rs.getD kk run0).segs.getD ii (0, 0, 0)).2.2 - ((rs.getD kk run0).segs.getD ii (0, 0, 0)).2.1 + 1)))), (rs.getD kk run0).lo, (rs.getD kk run0).hi⟩ : RunD)) (i := 10) (j := 1) rfl rfl hb_kk; clear hS231
    have hS233 : Sep NoB w w225 [(row v44 54 3 ((rs.set kk (⟨(putAt (replAt (rs.getD kk run0).segs ii (((rs.getD kk run0).segs.getD ii (0, 0, 0)).1, ((rs.getD kk run0).segs.getD ii (0, 0, 0)).2.1 - (y.tmod (((rs.getD kk run0).segs.getD ii (0, 0, 0)).2.1 + 1)), ((rs.getD kk run0).segs.getD ii (0, 0, 0)).2.2 - (y.tmod (((rs.getD kk run0).segs.getD ii (0, 0, 0)).2.1 + 1) + y.tmod (((rs.getD kk run0).segs.getD ii (0, 0, 0)).2.2 - ((rs.getD kk run0).segs.getD ii (0, 0, 0)).2.1 + 1)))) ii (((rs.getD kk run0).segs.getD ii (0, 0, 0)).1, (y.tmod (((rs.getD kk run0).segs.getD ii (0, 0, 0)).2.1 + 1)), (y.tmod (((rs.getD kk run0).segs.getD ii (0, 0, 0)).2.1 + 1) + y.tmod (((rs.getD kk run0).segs.getD ii (0, 0, 0)).2.2 - ((rs.getD kk run0).segs.getD ii (0, 0, 0)).2.1 + 1)))), (rs.getD kk run0).lo, (rs.getD kk run0).hi⟩ : RunD)).length) (vtrips (runV (lv.set kk (vs210 13)) (rs.set kk (⟨(putAt (replAt (rs.getD kk run0).segs ii (((rs.getD kk run0).segs.getD ii (0, 0, 0)).1, ((rs.getD kk run0).segs.getD ii (0, 0, 0)).2.1 - (y.tmod (((rs.getD kk run0).segs.getD ii (0, 0, 0)).2.1 + 1)), ((rs.getD kk run0).segs.getD ii (0, 0, 0)).2.2 - (y.tmod (((rs.getD kk run0).segs.getD ii (0, 0, 0)).2.1 + 1) + y.tmod (((rs.getD kk run0).segs.getD ii (0, 0, 0)).2.2 - ((rs.getD kk run0).segs.getD ii (0, 0, 0)).2.1 + 1)))) ii (((rs.getD kk run0).segs.getD ii (0, 0, 0)).1, (y.tmod (((rs.getD kk run0).segs.getD ii (0, 0, 0)).2.1 + 1)), (y.tmod (((rs.getD kk run0).segs.getD ii (0, 0, 0)).2.1 + 1) + y.tmod (((rs.getD kk run0).segs.getD ii (0, 0, 0)).2.2 - ((rs.getD kk run0).segs.getD ii (0, 0, 0)).2.1 + 1)))), (rs.getD kk run0).lo, (rs.getD kk run0).hi⟩ : RunD))))), (segsR false (lv.set kk (vs210 13)) (rs.set kk (⟨(putAt (replAt (rs.getD kk run0).segs ii (((rs.getD kk run0).segs.getD ii (0, 0, 0)).1, ((rs.getD kk run0).segs.getD ii (0, 0, 0)).2.1 - (y.tmod (((rs.getD kk run0).segs.getD ii (0, 0, 0)).2.1 + 1)), ((rs.getD kk run0).segs.getD ii (0, 0, 0)).2.2 - (y.tmod (((rs.getD kk run0).segs.getD ii (0, 0, 0)).2.1 + 1) + y.tmod (((rs.getD kk run0).segs.getD ii (0, 0, 0)).2.2 - ((rs.getD kk run0).segs.getD ii (0, 0, 0)).2.1 + 1)))) ii (((rs.getD kk run0).segs.getD ii (0, 0, 0)).1, (y.tmod (((rs.getD kk run0).segs.getD ii (0, 0, 0)).2.1 + 1)), (y.tmod (((rs.getD kk run0).segs.getD ii (0, 0, 0)).2.1 + 1) + y.tmod (((rs.getD kk run0).segs.getD ii (0, 0, 0)).2.2 - ((rs.getD kk run0).segs.getD ii (0, 0, 0)).2.1 + 1)))), (rs.getD kk run0).lo, (rs.getD kk run0).hi⟩ : RunD))), (row (vs210 8) 56 3 1 [(Value.int .i64 ((((rs.getD kk run0).segs).getD ii (0, 0, 0)).1)), (Value.int .i64 ((y).tmod (((((rs.getD kk run0).segs).getD ii (0, 0, 0)).2.1) + 1))), (Value.int .i64 (((y).tmod (((((rs.getD kk run0).segs).getD ii (0, 0, 0)).2.1) + 1)) + ((y).tmod ((((((rs.getD kk run0).segs).getD ii (0, 0, 0)).2.2) - ((((rs.getD kk run0).segs).getD ii (0, 0, 0)).2.1)) + 1))))]), (sl (vs210 13) 3 ((⟨(putAt (replAt (rs.getD kk run0).segs ii (((rs.getD kk run0).segs.getD ii (0, 0, 0)).1, ((rs.getD kk run0).segs.getD ii (0, 0, 0)).2.1 - (y.tmod (((rs.getD kk run0).segs.getD ii (0, 0, 0)).2.1 + 1)), ((rs.getD kk run0).segs.getD ii (0, 0, 0)).2.2 - (y.tmod (((rs.getD kk run0).segs.getD ii (0, 0, 0)).2.1 + 1) + y.tmod (((rs.getD kk run0).segs.getD ii (0, 0, 0)).2.2 - ((rs.getD kk run0).segs.getD ii (0, 0, 0)).2.1 + 1)))) ii (((rs.getD kk run0).segs.getD ii (0, 0, 0)).1, (y.tmod (((rs.getD kk run0).segs.getD ii (0, 0, 0)).2.1 + 1)), (y.tmod (((rs.getD kk run0).segs.getD ii (0, 0, 0)).2.1 + 1) + y.tmod (((rs.getD kk run0).segs.getD ii (0, 0, 0)).2.2 - ((rs.getD kk run0).segs.getD ii (0, 0, 0)).2.1 + 1)))), (rs.getD kk run0).lo, (rs.getD kk run0).hi⟩ : RunD).segs.length) (trips ((⟨(putAt (replAt (rs.getD kk run0).segs ii (((rs.getD kk run0).segs.getD ii (0, 0, 0)).1, ((rs.getD kk run0).segs.getD ii (0, 0, 0)).2.1 - (y.tmod (((rs.getD kk run0).segs.getD ii (0, 0, 0)).2.1 + 1)), ((rs.getD kk run0).segs.getD ii (0, 0, 0)).2.2 - (y.tmod (((rs.getD kk run0).segs.getD ii (0, 0, 0)).2.1 + 1) + y.tmod (((rs.getD kk run0).segs.getD ii (0, 0, 0)).2.2 - ((rs.getD kk run0).segs.getD ii (0, 0, 0)).2.1 + 1)))) ii (((rs.getD kk run0).segs.getD ii (0, 0, 0)).1, (y.tmod (((rs.getD kk run0).segs.getD ii (0, 0, 0)).2.1 + 1)), (y.tmod (((rs.getD kk run0).segs.getD ii (0, 0, 0)).2.1 + 1) + y.tmod (((rs.getD kk run0).segs.getD ii (0, 0, 0)).2.2 - ((rs.getD kk run0).segs.getD ii (0, 0, 0)).2.1 + 1)))), (rs.getD kk run0).lo, (rs.getD kk run0).hi⟩ : RunD).segs))), (row (vs190 6) 56 3 1 [(Value.int .i64 ((((rs.getD kk run0).segs).getD ii (0, 0, 0)).1)), (Value.int .i64 (((((rs.getD kk run0).segs).getD ii (0, 0, 0)).2.1) - ((y).tmod (((((rs.getD kk run0).segs).getD ii (0, 0, 0)).2.1) + 1)))), (Value.int .i64 (((((rs.getD kk run0).segs).getD ii (0, 0, 0)).2.2) - (((y).tmod (((((rs.getD kk run0).segs).getD ii (0, 0, 0)).2.1) + 1)) + ((y).tmod ((((((rs.getD kk run0).segs).getD ii (0, 0, 0)).2.2) - ((((rs.getD kk run0).segs).getD ii (0, 0, 0)).2.1)) + 1)))))]), (row v203 56 3 ((replAt (rs.getD kk run0).segs ii (((rs.getD kk run0).segs.getD ii (0, 0, 0)).1, ((rs.getD kk run0).segs.getD ii (0, 0, 0)).2.1 - (y.tmod (((rs.getD kk run0).segs.getD ii (0, 0, 0)).2.1 + 1)), ((rs.getD kk run0).segs.getD ii (0, 0, 0)).2.2 - (y.tmod (((rs.getD kk run0).segs.getD ii (0, 0, 0)).2.1 + 1) + y.tmod (((rs.getD kk run0).segs.getD ii (0, 0, 0)).2.2 - ((rs.getD kk run0).segs.getD ii (0, 0, 0)).2.1 + 1)))).length) (trips (replAt (rs.getD kk run0).segs ii (((rs.getD kk run0).segs.getD ii (0, 0, 0)).1, ((rs.getD kk run0).segs.getD ii (0, 0, 0)).2.1 - (y.tmod (((rs.getD kk run0).segs.getD ii (0, 0, 0)).2.1 + 1)), ((rs.getD kk run0).segs.getD ii (0, 0, 0)).2.2 - (y.tmod (((rs.getD kk run0).segs.getD ii (0, 0, 0)).2.1 + 1) + y.tmod (((rs.getD kk run0).segs.getD ii (0, 0, 0)).2.2 - ((rs.getD kk run0).segs.getD ii (0, 0, 0)).2.1 + 1)))))), (blk b19_ 56 [(Value.int .i64 ((((rs.getD kk run0).segs).getD ii (0, 0, 0)).1)), (Value.int .i64 (((((rs.getD kk run0).segs).getD ii (0, 0, 0)).2.1) - ((y).tmod (((((rs.getD kk run0).segs).getD ii (0, 0, 0)).2.1) + 1)))), (Value.int .i64 (((((rs.getD kk run0).segs).getD ii (0, 0, 0)).2.2) - (((y).tmod (((((rs.getD kk run0).segs).getD ii (0, 0, 0)).2.1) + 1)) + ((y).tmod ((((((rs.getD kk run0).segs).getD ii (0, 0, 0)).2.2) - ((((rs.getD kk run0).segs).getD ii (0, 0, 0)).2.1)) + 1)))))]), (blk b133 48 [(Value.int .i64 ((((rs.getD kk run0).segs).getD ii (0, 0, 0)).2.1)), (Value.int .i64 ((((rs.getD kk run0).segs).getD ii (0, 0, 0)).2.2))]), (blk b93 56 [(Value.int .i64 ((((rs.getD kk run0).segs).getD ii (0, 0, 0)).1)), (Value.int .i64 ((y).tmod (((((rs.getD kk run0).segs).getD ii (0, 0, 0)).2.1) + 1))), (Value.int .i64 (((y).tmod (((((rs.getD kk run0).segs).getD ii (0, 0, 0)).2.1) + 1)) + ((y).tmod ((((((rs.getD kk run0).segs).getD ii (0, 0, 0)).2.2) - ((((rs.getD kk run0).segs).getD ii (0, 0, 0)).2.1)) + 1))))]), (blk b4 24 [vr]), (sl vr 2 R.length (pairs R)), (runsR false vu lv rs), (sl vp 3 plan.length (trips plan))] := hS232.keep [8, 0, 1, 2, 3, 4, 5, 6, 7, 9, 10, 11, 12] (by decide) _ rfl rfl; clear hS232
    have hS234 := hS233.runs_ro rfl; clear hS233
    have hS235 : Sep NoB w w225 [(runsR false v44 (lv.set kk (vs210 13)) (rs.set kk (⟨(putAt (replAt (rs.getD kk run0).segs ii (((rs.getD kk run0).segs.getD ii (0, 0, 0)).1, ((rs.getD kk run0).segs.getD ii (0, 0, 0)).2.1 - (y.tmod (((rs.getD kk run0).segs.getD ii (0, 0, 0)).2.1 + 1)), ((rs.getD kk run0).segs.getD ii (0, 0, 0)).2.2 - (y.tmod (((rs.getD kk run0).segs.getD ii (0, 0, 0)).2.1 + 1) + y.tmod (((rs.getD kk run0).segs.getD ii (0, 0, 0)).2.2 - ((rs.getD kk run0).segs.getD ii (0, 0, 0)).2.1 + 1)))) ii (((rs.getD kk run0).segs.getD ii (0, 0, 0)).1, (y.tmod (((rs.getD kk run0).segs.getD ii (0, 0, 0)).2.1 + 1)), (y.tmod (((rs.getD kk run0).segs.getD ii (0, 0, 0)).2.1 + 1) + y.tmod (((rs.getD kk run0).segs.getD ii (0, 0, 0)).2.2 - ((rs.getD kk run0).segs.getD ii (0, 0, 0)).2.1 + 1)))), (rs.getD kk run0).lo, (rs.getD kk run0).hi⟩ : RunD))), (blk b4 24 [vr]), (sl vr 2 R.length (pairs R)), (runsR false vu lv rs), (sl vp 3 plan.length (trips plan))] := hS234.keep [0, 8, 9, 10, 11] (by decide) _ rfl rfl; clear hS234
    have hsame : ∀ r, allowB (rs.set kk (⟨(putAt (replAt (rs.getD kk run0).segs ii (((rs.getD kk run0).segs.getD ii (0, 0, 0)).1, ((rs.getD kk run0).segs.getD ii (0, 0, 0)).2.1 - (y.tmod (((rs.getD kk run0).segs.getD ii (0, 0, 0)).2.1 + 1)), ((rs.getD kk run0).segs.getD ii (0, 0, 0)).2.2 - (y.tmod (((rs.getD kk run0).segs.getD ii (0, 0, 0)).2.1 + 1) + y.tmod (((rs.getD kk run0).segs.getD ii (0, 0, 0)).2.2 - ((rs.getD kk run0).segs.getD ii (0, 0, 0)).2.1 + 1)))) ii (((rs.getD kk run0).segs.getD ii (0, 0, 0)).1, (y.tmod (((rs.getD kk run0).segs.getD ii (0, 0, 0)).2.1 + 1)), (y.tmod (((rs.getD kk run0).segs.getD ii (0, 0, 0)).2.1 + 1) + y.tmod (((rs.getD kk run0).segs.getD ii (0, 0, 0)).2.2 - ((rs.getD kk run0).segs.getD ii (0, 0, 0)).2.1 + 1)))), (rs.getD kk run0).lo, (rs.getD kk run0).hi⟩ : RunD)) r = allowB rs r := set_same_allow hb_kk rfl rfl (fun r => st_cut hb_ii r (y.tmod (((rs.getD kk run0).segs.getD ii (0, 0, 0)).2.1 + 1)) (y.tmod (((rs.getD kk run0).segs.getD ii (0, 0, 0)).2.1 + 1) + y.tmod (((rs.getD kk run0).segs.getD ii (0, 0, 0)).2.2 - ((rs.getD kk run0).segs.getD ii (0, 0, 0)).2.1 + 1)))
    have hl2 : (rs.set kk (⟨(putAt (replAt (rs.getD kk run0).segs ii (((rs.getD kk run0).segs.getD ii (0, 0, 0)).1, ((rs.getD kk run0).segs.getD ii (0, 0, 0)).2.1 - (y.tmod (((rs.getD kk run0).segs.getD ii (0, 0, 0)).2.1 + 1)), ((rs.getD kk run0).segs.getD ii (0, 0, 0)).2.2 - (y.tmod (((rs.getD kk run0).segs.getD ii (0, 0, 0)).2.1 + 1) + y.tmod (((rs.getD kk run0).segs.getD ii (0, 0, 0)).2.2 - ((rs.getD kk run0).segs.getD ii (0, 0, 0)).2.1 + 1)))) ii (((rs.getD kk run0).segs.getD ii (0, 0, 0)).1, (y.tmod (((rs.getD kk run0).segs.getD ii (0, 0, 0)).2.1 + 1)), (y.tmod (((rs.getD kk run0).segs.getD ii (0, 0, 0)).2.1 + 1) + y.tmod (((rs.getD kk run0).segs.getD ii (0, 0, 0)).2.2 - ((rs.getD kk run0).segs.getD ii (0, 0, 0)).2.1 + 1)))), (rs.getD kk run0).lo, (rs.getD kk run0).hi⟩ : RunD)).length = rs.length := by simp only [List.length_set]
    generalize hg_ : rs.set kk (⟨(putAt (replAt (rs.getD kk run0).segs ii (((rs.getD kk run0).segs.getD ii (0, 0, 0)).1, ((rs.getD kk run0).segs.getD ii (0, 0, 0)).2.1 - (y.tmod (((rs.getD kk run0).segs.getD ii (0, 0, 0)).2.1 + 1)), ((rs.getD kk run0).segs.getD ii (0, 0, 0)).2.2 - (y.tmod (((rs.getD kk run0).segs.getD ii (0, 0, 0)).2.1 + 1) + y.tmod (((rs.getD kk run0).segs.getD ii (0, 0, 0)).2.2 - ((rs.getD kk run0).segs.getD ii (0, 0, 0)).2.1 + 1)))) ii (((rs.getD kk run0).segs.getD ii (0, 0, 0)).1, (y.tmod (((rs.getD kk run0).segs.getD ii (0, 0, 0)).2.1 + 1)), (y.tmod (((rs.getD kk run0).segs.getD ii (0, 0, 0)).2.1 + 1) + y.tmod (((rs.getD kk run0).segs.getD ii (0, 0, 0)).2.2 - ((rs.getD kk run0).segs.getD ii (0, 0, 0)).2.1 + 1)))), (rs.getD kk run0).lo, (rs.getD kk run0).hi⟩ : RunD) = rs2 at hS235 hsame hl2; clear hg_
    have hA236 := hA229.as [(13, v44), (6, (bptr b4 0)), (1, vu), (2, vp)] rfl; clear hA229
    refine c_region ?_
    refine st hA236 (op_loadA rfl ty_24 (hA236.ev rfl) (hS235.bk 1 rfl) (l := [vr]) rfl rfl) rfl rfl (by decide) fun a237 hA238 => ?_; clear hA236 a223
    refine st hA238 (op_move rfl (hA238.ev rfl)) rfl rfl (by decide) fun a239 hA240 => ?_; clear hA238 a237
    refine st hA240 (op_move rfl (hA240.ev rfl)) rfl rfl (by decide) fun a241 hA242 => ?_; clear hA240 a239
    refine stw hA242 (op_call rfl en_27 (ev3 (hA242.ev rfl) (hA242.ev rfl) (hA242.ev rfl)) (ready_ok _ R _ (hS235.sk 2 rfl) rs2 _ _ (runs_at (hS235.ok 0 _ rfl)) plan _ (hS235.sk 4 rfl))) rfl rfl (by decide) ?_
    rintro a243 _ w245 ⟨rfl, hE246⟩ hA244; have hS247 := hS235.step hE246; clear hE246 hA242 hS235 a241
    refine st hA244 (op_not rfl (hA244.ev rfl)) rfl rfl (by decide) fun a248 hA249 => ?_; clear hA244 a243
    refine wl_nil ?_
    refine then_n ?_
    rcases Bool.eq_false_or_eq_true ((readyB R rs2 plan)) with hb250 | hb250
    ·skip
     rw [hb250] at hA249
     have hrd2 := ready_is (R := R) (rs := rs2) (plan := plan) (by assumption); have hth2 := hrd2.1; have he2 := hrd2.2.1; have h9x := hth2.runs; have halw : allowedF R rs2 = allowedF R rs := allowed_same hsame; have hps : possF R rs2 = possF R rs := poss_same halw he he2; have hrte : ratesF R rs2 = ratesF R rs := by unfold ratesF; rw [halw]
     have hls : leastR R rs2 plan = leastR R rs plan := by unfold leastR; rw [halw]
     have hms : mostR R rs2 plan = mostR R rs plan := by unfold mostR; rw [halw]
     have hpl2 : planF R rs2 plan = planF R rs plan := by unfold planF; rw [hps]
     have hrt2 := ratesF_len R rs2; have hale : (allowedF R rs2).length = (allowedF R rs).length := by rw [halw]
     refine c_false hA249 rfl ?_
     refine c_skip ?_
     refine then_n ?_
     refine c_seq ?_
     refine c_region ?_
     refine st hA249 (op_loadA rfl ty_24 (hA249.ev rfl) (hS247.bk 1 rfl) (l := [vr]) rfl rfl) rfl rfl (by decide) fun a251 hA252 => ?_; clear hA249 a248
     refine stw hA252 (op_call rfl en_19 (ev1 (hA252.ev rfl)) (Material_ok _ R _ (hS247.sk 2 rfl) hth.mat)) rfl rfl (by decide) ?_
     rintro a253 _ w255 ⟨u258, rfl, hT256⟩ hA254; have hS257 := hS247.callS hT256 rfl; clear hT256 hA252 hS247 a251
     refine st hA254 (op_move rfl (hA254.ev rfl)) rfl rfl (by decide) fun a259 hA260 => ?_; clear hA254 a253
     refine stw hA260 (op_call rfl en_20 (ev1 (hA260.ev rfl)) (Runs_ok _ rs _ _ (runs_at (hS257.ok 4 _ rfl)) h9 hth.segs)) rfl rfl (by decide) ?_
     rintro a261 v266 w263 ⟨lv267, hT264⟩ hA262; have hS265 := hS257.callS hT264 rfl; clear hT264 hA260 hS257 a259
     refine stw hA262 (op_call rfl en_18 (ev2 (hA262.ev rfl) (hA262.ev rfl)) (rates_bad R rs lv267 u258 v266 _ (SlAt.of_row (hS265.ok_row 1 rfl)) (runs_at (hS265.ok 0 _ rfl)) (by omega) (by omega) (by omega))) rfl rfl (by decide) ?_
     rintro a268 _ w270 ⟨rfl, hE271⟩ hA269; have hS272 := hS265.step hE271; clear hE271 hA262 hS265 a261
     refine st hA269 (op_move rfl (hA269.ev rfl)) rfl rfl (by decide) fun a273 hA274 => ?_; clear hA269 a268
     refine st hA274 (op_extract rfl (hA274.ev rfl) rfl) rfl rfl (by decide) fun a275 hA276 => ?_; clear hA274 a273
     refine st hA276 (op_extract rfl (hA276.ev rfl) rfl) rfl rfl (by decide) fun a277 hA278 => ?_; clear hA276 a275
     refine st hA278 (op_extract rfl (hA278.ev rfl) rfl) rfl rfl (by decide) fun a279 hA280 => ?_; clear hA278 a277
     refine st hA280 (op_assign rfl (hA280.ev rfl)) rfl rfl (by decide) fun a281 hA282 => ?_; clear hA280 a279
     refine st hA282 (op_assign rfl (hA282.ev rfl)) rfl rfl (by decide) fun a283 hA284 => ?_; clear hA282 a281
     refine st hA284 (op_assign rfl (hA284.ev rfl)) rfl rfl (by decide) fun a285 hA286 => ?_; clear hA284 a283
     refine wl_nil ?_
     refine then_n ?_
     refine c_seq ?_
     have hA287 := hA286.as [(22, (Value.int .i64 (possF R rs))), (21, (Value.int .i64 0)), (20, (Value.slice none 0 0)), (13, v44), (6, (bptr b4 0)), (1, vu), (2, vp)] rfl; clear hA286
     refine c_region ?_
     refine st hA287 (op_loadA rfl ty_24 (hA287.ev rfl) (hS272.bk 3 rfl) (l := [vr]) rfl rfl) rfl rfl (by decide) fun a288 hA289 => ?_; clear hA287 a285
     refine stw hA289 (op_call rfl en_19 (ev1 (hA289.ev rfl)) (Material_ok _ R _ (hS272.sk 4 rfl) hth.mat)) rfl rfl (by decide) ?_
     rintro a290 _ w292 ⟨u295, rfl, hT293⟩ hA291; have hS294 := hS272.callS hT293 rfl; clear hT293 hA289 hS272 a288
     refine st hA291 (op_move rfl (hA291.ev rfl)) rfl rfl (by decide) fun a296 hA297 => ?_; clear hA291 a290
     refine stw hA297 (op_call rfl en_20 (ev1 (hA297.ev rfl)) (Runs_ok _ rs2 _ _ (runs_at (hS294.ok 3 _ rfl)) h9x hth2.segs)) rfl rfl (by decide) ?_
     rintro a298 v303 w300 ⟨lv304, hT301⟩ hA299; have hS302 := hS294.callS hT301 rfl; clear hT301 hA297 hS294 a296
     refine stw hA299 (op_call rfl en_18 (ev2 (hA299.ev rfl) (hA299.ev rfl)) (rates_bad R rs2 lv304 u295 v303 _ (SlAt.of_row (hS302.ok_row 1 rfl)) (runs_at (hS302.ok 0 _ rfl)) (by omega) (by omega) (by omega))) rfl rfl (by decide) ?_
     rintro a305 _ w307 ⟨rfl, hE308⟩ hA306; have hS309 := hS302.step hE308; clear hE308 hA299 hS302 a298
     refine st hA306 (op_move rfl (hA306.ev rfl)) rfl rfl (by decide) fun a310 hA311 => ?_; clear hA306 a305
     refine st hA311 (op_extract rfl (hA311.ev rfl) rfl) rfl rfl (by decide) fun a312 hA313 => ?_; clear hA311 a310
     refine st hA313 (op_extract rfl (hA313.ev rfl) rfl) rfl rfl (by decide) fun a314 hA315 => ?_; clear hA313 a312
     refine st hA315 (op_extract rfl (hA315.ev rfl) rfl) rfl rfl (by decide) fun a316 hA317 => ?_; clear hA315 a314
     refine st hA317 (op_assign rfl (hA317.ev rfl)) rfl rfl (by decide) fun a318 hA319 => ?_; clear hA317 a316
     refine st hA319 (op_assign rfl (hA319.ev rfl)) rfl rfl (by decide) fun a320 hA321 => ?_; clear hA319 a318
     refine st hA321 (op_assign rfl (hA321.ev rfl)) rfl rfl (by decide) fun a322 hA323 => ?_; clear hA321 a320
     refine wl_nil ?_
     refine then_n ?_
     refine c_seq ?_
     have hA324 := hA323.as [(25, (Value.int .i64 (possF R rs2))), (24, (Value.int .i64 0)), (23, (Value.slice none 0 0)), (22, (Value.int .i64 (possF R rs))), (21, (Value.int .i64 0)), (20, (Value.slice none 0 0)), (13, v44), (6, (bptr b4 0)), (1, vu), (2, vp)] rfl; clear hA323
     refine c_region ?_
     refine st hA324 (op_loadA rfl ty_24 (hA324.ev rfl) (hS309.bk 5 rfl) (l := [vr]) rfl rfl) rfl rfl (by decide) fun a325 hA326 => ?_; clear hA324 a322
     refine stw hA326 (op_call rfl en_19 (ev1 (hA326.ev rfl)) (Material_ok _ R _ (hS309.sk 6 rfl) hth.mat)) rfl rfl (by decide) ?_
     rintro a327 _ w329 ⟨u332, rfl, hT330⟩ hA328; have hS331 := hS309.callS hT330 rfl; clear hT330 hA326 hS309 a325
     refine st hA328 (op_move rfl (hA328.ev rfl)) rfl rfl (by decide) fun a333 hA334 => ?_; clear hA328 a327
     refine stw hA334 (op_call rfl en_20 (ev1 (hA334.ev rfl)) (Runs_ok _ rs _ _ (runs_at (hS331.ok 8 _ rfl)) h9 hth.segs)) rfl rfl (by decide) ?_
     rintro a335 v340 w337 ⟨lv341, hT338⟩ hA336; have hS339 := hS331.callS hT338 rfl; clear hT338 hA334 hS331 a333
     refine st hA336 (op_move rfl (hA336.ev rfl)) rfl rfl (by decide) fun a342 hA343 => ?_; clear hA336 a335
     refine stw hA343 (op_call rfl en_29 (ev1 (hA343.ev rfl)) (Plan_ok _ plan _ (hS339.sk 10 rfl) (by omega))) rfl rfl (by decide) ?_
     rintro a344 v350 w346 ⟨hE347, hO348⟩ hA345; have hS349 := hS339.new_row hE347 hO348; clear hE347 hO348 hA343 hS339 a342
     refine stw hA345 (op_call rfl en_28 (ev3 (hA345.ev rfl) (hA345.ev rfl) (hA345.ev rfl)) (stretch_bad R rs lv341 u332 v340 _ (SlAt.of_row (hS349.ok_row 2 rfl)) (runs_at (hS349.ok 1 _ rfl)) (by omega) (by omega) plan v350 (SlAt.of_row (hS349.ok_row 0 rfl)) (by omega) (by omega))) rfl rfl (by decide) ?_
     rintro a351 _ w353 ⟨rfl, hE354⟩ hA352; have hS355 := hS349.step hE354; clear hE354 hA345 hS349 a344
     refine st hA352 (op_move rfl (hA352.ev rfl)) rfl rfl (by decide) fun a356 hA357 => ?_; clear hA352 a351
     refine st hA357 (op_extract rfl (hA357.ev rfl) rfl) rfl rfl (by decide) fun a358 hA359 => ?_; clear hA357 a356
     refine st hA359 (op_extract rfl (hA359.ev rfl) rfl) rfl rfl (by decide) fun a360 hA361 => ?_; clear hA359 a358
     refine stw hA361 (op_alloc hS355 rfl ze_42 (cs := [(Value.int .i64 0), (Value.int .i64 0)]) rfl) rfl rfl (by decide) ?_
     rintro a362 _ w364 ⟨b365, rfl, hS366⟩ hA363; clear hA361 hS355 a360
     refine sts hA363 (op_store hS366 rfl ty_42 (hA363.ev rfl) (hA363.ev rfl) (i := 0) rfl (vs := [(Value.int .i64 0), (Value.int .i64 0)]) rfl rfl rfl (Nat.le_of_ble_eq_true rfl)) rfl rfl ?_
     intro _ w367 hS368 hA369; clear hA363
     have hS370 : Sep NoB w w367 [(blk b365 42 [(Value.int .i64 0), (Value.int .i64 0)]), (row v350 67 3 plan.length (trips plan)), (runsR true v340 lv341 rs), (row u332 42 2 R.length (pairs R)), (runsR true v303 lv304 rs2), (row u295 42 2 R.length (pairs R)), (runsR true v266 lv267 rs), (row u258 42 2 R.length (pairs R)), (runsR false v44 (lv.set kk (vs210 13)) rs2), (blk b4 24 [vr]), (sl vr 2 R.length (pairs R)), (runsR false vu lv rs), (sl vp 3 plan.length (trips plan))] := hS368; clear hS368 hS366
     refine st hA369 (op_assign rfl (hA369.ev rfl)) rfl rfl (by decide) fun a371 hA372 => ?_; clear hA369 a362
     refine wl_nil ?_
     refine then_n ?_
     refine c_seq ?_
     have hA373 := hA372.as [(27, (Value.int .i64 (planF R rs plan))), (26, (bptr b365 0)), (25, (Value.int .i64 (possF R rs2))), (24, (Value.int .i64 0)), (23, (Value.slice none 0 0)), (22, (Value.int .i64 (possF R rs))), (21, (Value.int .i64 0)), (20, (Value.slice none 0 0)), (13, v44), (6, (bptr b4 0)), (2, vp)] rfl; clear hA372
     refine c_region ?_
     refine st hA373 (op_loadA rfl ty_24 (hA373.ev rfl) (hS370.bk 9 rfl) (l := [vr]) rfl rfl) rfl rfl (by decide) fun a374 hA375 => ?_; clear hA373 a371
     refine stw hA375 (op_call rfl en_19 (ev1 (hA375.ev rfl)) (Material_ok _ R _ (hS370.sk 10 rfl) hth.mat)) rfl rfl (by decide) ?_
     rintro a376 _ w378 ⟨u381, rfl, hT379⟩ hA377; have hS380 := hS370.callS hT379 rfl; clear hT379 hA375 hS370 a374
     refine st hA377 (op_move rfl (hA377.ev rfl)) rfl rfl (by decide) fun a382 hA383 => ?_; clear hA377 a376
     refine stw hA383 (op_call rfl en_20 (ev1 (hA383.ev rfl)) (Runs_ok _ rs2 _ _ (runs_at (hS380.ok 9 _ rfl)) h9x hth2.segs)) rfl rfl (by decide) ?_
     rintro a384 v389 w386 ⟨lv390, hT387⟩ hA385; have hS388 := hS380.callS hT387 rfl; clear hT387 hA383 hS380 a382
     refine st hA385 (op_move rfl (hA385.ev rfl)) rfl rfl (by decide) fun a391 hA392 => ?_; clear hA385 a384
     refine stw hA392 (op_call rfl en_29 (ev1 (hA392.ev rfl)) (Plan_ok _ plan _ (hS388.sk 14 rfl) (by omega))) rfl rfl (by decide) ?_
     rintro a393 v399 w395 ⟨hE396, hO397⟩ hA394; have hS398 := hS388.new_row hE396 hO397; clear hE396 hO397 hA392 hS388 a391
     refine stw hA394 (op_call rfl en_28 (ev3 (hA394.ev rfl) (hA394.ev rfl) (hA394.ev rfl)) (stretch_bad R rs2 lv390 u381 v389 _ (SlAt.of_row (hS398.ok_row 2 rfl)) (runs_at (hS398.ok 1 _ rfl)) (by omega) (by omega) plan v399 (SlAt.of_row (hS398.ok_row 0 rfl)) (by omega) (by omega))) rfl rfl (by decide) ?_
     rintro a400 _ w402 ⟨rfl, hE403⟩ hA401; have hS404 := hS398.step hE403; clear hE403 hA394 hS398 a393
     refine st hA401 (op_move rfl (hA401.ev rfl)) rfl rfl (by decide) fun a405 hA406 => ?_; clear hA401 a400
     refine st hA406 (op_extract rfl (hA406.ev rfl) rfl) rfl rfl (by decide) fun a407 hA408 => ?_; clear hA406 a405
     refine st hA408 (op_extract rfl (hA408.ev rfl) rfl) rfl rfl (by decide) fun a409 hA410 => ?_; clear hA408 a407
     refine stw hA410 (op_alloc hS404 rfl ze_42 (cs := [(Value.int .i64 0), (Value.int .i64 0)]) rfl) rfl rfl (by decide) ?_
     rintro a411 _ w413 ⟨b414, rfl, hS415⟩ hA412; clear hA410 hS404 a409
     refine sts hA412 (op_store hS415 rfl ty_42 (hA412.ev rfl) (hA412.ev rfl) (i := 0) rfl (vs := [(Value.int .i64 0), (Value.int .i64 0)]) rfl rfl rfl (Nat.le_of_ble_eq_true rfl)) rfl rfl ?_
     intro _ w416 hS417 hA418; clear hA412
     have hS419 : Sep NoB w w416 [(blk b414 42 [(Value.int .i64 0), (Value.int .i64 0)]), (row v399 67 3 plan.length (trips plan)), (runsR true v389 lv390 rs2), (row u381 42 2 R.length (pairs R)), (blk b365 42 [(Value.int .i64 0), (Value.int .i64 0)]), (row v350 67 3 plan.length (trips plan)), (runsR true v340 lv341 rs), (row u332 42 2 R.length (pairs R)), (runsR true v303 lv304 rs2), (row u295 42 2 R.length (pairs R)), (runsR true v266 lv267 rs), (row u258 42 2 R.length (pairs R)), (runsR false v44 (lv.set kk (vs210 13)) rs2), (blk b4 24 [vr]), (sl vr 2 R.length (pairs R)), (runsR false vu lv rs), (sl vp 3 plan.length (trips plan))] := hS417; clear hS417 hS415
     refine st hA418 (op_assign rfl (hA418.ev rfl)) rfl rfl (by decide) fun a420 hA421 => ?_; clear hA418 a411
     refine wl_nil ?_
     refine then_n ?_
     refine c_seq ?_
     refine c_seq ?_
     have hA422 := hA421.as [(29, (Value.int .i64 (planF R rs2 plan))), (28, (bptr b414 0)), (27, (Value.int .i64 (planF R rs plan))), (26, (bptr b365 0)), (25, (Value.int .i64 (possF R rs2))), (24, (Value.int .i64 0)), (23, (Value.slice none 0 0)), (22, (Value.int .i64 (possF R rs))), (21, (Value.int .i64 0)), (20, (Value.slice none 0 0))] rfl; clear hA421
     refine c_region ?_
     refine st hA422 (op_move rfl (hA422.ev rfl)) rfl rfl (by decide) fun a423 hA424 => ?_; clear hA422 a420
     refine st hA424 (op_move rfl (hA424.ev rfl)) rfl rfl (by decide) fun a425 hA426 => ?_; clear hA424 a423
     refine st hA426 (op_neq rfl (hA426.ev rfl) (hA426.ev rfl)) rfl rfl (by decide) fun a427 hA428 => ?_; clear hA426 a425
     have hd429 : (possF R rs) = (possF R rs2) := (by omega)
     rw [decide_eq_true hd429] at hA428
     refine st hA428 (op_move rfl (hA428.ev rfl)) rfl rfl (by decide) fun a430 hA431 => ?_; clear hA428 a427
     refine stg hA431 (op_move rfl (hA431.ev rfl)) rfl rfl rfl rfl (by decide) fun a432 hA433 => ?_; clear hA431 a430
     refine stg hA433 (op_move rfl (hA433.ev rfl)) rfl rfl rfl rfl (by decide) fun a434 hA435 => ?_; clear hA433 a432
     refine stg hA435 (op_neq rfl (hA435.ev rfl) (hA435.ev rfl)) rfl rfl rfl rfl (by decide) fun a436 hA437 => ?_; clear hA435 a434
     have hd438 : (planF R rs plan) = (planF R rs2 plan) := (by omega)
     rw [decide_eq_true hd438] at hA437
     refine st hA437 (op_pick_f rfl (hA437.ev rfl) (hA437.ev rfl)) rfl rfl (by decide) fun a439 hA440 => ?_; clear hA437 a436
     refine st hA440 (op_move rfl (hA440.ev rfl)) rfl rfl (by decide) fun a441 hA442 => ?_; clear hA440 a439
     refine stg hA442 (op_move rfl (hA442.ev rfl)) rfl rfl rfl rfl (by decide) fun a443 hA444 => ?_; clear hA442 a441
     refine stg hA444 (op_move rfl (hA444.ev rfl)) rfl rfl rfl rfl (by decide) fun a445 hA446 => ?_; clear hA444 a443
     refine stg hA446 (op_neq rfl (hA446.ev rfl) (hA446.ev rfl)) rfl rfl rfl rfl (by decide) fun a447 hA448 => ?_; clear hA446 a445
     have hd449 : (possF R rs) = (planF R rs plan) := (by omega)
     rw [decide_eq_true hd449] at hA448
     refine st hA448 (op_pick_f rfl (hA448.ev rfl) (hA448.ev rfl)) rfl rfl (by decide) fun a450 hA451 => ?_; clear hA448 a447
     refine st hA451 (op_move rfl (hA451.ev rfl)) rfl rfl (by decide) fun a452 hA453 => ?_; clear hA451 a450
     refine stg hA453 (op_move rfl (hA453.ev rfl)) rfl rfl rfl rfl (by decide) fun a454 hA455 => ?_; clear hA453 a452
     refine stg hA455 (op_move rfl (hA455.ev rfl)) rfl rfl rfl rfl (by decide) fun a456 hA457 => ?_; clear hA455 a454
     refine stg hA457 (op_neq rfl (hA457.ev rfl) (hA457.ev rfl)) rfl rfl rfl rfl (by decide) fun a458 hA459 => ?_; clear hA457 a456
     refine st hA459 (op_pick_f rfl (hA459.ev rfl) (hA459.ev rfl)) rfl rfl (by decide) fun a460 hA461 => ?_; clear hA459 a458
     refine st hA461 (op_move rfl (hA461.ev rfl)) rfl rfl (by decide) fun a462 hA463 => ?_; clear hA461 a460
     refine stg hA463 (op_loadA rfl ty_42 (hA463.ev rfl) (hS419.bk 4 rfl) (l := [(Value.int .i64 0), (Value.int .i64 0)]) rfl rfl) rfl rfl rfl rfl (by decide) fun a464 hA465 => ?_; clear hA463 a462
     refine stg hA465 (op_loadA rfl ty_42 (hA465.ev rfl) (hS419.bk 0 rfl) (l := [(Value.int .i64 0), (Value.int .i64 0)]) rfl rfl) rfl rfl rfl rfl (by decide) fun a466 hA467 => ?_; clear hA465 a464
     refine stg hA467 (op_neqP tw_42 rfl (hA467.ev rfl) (hA467.ev rfl)) rfl rfl rfl rfl (by decide) fun a468 hA469 => ?_; clear hA467 a466
     have hd470 : (decide ((0 : Int) = 0) && decide ((0 : Int) = 0)) = true := by simp only [decide_true, Bool.and_self]
     rw [hd470] at hA469
     have hq471 := hd470; simp only [Bool.and_eq_true, Bool.and_eq_false_iff, decide_eq_true_eq, decide_eq_false_iff_not] at hq471
     refine st hA469 (op_pick_f rfl (hA469.ev rfl) (hA469.ev rfl)) rfl rfl (by decide) fun a472 hA473 => ?_; clear hA469 a468
     refine st hA473 (op_move rfl (hA473.ev rfl)) rfl rfl (by decide) fun a474 hA475 => ?_; clear hA473 a472
     refine stg hA475 (op_move rfl (hA475.ev rfl)) rfl rfl rfl rfl (by decide) fun a476 hA477 => ?_; clear hA475 a474
     refine stg hA477 (op_len rfl un_28 (hA477.ev rfl)) rfl rfl rfl rfl (by decide) fun a478 hA479 => ?_; clear hA477 a476
     refine stg hA479 (op_move rfl (hA479.ev rfl)) rfl rfl rfl rfl (by decide) fun a480 hA481 => ?_; clear hA479 a478
     refine stg hA481 (op_len rfl un_28 (hA481.ev rfl)) rfl rfl rfl rfl (by decide) fun a482 hA483 => ?_; clear hA481 a480
     refine stg hA483 (op_neq rfl (hA483.ev rfl) (hA483.ev rfl)) rfl rfl rfl rfl (by decide) fun a484 hA485 => ?_; clear hA483 a482
     have hd486 : ((0 : Nat) : Int) = ((0 : Nat) : Int) := rfl
     rw [decide_eq_true hd486] at hA485
     refine st hA485 (op_pick_f rfl (hA485.ev rfl) (hA485.ev rfl)) rfl rfl (by decide) fun a487 hA488 => ?_; clear hA485 a484
     refine wl_nil ?_
     refine then_n ?_
     refine c_false hA488 rfl ?_
     refine c_skip ?_
     refine then_n ?_
     refine c_seq ?_
     refine c_seq ?_
     have hA489 := hA488.as [(23, (Value.slice none 0 0)), (20, (Value.slice none 0 0))] rfl; clear hA488
     refine c_region ?_
     refine st hA489 (op_assign rfl (evc _ _)) rfl rfl (by decide) fun a490 hA491 => ?_; clear hA489 a487
     refine wl_nil ?_
     refine then_n ?_
     refine c_block ?_
     have hA492 := hA491.as [(30, (Value.int .i64 0)), (23, (Value.slice none 0 0)), (20, (Value.slice none 0 0))] rfl; clear hA491
     refine c_loop (G := Nat) (fun (k : Nat) a_ w_ => Fr 241 [] [(30, (Value.int .i64 (k : Int))), (23, (Value.slice none 0 0)), (20, (Value.slice none 0 0))] a_ ∧ Sep NoB w w_ [(blk b414 42 [(Value.int .i64 0), (Value.int .i64 0)]), (row v399 67 3 plan.length (trips plan)), (runsR true v389 lv390 rs2), (row u381 42 2 R.length (pairs R)), (blk b365 42 [(Value.int .i64 0), (Value.int .i64 0)]), (row v350 67 3 plan.length (trips plan)), (runsR true v340 lv341 rs), (row u332 42 2 R.length (pairs R)), (runsR true v303 lv304 rs2), (row u295 42 2 R.length (pairs R)), (runsR true v266 lv267 rs), (row u258 42 2 R.length (pairs R)), (runsR false v44 (lv.set kk (vs210 13)) rs2), (blk b4 24 [vr]), (sl vr 2 R.length (pairs R)), (runsR false vu lv rs), (sl vp 3 plan.length (trips plan))] ∧ (k = 0)) (fun k => 0 - k) 0 ⟨hA492.as _ rfl, hS419, rfl⟩ ?_
     clear hA492 hS419 a490
     rintro k a493 w495 ⟨hA494, hS496, hk⟩
     refine c_seq ?_
     refine c_seq ?_
     refine c_region ?_
     refine st hA494 (op_move rfl (hA494.ev rfl)) rfl rfl (by decide) fun a497 hA498 => ?_; clear hA494 a493
     refine st hA498 (op_move rfl (hA498.ev rfl)) rfl rfl (by decide) fun a499 hA500 => ?_; clear hA498 a497
     refine st hA500 (op_len rfl un_28 (hA500.ev rfl)) rfl rfl (by decide) fun a501 hA502 => ?_; clear hA500 a499
     refine st hA502 (op_lss rfl (hA502.ev rfl) (hA502.ev rfl)) rfl rfl (by decide) fun a503 hA504 => ?_; clear hA502 a501
     have hd505 : ¬ ((k : Int) < ((0 : Nat) : Int)) := (by omega)
     rw [decide_eq_false hd505] at hA504
     refine wl_nil ?_
     refine then_n ?_
     refine c_false hA504 rfl ?_
     refine c_exit ?_
     refine then_exit ?_
     refine then_exit ?_
     refine blk_hit ?_
     refine then_n ?_
     refine c_seq ?_
     have hA506 := hA504.as [] rfl; clear hA504
     refine c_region ?_
     refine stw hA506 (op_call rfl en_17 ev0 (awake_ok _)) rfl rfl (by decide) ?_
     rintro a507 _ w509 ⟨rfl, hE510⟩ hA508; have hS511 := hS496.step hE510; clear hE510 hA506 hS496 a503
     refine st hA508 (op_assign rfl (hA508.ev rfl)) rfl rfl (by decide) fun a512 hA513 => ?_; clear hA508 a507
     refine wl_nil ?_
     refine then_n ?_
     refine c_ret ?_
     refine fin_run hA513 (.inl rfl) (run_results1 hA513 rfl (.tmp rfl)) ?_
     exact ⟨rfl, hS511.ext⟩
    ·skip
     rw [hb250] at hA249
     refine c_true hA249 rfl ?_
     refine c_seq ?_
     have hA514 := hA249.as [] rfl; clear hA249
     refine c_region ?_
     refine stw hA514 (op_call rfl en_17 ev0 (awake_ok _)) rfl rfl (by decide) ?_
     rintro a515 _ w517 ⟨rfl, hE518⟩ hA516; have hS519 := hS247.step hE518; clear hE518 hA514 hS247 a248
     refine st hA516 (op_assign rfl (hA516.ev rfl)) rfl rfl (by decide) fun a520 hA521 => ?_; clear hA516 a515
     refine wl_nil ?_
     refine then_n ?_
     refine c_ret ?_
     refine then_ret ?_
     refine fin_run hA521 (.inl rfl) (run_results1 hA521 rfl (.tmp rfl)) ?_
     exact ⟨rfl, hS519.ext⟩
 ·skip
  rw [decide_eq_false hb106] at hA105
  refine c_false hA105 rfl ?_
  refine c_skip ?_
  refine then_n ?_
  refine c_seq ?_
  have hA522 := hA105.as [(17, (bptr b93 0)), (16, (Value.int .i64 0)), (15, (lv.getD kk nilS)), (14, (Value.int .i64 (kk : Int))), (13, v44), (6, (bptr b4 0)), (1, vu), (2, vp)] rfl; clear hA105
  refine c_drawCC mixed hA522 hS98 14 [(6, 2), (9, 6), (13, 9)] [[], [], [], [], [], [3, 4], [2, 5], [], [7], [6, 8], [], [], [10, 11], [9, 12]] [(fun (vs523 : Nat → Value) (v_ : Value) (rs_ : List Res) => v_ = v44 ∧ rs_ = []), (fun (vs523 : Nat → Value) (v_ : Value) (rs_ : List Res) => v_ = (Value.int .i64 (kk : Int)) ∧ rs_ = []), (fun (vs523 : Nat → Value) (v_ : Value) (rs_ : List Res) => ∃ (b2_ : Nat), v_ = (Value.slice (some ⟨b2_, 0, none⟩) 0 0) ∧ rs_ = [(blk b2_ 56 [])]), (fun (vs523 : Nat → Value) (v_ : Value) (rs_ : List Res) => v_ = (lv.getD kk nilS) ∧ rs_ = []), (fun (vs523 : Nat → Value) (v_ : Value) (rs_ : List Res) => v_ = (Value.int .i64 0) ∧ rs_ = []), (fun (vs523 : Nat → Value) (v_ : Value) (rs_ : List Res) => v_ = (slcut (lv.getD kk nilS) 0 0 3) ∧ rs_ = []), (fun (vs523 : Nat → Value) (v_ : Value) (rs_ : List Res) => True ∧ rs_ = [(row v_ 56 3 ((((rs.getD kk run0).segs).take 0).length) (trips (((rs.getD kk run0).segs).take 0)))]), (fun (vs523 : Nat → Value) (v_ : Value) (rs_ : List Res) => v_ = (Value.agg #[(Value.int .i64 ((ta).tmod (R.length : Int))), (Value.int .i64 0), (Value.int .i64 0)]) ∧ rs_ = []), (fun (vs523 : Nat → Value) (v_ : Value) (rs_ : List Res) => True ∧ rs_ = [(row v_ 56 3 1 [(Value.int .i64 ((ta).tmod (R.length : Int))), (Value.int .i64 0), (Value.int .i64 0)])]), (fun (vs523 : Nat → Value) (v_ : Value) (rs_ : List Res) => True ∧ rs_ = [(row v_ 56 3 (((((rs.getD kk run0).segs).take 0) ++ [(((ta).tmod (R.length : Int), 0, 0) : Seg)]).length) (trips ((((rs.getD kk run0).segs).take 0) ++ [(((ta).tmod (R.length : Int), 0, 0) : Seg)])))]), (fun (vs523 : Nat → Value) (v_ : Value) (rs_ : List Res) => v_ = (lv.getD kk nilS) ∧ rs_ = []), (fun (vs523 : Nat → Value) (v_ : Value) (rs_ : List Res) => v_ = (Value.int .i64 0) ∧ rs_ = []), (fun (vs523 : Nat → Value) (v_ : Value) (rs_ : List Res) => v_ = (slcut (lv.getD kk nilS) 0 ((rs.getD kk run0).segs.length) 3) ∧ rs_ = []), (fun (vs523 : Nat → Value) (v_ : Value) (rs_ : List Res) => True ∧ rs_ = [(row v_ 56 3 ((((((rs.getD kk run0).segs).take 0) ++ [(((ta).tmod (R.length : Int), 0, 0) : Seg)]) ++ (((rs.getD kk run0).segs).drop 0)).length) (trips (((((rs.getD kk run0).segs).take 0) ++ [(((ta).tmod (R.length : Int), 0, 0) : Seg)]) ++ (((rs.getD kk run0).segs).drop 0))))])] (by decide +kernel) (by decide +kernel) (by decide +kernel) (by decide +kernel) rfl rfl ⟨(fun _ _ _ _ _ h_ => h_), (fun _ _ _ _ _ h_ => h_), (fun _ _ _ _ _ h_ => h_), (fun _ _ _ _ _ h_ => h_), (fun _ _ _ _ _ h_ => h_), (fun _ _ _ _ _ h_ => h_), (fun _ _ _ _ _ h_ => h_), (fun _ _ _ _ _ h_ => h_), (fun _ _ _ _ _ h_ => h_), (fun _ _ _ _ _ h_ => h_), (fun _ _ _ _ _ h_ => h_), (fun _ _ _ _ _ h_ => h_), (fun _ _ _ _ _ h_ => h_), (fun _ _ _ _ _ h_ => h_), trivial⟩ (by decide +kernel) ?_ ?_ ?_
  ·skip
   refine ⟨fun hj_ a w vs523 hA hS hd => ?_, ?_⟩
   ·skip
    exact opG_of rfl (vv (op_move rfl (hA.ev rfl)) (And.intro rfl rfl))
   refine ⟨fun hj_ a w vs523 hA hS hd => ?_, ?_⟩
   ·skip
    exact opG_of rfl (vv (op_move rfl (hA.ev rfl)) (And.intro rfl rfl))
   refine ⟨fun hj_ a w vs523 hA hS hd => ?_, ?_⟩
   ·skip
    exact opG_of rfl (vblz rfl pv0 un_51 ty_56 ze_56 bs_56_0_ (fun b_ => ⟨b_, rfl, rfl⟩))
   refine ⟨fun hj_ a w vs523 hA hS hd => ?_, ?_⟩
   ·skip
    exact opG_of rfl (vv (op_move rfl (hA.ev rfl)) (And.intro rfl rfl))
   refine ⟨fun hj_ a w vs523 hA hS hd => ?_, ?_⟩
   ·skip
    exact opG_of rfl (vv (op_move rfl (hA.ev rfl)) (And.intro rfl rfl))
   refine ⟨fun hj_ a w vs523 hA hS hd => ?_, ?_⟩
   ·skip
    obtain ⟨e3, rs3, hy3, hp3⟩ := hd 3 (by decide)
    obtain ⟨hv3, hr3⟩ := hy3; subst hr3
    rw [hv3] at e3
    obtain ⟨e4, rs4, hy4, hp4⟩ := hd 4 (by decide)
    obtain ⟨hv4, hr4⟩ := hy4; subst hr4
    rw [hv4] at e4
    exact opG_of rfl (vv (op_sliceHi rfl un_51 ty_56 (tmp_ev (slot_ev e3 rfl)) (h := 0) (show _ = Value.int .i64 ((0 : Nat) : Int) from (tmp_ev (slot_ev e4 rfl))) ((runs_at (hS.ok 4 _ rfl)).segs kk (by omega)) (by omega)) (And.intro rfl rfl))
   refine ⟨fun hj_ => absurd hj_ (by decide), ?_⟩
   refine ⟨fun hj_ a w vs523 hA hS hd => ?_, ?_⟩
   ·skip
    exact opG_of rfl (vv (op_loadA rfl ty_56 (hA.ev rfl) (hS.bk 0 rfl) (l := [(Value.int .i64 ((ta).tmod (R.length : Int))), (Value.int .i64 0), (Value.int .i64 0)]) rfl rfl) (And.intro rfl rfl))
   refine ⟨fun hj_ a w vs523 hA hS hd => ?_, ?_⟩
   ·skip
    obtain ⟨e7, rs7, hy7, hp7⟩ := hd 7 (by decide)
    obtain ⟨hv7, hr7⟩ := hy7; subst hr7
    rw [hv7] at e7
    exact opG_of rfl (vblt rfl (pv1 (tmp_ev (slot_ev e7 rfl))) un_51 ty_56 ze_56 (by decide) (cs := [(Value.int .i64 ((ta).tmod (R.length : Int))), (Value.int .i64 0), (Value.int .i64 0)]) (bs_56_1_0iiia _ _ _) rfl (by decide) (fun _ => And.intro trivial rfl))
   refine ⟨fun hj_ => absurd hj_ (by decide), ?_⟩
   refine ⟨fun hj_ a w vs523 hA hS hd => ?_, ?_⟩
   ·skip
    exact opG_of rfl (vv (op_move rfl (hA.ev rfl)) (And.intro rfl rfl))
   refine ⟨fun hj_ a w vs523 hA hS hd => ?_, ?_⟩
   ·skip
    exact opG_of rfl (vv (op_move rfl (hA.ev rfl)) (And.intro rfl rfl))
   refine ⟨fun hj_ a w vs523 hA hS hd => ?_, ?_⟩
   ·skip
    obtain ⟨e10, rs10, hy10, hp10⟩ := hd 10 (by decide)
    obtain ⟨hv10, hr10⟩ := hy10; subst hr10
    rw [hv10] at e10
    obtain ⟨e11, rs11, hy11, hp11⟩ := hd 11 (by decide)
    obtain ⟨hv11, hr11⟩ := hy11; subst hr11
    rw [hv11] at e11
    exact opG_of rfl (vv (op_sliceLo rfl un_51 ty_56 (tmp_ev (slot_ev e10 rfl)) (l := 0) (show _ = Value.int .i64 ((0 : Nat) : Int) from (tmp_ev (slot_ev e11 rfl))) ((runs_at (hS.ok 4 _ rfl)).segs kk (by omega)) (by omega)) (And.intro rfl rfl))
   refine ⟨fun hj_ => absurd hj_ (by decide), ?_⟩
   trivial
  ·skip
   refine ⟨fun o_ ho_ => ?_, ?_⟩
   ·skip
    obtain rfl := Option.some.inj ho_; clear ho_
    intro a w vs523 rs0 Lr hA hs0 hy0 hd hL hS
    obtain ⟨b2_, hv2, hr2⟩ := hy0; subst hr2
    rw [hv2] at hs0
    replace hS := hS.blk_row (i := 0) (sz := 3) (n := 0) rfl rfl (by decide)
    obtain ⟨e5, rs5, hy5, hp5⟩ := hd 5 (by decide) (by decide)
    obtain ⟨hv5, hr5⟩ := hy5; subst hr5
    rw [hv5] at e5
    exact opG_of rfl (opY_mono (op_append hS rfl un_51 el_56 (tmp_ev (slot_ev hs0 rfl)) (tmp_ev (slot_ev e5 rfl)) (i := 0) rfl (SlAt.say (n' := (((rs.getD kk run0).segs).take 0).length) (cs' := (trips (((rs.getD kk run0).segs).take 0))) (SlAt.cut ((runs_at (hL.ok 4 _ rfl)).segs kk (by omega)) (Nat.zero_le _) (by omega)) (by simp only [List.length_take]; omega) (trips_cutHi _ _)) (trips_one _) (by simp only [maxLen, replAt, List.length_take, List.length_drop, List.length_append, List.length_cons, List.length_nil]; omega) (by first | omega | (simp only [maxLen, replAt, List.length_take, List.length_drop, List.length_append, List.length_cons, List.length_nil]; omega))) fun v_ w_ h_ => ⟨_, And.intro trivial rfl, h_.row_say (i := 0) rfl (n' := (((rs.getD kk run0).segs).take 0).length) (xs' := (trips (((rs.getD kk run0).segs).take 0))) (by simp) (by simp)⟩)
   refine ⟨fun o_ ho_ => ?_, ?_⟩
   ·skip
    obtain rfl := Option.some.inj ho_; clear ho_
    intro a w vs523 rs0 Lr hA hs0 hy0 hd hL hS
    obtain ⟨hv6, hr6⟩ := hy0; subst hr6
    obtain ⟨e8, rs8, hy8, hp8⟩ := hd 8 (by decide) (by decide)
    obtain ⟨hv8, hr8⟩ := hy8; subst hr8
    have hp8_0 := hp8 _ (List.mem_of_getElem? (i := 0) rfl)
    exact opG_of rfl (opY_mono (op_append hS rfl un_51 el_56 (tmp_ev (slot_ev hs0 rfl)) (tmp_ev (slot_ev e8 rfl)) (i := 0) rfl (SlAt.of_row hp8_0) rfl (by simp only [maxLen, replAt, List.length_take, List.length_drop, List.length_append, List.length_cons, List.length_nil]; omega) (by first | omega | (simp only [maxLen, replAt, List.length_take, List.length_drop, List.length_append, List.length_cons, List.length_nil]; omega))) fun v_ w_ h_ => ⟨_, And.intro trivial rfl, h_.row_say (i := 0) rfl (n' := ((((rs.getD kk run0).segs).take 0) ++ [(((ta).tmod (R.length : Int), 0, 0) : Seg)]).length) (xs' := (trips ((((rs.getD kk run0).segs).take 0) ++ [(((ta).tmod (R.length : Int), 0, 0) : Seg)]))) (by first | exact List.length_append.symm | simp) (by first | exact (trips_append _ _).symm | simp [trips])⟩)
   refine ⟨fun o_ ho_ => ?_, ?_⟩
   ·skip
    obtain rfl := Option.some.inj ho_; clear ho_
    intro a w vs523 rs0 Lr hA hs0 hy0 hd hL hS
    obtain ⟨hv9, hr9⟩ := hy0; subst hr9
    obtain ⟨e12, rs12, hy12, hp12⟩ := hd 12 (by decide) (by decide)
    obtain ⟨hv12, hr12⟩ := hy12; subst hr12
    rw [hv12] at e12
    exact opG_of rfl (opY_mono (op_append hS rfl un_51 el_56 (tmp_ev (slot_ev hs0 rfl)) (tmp_ev (slot_ev e12 rfl)) (i := 0) rfl (SlAt.say (n' := (((rs.getD kk run0).segs).drop 0).length) (cs' := (trips (((rs.getD kk run0).segs).drop 0))) (SlAt.cut ((runs_at (hL.ok 4 _ rfl)).segs kk (by omega)) (by omega) (Nat.le_refl _)) (by simp only [List.length_drop]) (trips_cutLo _ _)) (trips_one _) (by simp only [maxLen, replAt, List.length_take, List.length_drop, List.length_append, List.length_cons, List.length_nil]; omega) (by first | omega | (simp only [maxLen, replAt, List.length_take, List.length_drop, List.length_append, List.length_cons, List.length_nil]; omega))) fun v_ w_ h_ => ⟨_, And.intro trivial rfl, h_.row_say (i := 0) rfl (n' := (((((rs.getD kk run0).segs).take 0) ++ [(((ta).tmod (R.length : Int), 0, 0) : Seg)]) ++ (((rs.getD kk run0).segs).drop 0)).length) (xs' := (trips (((((rs.getD kk run0).segs).take 0) ++ [(((ta).tmod (R.length : Int), 0, 0) : Seg)]) ++ (((rs.getD kk run0).segs).drop 0)))) (by first | exact List.length_append.symm | simp) (by first | exact (trips_append _ _).symm | simp [trips])⟩)
   trivial
  ·skip
   intro a524 w525 vs523 rsf529 hA526 hH528 hrq hS527; clear hA522 hS98
   have hrq_2 := hrq (6, 2) (by decide)
   have hrq_6 := hrq (9, 6) (by decide)
   have hrq_9 := hrq (13, 9) (by decide)
   obtain ⟨hs_0, hy_0⟩ := hH528 0 (by decide) (by decide)
   obtain ⟨hv_0, hr_0⟩ := hy_0
   obtain ⟨hs_1, hy_1⟩ := hH528 1 (by decide) (by decide)
   obtain ⟨hv_1, hr_1⟩ := hy_1
   obtain ⟨hs_3, hy_3⟩ := hH528 3 (by decide) (by decide)
   obtain ⟨hv_3, hr_3⟩ := hy_3
   obtain ⟨hs_4, hy_4⟩ := hH528 4 (by decide) (by decide)
   obtain ⟨hv_4, hr_4⟩ := hy_4
   obtain ⟨hs_5, hy_5⟩ := hH528 5 (by decide) (by decide)
   obtain ⟨hv_5, hr_5⟩ := hy_5
   obtain ⟨hs_7, hy_7⟩ := hH528 7 (by decide) (by decide)
   obtain ⟨hv_7, hr_7⟩ := hy_7
   obtain ⟨hs_8, hy_8⟩ := hH528 8 (by decide) (by decide)
   obtain ⟨hv_8, hr_8⟩ := hy_8
   obtain ⟨hs_10, hy_10⟩ := hH528 10 (by decide) (by decide)
   obtain ⟨hv_10, hr_10⟩ := hy_10
   obtain ⟨hs_11, hy_11⟩ := hH528 11 (by decide) (by decide)
   obtain ⟨hv_11, hr_11⟩ := hy_11
   obtain ⟨hs_12, hy_12⟩ := hH528 12 (by decide) (by decide)
   obtain ⟨hv_12, hr_12⟩ := hy_12
   obtain ⟨hs_13, hy_13⟩ := hH528 13 (by decide) (by decide)
   obtain ⟨hv_13, hr_13⟩ := hy_13
   have hS530 : Sep NoB w w525 [(row (vs523 8) 56 3 1 [(Value.int .i64 ((ta).tmod (R.length : Int))), (Value.int .i64 0), (Value.int .i64 0)]), (row (vs523 13) 56 3 ((((((rs.getD kk run0).segs).take 0) ++ [(((ta).tmod (R.length : Int), 0, 0) : Seg)]) ++ (((rs.getD kk run0).segs).drop 0)).length) (trips (((((rs.getD kk run0).segs).take 0) ++ [(((ta).tmod (R.length : Int), 0, 0) : Seg)]) ++ (((rs.getD kk run0).segs).drop 0)))), (blk b93 56 [(Value.int .i64 ((ta).tmod (R.length : Int))), (Value.int .i64 0), (Value.int .i64 0)]), (row v44 54 3 rs.length (vtrips (runV lv rs))), (blk b4 24 [vr]), (sl vr 2 R.length (pairs R)), (runsR false vu lv rs), (sl vp 3 plan.length (trips plan))] := by rw [show catR rsf529 0 14 = ([(row (vs523 8) 56 3 1 [(Value.int .i64 ((ta).tmod (R.length : Int))), (Value.int .i64 0), (Value.int .i64 0)]), (row (vs523 13) 56 3 ((((((rs.getD kk run0).segs).take 0) ++ [(((ta).tmod (R.length : Int), 0, 0) : Seg)]) ++ (((rs.getD kk run0).segs).drop 0)).length) (trips (((((rs.getD kk run0).segs).take 0) ++ [(((ta).tmod (R.length : Int), 0, 0) : Seg)]) ++ (((rs.getD kk run0).segs).drop 0))))] : List Res) by (try simp only [catR, hr_0, hr_1, hr_3, hr_4, hr_5, hr_7, hr_8, hr_10, hr_11, hr_12, hr_13, hrq_2, hrq_6, hrq_9]); (try rfl)] at hS527; exact hS527
   rw [hv_0] at hs_0
   have hA531 : Fr 241 [] [(135, v44), (17, (bptr b93 0)), (16, (Value.int .i64 0)), (15, (lv.getD kk nilS)), (14, (Value.int .i64 (kk : Int))), (13, v44), (6, (bptr b4 0)), (1, vu), (2, vp)] a524 := hA526.add (slot_ev hs_0 rfl); clear hA526
   rw [hv_1] at hs_1
   have hA532 : Fr 241 [] [(136, (Value.int .i64 (kk : Int))), (135, v44), (17, (bptr b93 0)), (16, (Value.int .i64 0)), (15, (lv.getD kk nilS)), (14, (Value.int .i64 (kk : Int))), (13, v44), (6, (bptr b4 0)), (1, vu), (2, vp)] a524 := hA531.add (slot_ev hs_1 rfl); clear hA531
   have hA533 : Fr 241 [] [(148, (vs523 13)), (136, (Value.int .i64 (kk : Int))), (135, v44), (17, (bptr b93 0)), (16, (Value.int .i64 0)), (15, (lv.getD kk nilS)), (14, (Value.int .i64 (kk : Int))), (13, v44), (6, (bptr b4 0)), (1, vu), (2, vp)] a524 := hA532.add (slot_ev hs_13 rfl); clear hA532
   clear hH528 hS527 hs_0 hs_1 hs_3 hs_4 hs_5 hs_7 hs_8 hs_10 hs_11 hs_12 hs_13 hrq hrq_2 hrq_6 hrq_9
   clear hr_0
   clear hv_0
   clear hr_1
   clear hv_1
   clear hr_3
   clear hv_3
   clear hr_4
   clear hv_4
   clear hr_5
   clear hv_5
   clear hr_7
   clear hv_7
   clear hr_8
   clear hv_8
   clear hr_10
   clear hv_10
   clear hr_11
   clear hv_11
   clear hr_12
   clear hv_12
   clear hr_13
   clear hv_13
   refine st hA533 (op_indexS rfl un_25 ty_54 (hA533.ev rfl) (i := kk) (hA533.ev rfl) (SlAt.of_row (hS530.ok_row 3 rfl)) (by decide) (by omega)) rfl rfl (by decide) fun a534 hA535 => ?_; clear hA533 a524
   refine st hA535 (op_fieldS rfl fd_54_0 (hA535.ev rfl) (SlAt.of_row (hS530.ok_row 3 rfl)) (by rw [((SlAt.of_row (hS530.ok_row 3 rfl))).1]; omega)) rfl rfl (by decide) fun a536 hA537 => ?_; clear hA535 a534
   refine sts hA537 (op_storeE hS530 rfl ty_51 (hA537.ev rfl) (hA537.ev rfl) (i := 3) rfl (vs := [(vs523 13)]) (isSl_cells (SlAt.isSl (SlAt.of_row (hS530.ok_row 1 rfl)))) rfl (all_c (SlAt.one (SlAt.of_row (hS530.ok_row 1 rfl))) all_n) (by rw [vtrips_length, runV_len hx.len]; first | omega | (simp only [List.length_cons, List.length_nil]; omega)) (by decide)) rfl rfl ?_
   intro _ w538 hS539 hA541; have hS540 := hS539.row_say (i := 3) rfl (n' := (rs.set kk (⟨(((((rs.getD kk run0).segs).take 0) ++ [(((ta).tmod (R.length : Int), 0, 0) : Seg)]) ++ (((rs.getD kk run0).segs).drop 0)), (rs.getD kk run0).lo, (rs.getD kk run0).hi⟩ : RunD)).length) (xs' := (vtrips (runV (lv.set kk (vs523 13)) (rs.set kk (⟨(((((rs.getD kk run0).segs).take 0) ++ [(((ta).tmod (R.length : Int), 0, 0) : Seg)]) ++ (((rs.getD kk run0).segs).drop 0)), (rs.getD kk run0).lo, (rs.getD kk run0).hi⟩ : RunD))))) (by simp only [List.length_set]) (runs_set0 (runs_at (hS530.ok 6 _ rfl)).len (by omega) _ _); clear hS539 hA537 hS530
   refine wl_nil ?_
   refine then_n ?_
   refine c_seq ?_
   refine c_seq ?_
   have hA542 := hA541.as [(13, v44), (6, (bptr b4 0)), (1, vu), (2, vp)] rfl; clear hA541
   have hS543 := hS540.row_say (i := 3) rfl (n' := (rs.set kk (⟨(putAt (rs.getD kk run0).segs 0 (ta.tmod (R.length : Int), 0, 0)), (rs.getD kk run0).lo, (rs.getD kk run0).hi⟩ : RunD)).length) (xs' := (vtrips (runV (lv.set kk (vs523 13)) (rs.set kk (⟨(putAt (rs.getD kk run0).segs 0 (ta.tmod (R.length : Int), 0, 0)), (rs.getD kk run0).lo, (rs.getD kk run0).hi⟩ : RunD))))) rfl rfl; clear hS540
   have hS544 := (hS543.row_say (i := 1) rfl (n' := (⟨(putAt (rs.getD kk run0).segs 0 (ta.tmod (R.length : Int), 0, 0)), (rs.getD kk run0).lo, (rs.getD kk run0).hi⟩ : RunD).segs.length) (xs' := trips (⟨(putAt (rs.getD kk run0).segs 0 (ta.tmod (R.length : Int), 0, 0)), (rs.getD kk run0).lo, (rs.getD kk run0).hi⟩ : RunD).segs) rfl rfl).row_sl (i := 1) rfl; clear hS543
   have hS545 := hS544.segs_set (x := (⟨(putAt (rs.getD kk run0).segs 0 (ta.tmod (R.length : Int), 0, 0)), (rs.getD kk run0).lo, (rs.getD kk run0).hi⟩ : RunD)) (i := 6) (j := 1) rfl rfl hb_kk; clear hS544
   have hS546 : Sep NoB w w538 [(row v44 54 3 ((rs.set kk (⟨(putAt (rs.getD kk run0).segs 0 (ta.tmod (R.length : Int), 0, 0)), (rs.getD kk run0).lo, (rs.getD kk run0).hi⟩ : RunD)).length) (vtrips (runV (lv.set kk (vs523 13)) (rs.set kk (⟨(putAt (rs.getD kk run0).segs 0 (ta.tmod (R.length : Int), 0, 0)), (rs.getD kk run0).lo, (rs.getD kk run0).hi⟩ : RunD))))), (segsR false (lv.set kk (vs523 13)) (rs.set kk (⟨(putAt (rs.getD kk run0).segs 0 (ta.tmod (R.length : Int), 0, 0)), (rs.getD kk run0).lo, (rs.getD kk run0).hi⟩ : RunD))), (row (vs523 8) 56 3 1 [(Value.int .i64 ((ta).tmod (R.length : Int))), (Value.int .i64 0), (Value.int .i64 0)]), (sl (vs523 13) 3 ((⟨(putAt (rs.getD kk run0).segs 0 (ta.tmod (R.length : Int), 0, 0)), (rs.getD kk run0).lo, (rs.getD kk run0).hi⟩ : RunD).segs.length) (trips ((⟨(putAt (rs.getD kk run0).segs 0 (ta.tmod (R.length : Int), 0, 0)), (rs.getD kk run0).lo, (rs.getD kk run0).hi⟩ : RunD).segs))), (blk b93 56 [(Value.int .i64 ((ta).tmod (R.length : Int))), (Value.int .i64 0), (Value.int .i64 0)]), (blk b4 24 [vr]), (sl vr 2 R.length (pairs R)), (runsR false vu lv rs), (sl vp 3 plan.length (trips plan))] := hS545.keep [4, 0, 1, 2, 3, 5, 6, 7, 8] (by decide) _ rfl rfl; clear hS545
   have hS547 := hS546.runs_ro rfl; clear hS546
   have hS548 : Sep NoB w w538 [(runsR false v44 (lv.set kk (vs523 13)) (rs.set kk (⟨(putAt (rs.getD kk run0).segs 0 (ta.tmod (R.length : Int), 0, 0)), (rs.getD kk run0).lo, (rs.getD kk run0).hi⟩ : RunD))), (blk b4 24 [vr]), (sl vr 2 R.length (pairs R)), (runsR false vu lv rs), (sl vp 3 plan.length (trips plan))] := hS547.keep [0, 4, 5, 6, 7] (by decide) _ rfl rfl; clear hS547
   have hsame : ∀ r, allowB (rs.set kk (⟨(putAt (rs.getD kk run0).segs 0 (ta.tmod (R.length : Int), 0, 0)), (rs.getD kk run0).lo, (rs.getD kk run0).hi⟩ : RunD)) r = allowB rs r := set_same_allow hb_kk rfl rfl (fun r => st_stay (rs.getD kk run0).segs 0 r (ta.tmod (R.length : Int)))
   have hl2 : (rs.set kk (⟨(putAt (rs.getD kk run0).segs 0 (ta.tmod (R.length : Int), 0, 0)), (rs.getD kk run0).lo, (rs.getD kk run0).hi⟩ : RunD)).length = rs.length := by simp only [List.length_set]
   generalize hg_ : rs.set kk (⟨(putAt (rs.getD kk run0).segs 0 (ta.tmod (R.length : Int), 0, 0)), (rs.getD kk run0).lo, (rs.getD kk run0).hi⟩ : RunD) = rs2 at hS548 hsame hl2; clear hg_
   have hA549 := hA542.as [(13, v44), (6, (bptr b4 0)), (1, vu), (2, vp)] rfl; clear hA542
   refine c_region ?_
   refine st hA549 (op_loadA rfl ty_24 (hA549.ev rfl) (hS548.bk 1 rfl) (l := [vr]) rfl rfl) rfl rfl (by decide) fun a550 hA551 => ?_; clear hA549 a536
   refine st hA551 (op_move rfl (hA551.ev rfl)) rfl rfl (by decide) fun a552 hA553 => ?_; clear hA551 a550
   refine st hA553 (op_move rfl (hA553.ev rfl)) rfl rfl (by decide) fun a554 hA555 => ?_; clear hA553 a552
   refine stw hA555 (op_call rfl en_27 (ev3 (hA555.ev rfl) (hA555.ev rfl) (hA555.ev rfl)) (ready_ok _ R _ (hS548.sk 2 rfl) rs2 _ _ (runs_at (hS548.ok 0 _ rfl)) plan _ (hS548.sk 4 rfl))) rfl rfl (by decide) ?_
   rintro a556 _ w558 ⟨rfl, hE559⟩ hA557; have hS560 := hS548.step hE559; clear hE559 hA555 hS548 a554
   refine st hA557 (op_not rfl (hA557.ev rfl)) rfl rfl (by decide) fun a561 hA562 => ?_; clear hA557 a556
   refine wl_nil ?_
   refine then_n ?_
   rcases Bool.eq_false_or_eq_true ((readyB R rs2 plan)) with hb563 | hb563
   ·skip
    rw [hb563] at hA562
    have hrd2 := ready_is (R := R) (rs := rs2) (plan := plan) (by assumption); have hth2 := hrd2.1; have he2 := hrd2.2.1; have h9x := hth2.runs; have halw : allowedF R rs2 = allowedF R rs := allowed_same hsame; have hps : possF R rs2 = possF R rs := poss_same halw he he2; have hrte : ratesF R rs2 = ratesF R rs := by unfold ratesF; rw [halw]
    have hls : leastR R rs2 plan = leastR R rs plan := by unfold leastR; rw [halw]
    have hms : mostR R rs2 plan = mostR R rs plan := by unfold mostR; rw [halw]
    have hpl2 : planF R rs2 plan = planF R rs plan := by unfold planF; rw [hps]
    have hrt2 := ratesF_len R rs2; have hale : (allowedF R rs2).length = (allowedF R rs).length := by rw [halw]
    refine c_false hA562 rfl ?_
    refine c_skip ?_
    refine then_n ?_
    refine c_seq ?_
    refine c_region ?_
    refine st hA562 (op_loadA rfl ty_24 (hA562.ev rfl) (hS560.bk 1 rfl) (l := [vr]) rfl rfl) rfl rfl (by decide) fun a564 hA565 => ?_; clear hA562 a561
    refine stw hA565 (op_call rfl en_19 (ev1 (hA565.ev rfl)) (Material_ok _ R _ (hS560.sk 2 rfl) hth.mat)) rfl rfl (by decide) ?_
    rintro a566 _ w568 ⟨u571, rfl, hT569⟩ hA567; have hS570 := hS560.callS hT569 rfl; clear hT569 hA565 hS560 a564
    refine st hA567 (op_move rfl (hA567.ev rfl)) rfl rfl (by decide) fun a572 hA573 => ?_; clear hA567 a566
    refine stw hA573 (op_call rfl en_20 (ev1 (hA573.ev rfl)) (Runs_ok _ rs _ _ (runs_at (hS570.ok 4 _ rfl)) h9 hth.segs)) rfl rfl (by decide) ?_
    rintro a574 v579 w576 ⟨lv580, hT577⟩ hA575; have hS578 := hS570.callS hT577 rfl; clear hT577 hA573 hS570 a572
    refine stw hA575 (op_call rfl en_18 (ev2 (hA575.ev rfl) (hA575.ev rfl)) (rates_bad R rs lv580 u571 v579 _ (SlAt.of_row (hS578.ok_row 1 rfl)) (runs_at (hS578.ok 0 _ rfl)) (by omega) (by omega) (by omega))) rfl rfl (by decide) ?_
    rintro a581 _ w583 ⟨rfl, hE584⟩ hA582; have hS585 := hS578.step hE584; clear hE584 hA575 hS578 a574
    refine st hA582 (op_move rfl (hA582.ev rfl)) rfl rfl (by decide) fun a586 hA587 => ?_; clear hA582 a581
    refine st hA587 (op_extract rfl (hA587.ev rfl) rfl) rfl rfl (by decide) fun a588 hA589 => ?_; clear hA587 a586
    refine st hA589 (op_extract rfl (hA589.ev rfl) rfl) rfl rfl (by decide) fun a590 hA591 => ?_; clear hA589 a588
    refine st hA591 (op_extract rfl (hA591.ev rfl) rfl) rfl rfl (by decide) fun a592 hA593 => ?_; clear hA591 a590
    refine st hA593 (op_assign rfl (hA593.ev rfl)) rfl rfl (by decide) fun a594 hA595 => ?_; clear hA593 a592
    refine st hA595 (op_assign rfl (hA595.ev rfl)) rfl rfl (by decide) fun a596 hA597 => ?_; clear hA595 a594
    refine st hA597 (op_assign rfl (hA597.ev rfl)) rfl rfl (by decide) fun a598 hA599 => ?_; clear hA597 a596
    refine wl_nil ?_
    refine then_n ?_
    refine c_seq ?_
    have hA600 := hA599.as [(22, (Value.int .i64 (possF R rs))), (21, (Value.int .i64 0)), (20, (Value.slice none 0 0)), (13, v44), (6, (bptr b4 0)), (1, vu), (2, vp)] rfl; clear hA599
    refine c_region ?_
    refine st hA600 (op_loadA rfl ty_24 (hA600.ev rfl) (hS585.bk 3 rfl) (l := [vr]) rfl rfl) rfl rfl (by decide) fun a601 hA602 => ?_; clear hA600 a598
    refine stw hA602 (op_call rfl en_19 (ev1 (hA602.ev rfl)) (Material_ok _ R _ (hS585.sk 4 rfl) hth.mat)) rfl rfl (by decide) ?_
    rintro a603 _ w605 ⟨u608, rfl, hT606⟩ hA604; have hS607 := hS585.callS hT606 rfl; clear hT606 hA602 hS585 a601
    refine st hA604 (op_move rfl (hA604.ev rfl)) rfl rfl (by decide) fun a609 hA610 => ?_; clear hA604 a603
    refine stw hA610 (op_call rfl en_20 (ev1 (hA610.ev rfl)) (Runs_ok _ rs2 _ _ (runs_at (hS607.ok 3 _ rfl)) h9x hth2.segs)) rfl rfl (by decide) ?_
    rintro a611 v616 w613 ⟨lv617, hT614⟩ hA612; have hS615 := hS607.callS hT614 rfl; clear hT614 hA610 hS607 a609
    refine stw hA612 (op_call rfl en_18 (ev2 (hA612.ev rfl) (hA612.ev rfl)) (rates_bad R rs2 lv617 u608 v616 _ (SlAt.of_row (hS615.ok_row 1 rfl)) (runs_at (hS615.ok 0 _ rfl)) (by omega) (by omega) (by omega))) rfl rfl (by decide) ?_
    rintro a618 _ w620 ⟨rfl, hE621⟩ hA619; have hS622 := hS615.step hE621; clear hE621 hA612 hS615 a611
    refine st hA619 (op_move rfl (hA619.ev rfl)) rfl rfl (by decide) fun a623 hA624 => ?_; clear hA619 a618
    refine st hA624 (op_extract rfl (hA624.ev rfl) rfl) rfl rfl (by decide) fun a625 hA626 => ?_; clear hA624 a623
    refine st hA626 (op_extract rfl (hA626.ev rfl) rfl) rfl rfl (by decide) fun a627 hA628 => ?_; clear hA626 a625
    refine st hA628 (op_extract rfl (hA628.ev rfl) rfl) rfl rfl (by decide) fun a629 hA630 => ?_; clear hA628 a627
    refine st hA630 (op_assign rfl (hA630.ev rfl)) rfl rfl (by decide) fun a631 hA632 => ?_; clear hA630 a629
    refine st hA632 (op_assign rfl (hA632.ev rfl)) rfl rfl (by decide) fun a633 hA634 => ?_; clear hA632 a631
    refine st hA634 (op_assign rfl (hA634.ev rfl)) rfl rfl (by decide) fun a635 hA636 => ?_; clear hA634 a633
    refine wl_nil ?_
    refine then_n ?_
    refine c_seq ?_
    have hA637 := hA636.as [(25, (Value.int .i64 (possF R rs2))), (24, (Value.int .i64 0)), (23, (Value.slice none 0 0)), (22, (Value.int .i64 (possF R rs))), (21, (Value.int .i64 0)), (20, (Value.slice none 0 0)), (13, v44), (6, (bptr b4 0)), (1, vu), (2, vp)] rfl; clear hA636
    refine c_region ?_
    refine st hA637 (op_loadA rfl ty_24 (hA637.ev rfl) (hS622.bk 5 rfl) (l := [vr]) rfl rfl) rfl rfl (by decide) fun a638 hA639 => ?_; clear hA637 a635
    refine stw hA639 (op_call rfl en_19 (ev1 (hA639.ev rfl)) (Material_ok _ R _ (hS622.sk 6 rfl) hth.mat)) rfl rfl (by decide) ?_
    rintro a640 _ w642 ⟨u645, rfl, hT643⟩ hA641; have hS644 := hS622.callS hT643 rfl; clear hT643 hA639 hS622 a638
    refine st hA641 (op_move rfl (hA641.ev rfl)) rfl rfl (by decide) fun a646 hA647 => ?_; clear hA641 a640
    refine stw hA647 (op_call rfl en_20 (ev1 (hA647.ev rfl)) (Runs_ok _ rs _ _ (runs_at (hS644.ok 8 _ rfl)) h9 hth.segs)) rfl rfl (by decide) ?_
    rintro a648 v653 w650 ⟨lv654, hT651⟩ hA649; have hS652 := hS644.callS hT651 rfl; clear hT651 hA647 hS644 a646
    refine st hA649 (op_move rfl (hA649.ev rfl)) rfl rfl (by decide) fun a655 hA656 => ?_; clear hA649 a648
    refine stw hA656 (op_call rfl en_29 (ev1 (hA656.ev rfl)) (Plan_ok _ plan _ (hS652.sk 10 rfl) (by omega))) rfl rfl (by decide) ?_
    rintro a657 v663 w659 ⟨hE660, hO661⟩ hA658; have hS662 := hS652.new_row hE660 hO661; clear hE660 hO661 hA656 hS652 a655
    refine stw hA658 (op_call rfl en_28 (ev3 (hA658.ev rfl) (hA658.ev rfl) (hA658.ev rfl)) (stretch_bad R rs lv654 u645 v653 _ (SlAt.of_row (hS662.ok_row 2 rfl)) (runs_at (hS662.ok 1 _ rfl)) (by omega) (by omega) plan v663 (SlAt.of_row (hS662.ok_row 0 rfl)) (by omega) (by omega))) rfl rfl (by decide) ?_
    rintro a664 _ w666 ⟨rfl, hE667⟩ hA665; have hS668 := hS662.step hE667; clear hE667 hA658 hS662 a657
    refine st hA665 (op_move rfl (hA665.ev rfl)) rfl rfl (by decide) fun a669 hA670 => ?_; clear hA665 a664
    refine st hA670 (op_extract rfl (hA670.ev rfl) rfl) rfl rfl (by decide) fun a671 hA672 => ?_; clear hA670 a669
    refine st hA672 (op_extract rfl (hA672.ev rfl) rfl) rfl rfl (by decide) fun a673 hA674 => ?_; clear hA672 a671
    refine stw hA674 (op_alloc hS668 rfl ze_42 (cs := [(Value.int .i64 0), (Value.int .i64 0)]) rfl) rfl rfl (by decide) ?_
    rintro a675 _ w677 ⟨b678, rfl, hS679⟩ hA676; clear hA674 hS668 a673
    refine sts hA676 (op_store hS679 rfl ty_42 (hA676.ev rfl) (hA676.ev rfl) (i := 0) rfl (vs := [(Value.int .i64 0), (Value.int .i64 0)]) rfl rfl rfl (Nat.le_of_ble_eq_true rfl)) rfl rfl ?_
    intro _ w680 hS681 hA682; clear hA676
    have hS683 : Sep NoB w w680 [(blk b678 42 [(Value.int .i64 0), (Value.int .i64 0)]), (row v663 67 3 plan.length (trips plan)), (runsR true v653 lv654 rs), (row u645 42 2 R.length (pairs R)), (runsR true v616 lv617 rs2), (row u608 42 2 R.length (pairs R)), (runsR true v579 lv580 rs), (row u571 42 2 R.length (pairs R)), (runsR false v44 (lv.set kk (vs523 13)) rs2), (blk b4 24 [vr]), (sl vr 2 R.length (pairs R)), (runsR false vu lv rs), (sl vp 3 plan.length (trips plan))] := hS681; clear hS681 hS679
    refine st hA682 (op_assign rfl (hA682.ev rfl)) rfl rfl (by decide) fun a684 hA685 => ?_; clear hA682 a675
    refine wl_nil ?_
    refine then_n ?_
    refine c_seq ?_
    have hA686 := hA685.as [(27, (Value.int .i64 (planF R rs plan))), (26, (bptr b678 0)), (25, (Value.int .i64 (possF R rs2))), (24, (Value.int .i64 0)), (23, (Value.slice none 0 0)), (22, (Value.int .i64 (possF R rs))), (21, (Value.int .i64 0)), (20, (Value.slice none 0 0)), (13, v44), (6, (bptr b4 0)), (2, vp)] rfl; clear hA685
    refine c_region ?_
    refine st hA686 (op_loadA rfl ty_24 (hA686.ev rfl) (hS683.bk 9 rfl) (l := [vr]) rfl rfl) rfl rfl (by decide) fun a687 hA688 => ?_; clear hA686 a684
    refine stw hA688 (op_call rfl en_19 (ev1 (hA688.ev rfl)) (Material_ok _ R _ (hS683.sk 10 rfl) hth.mat)) rfl rfl (by decide) ?_
    rintro a689 _ w691 ⟨u694, rfl, hT692⟩ hA690; have hS693 := hS683.callS hT692 rfl; clear hT692 hA688 hS683 a687
    refine st hA690 (op_move rfl (hA690.ev rfl)) rfl rfl (by decide) fun a695 hA696 => ?_; clear hA690 a689
    refine stw hA696 (op_call rfl en_20 (ev1 (hA696.ev rfl)) (Runs_ok _ rs2 _ _ (runs_at (hS693.ok 9 _ rfl)) h9x hth2.segs)) rfl rfl (by decide) ?_
    rintro a697 v702 w699 ⟨lv703, hT700⟩ hA698; have hS701 := hS693.callS hT700 rfl; clear hT700 hA696 hS693 a695
    refine st hA698 (op_move rfl (hA698.ev rfl)) rfl rfl (by decide) fun a704 hA705 => ?_; clear hA698 a697
    refine stw hA705 (op_call rfl en_29 (ev1 (hA705.ev rfl)) (Plan_ok _ plan _ (hS701.sk 14 rfl) (by omega))) rfl rfl (by decide) ?_
    rintro a706 v712 w708 ⟨hE709, hO710⟩ hA707; have hS711 := hS701.new_row hE709 hO710; clear hE709 hO710 hA705 hS701 a704
    refine stw hA707 (op_call rfl en_28 (ev3 (hA707.ev rfl) (hA707.ev rfl) (hA707.ev rfl)) (stretch_bad R rs2 lv703 u694 v702 _ (SlAt.of_row (hS711.ok_row 2 rfl)) (runs_at (hS711.ok 1 _ rfl)) (by omega) (by omega) plan v712 (SlAt.of_row (hS711.ok_row 0 rfl)) (by omega) (by omega))) rfl rfl (by decide) ?_
    rintro a713 _ w715 ⟨rfl, hE716⟩ hA714; have hS717 := hS711.step hE716; clear hE716 hA707 hS711 a706
    refine st hA714 (op_move rfl (hA714.ev rfl)) rfl rfl (by decide) fun a718 hA719 => ?_; clear hA714 a713
    refine st hA719 (op_extract rfl (hA719.ev rfl) rfl) rfl rfl (by decide) fun a720 hA721 => ?_; clear hA719 a718
    refine st hA721 (op_extract rfl (hA721.ev rfl) rfl) rfl rfl (by decide) fun a722 hA723 => ?_; clear hA721 a720
    refine stw hA723 (op_alloc hS717 rfl ze_42 (cs := [(Value.int .i64 0), (Value.int .i64 0)]) rfl) rfl rfl (by decide) ?_
    rintro a724 _ w726 ⟨b727, rfl, hS728⟩ hA725; clear hA723 hS717 a722
    refine sts hA725 (op_store hS728 rfl ty_42 (hA725.ev rfl) (hA725.ev rfl) (i := 0) rfl (vs := [(Value.int .i64 0), (Value.int .i64 0)]) rfl rfl rfl (Nat.le_of_ble_eq_true rfl)) rfl rfl ?_
    intro _ w729 hS730 hA731; clear hA725
    have hS732 : Sep NoB w w729 [(blk b727 42 [(Value.int .i64 0), (Value.int .i64 0)]), (row v712 67 3 plan.length (trips plan)), (runsR true v702 lv703 rs2), (row u694 42 2 R.length (pairs R)), (blk b678 42 [(Value.int .i64 0), (Value.int .i64 0)]), (row v663 67 3 plan.length (trips plan)), (runsR true v653 lv654 rs), (row u645 42 2 R.length (pairs R)), (runsR true v616 lv617 rs2), (row u608 42 2 R.length (pairs R)), (runsR true v579 lv580 rs), (row u571 42 2 R.length (pairs R)), (runsR false v44 (lv.set kk (vs523 13)) rs2), (blk b4 24 [vr]), (sl vr 2 R.length (pairs R)), (runsR false vu lv rs), (sl vp 3 plan.length (trips plan))] := hS730; clear hS730 hS728
    refine st hA731 (op_assign rfl (hA731.ev rfl)) rfl rfl (by decide) fun a733 hA734 => ?_; clear hA731 a724
    refine wl_nil ?_
    refine then_n ?_
    refine c_seq ?_
    refine c_seq ?_
    have hA735 := hA734.as [(29, (Value.int .i64 (planF R rs2 plan))), (28, (bptr b727 0)), (27, (Value.int .i64 (planF R rs plan))), (26, (bptr b678 0)), (25, (Value.int .i64 (possF R rs2))), (24, (Value.int .i64 0)), (23, (Value.slice none 0 0)), (22, (Value.int .i64 (possF R rs))), (21, (Value.int .i64 0)), (20, (Value.slice none 0 0))] rfl; clear hA734
    refine c_region ?_
    refine st hA735 (op_move rfl (hA735.ev rfl)) rfl rfl (by decide) fun a736 hA737 => ?_; clear hA735 a733
    refine st hA737 (op_move rfl (hA737.ev rfl)) rfl rfl (by decide) fun a738 hA739 => ?_; clear hA737 a736
    refine st hA739 (op_neq rfl (hA739.ev rfl) (hA739.ev rfl)) rfl rfl (by decide) fun a740 hA741 => ?_; clear hA739 a738
    have hd742 : (possF R rs) = (possF R rs2) := (by omega)
    rw [decide_eq_true hd742] at hA741
    refine st hA741 (op_move rfl (hA741.ev rfl)) rfl rfl (by decide) fun a743 hA744 => ?_; clear hA741 a740
    refine stg hA744 (op_move rfl (hA744.ev rfl)) rfl rfl rfl rfl (by decide) fun a745 hA746 => ?_; clear hA744 a743
    refine stg hA746 (op_move rfl (hA746.ev rfl)) rfl rfl rfl rfl (by decide) fun a747 hA748 => ?_; clear hA746 a745
    refine stg hA748 (op_neq rfl (hA748.ev rfl) (hA748.ev rfl)) rfl rfl rfl rfl (by decide) fun a749 hA750 => ?_; clear hA748 a747
    have hd751 : (planF R rs plan) = (planF R rs2 plan) := (by omega)
    rw [decide_eq_true hd751] at hA750
    refine st hA750 (op_pick_f rfl (hA750.ev rfl) (hA750.ev rfl)) rfl rfl (by decide) fun a752 hA753 => ?_; clear hA750 a749
    refine st hA753 (op_move rfl (hA753.ev rfl)) rfl rfl (by decide) fun a754 hA755 => ?_; clear hA753 a752
    refine stg hA755 (op_move rfl (hA755.ev rfl)) rfl rfl rfl rfl (by decide) fun a756 hA757 => ?_; clear hA755 a754
    refine stg hA757 (op_move rfl (hA757.ev rfl)) rfl rfl rfl rfl (by decide) fun a758 hA759 => ?_; clear hA757 a756
    refine stg hA759 (op_neq rfl (hA759.ev rfl) (hA759.ev rfl)) rfl rfl rfl rfl (by decide) fun a760 hA761 => ?_; clear hA759 a758
    have hd762 : (possF R rs) = (planF R rs plan) := (by omega)
    rw [decide_eq_true hd762] at hA761
    refine st hA761 (op_pick_f rfl (hA761.ev rfl) (hA761.ev rfl)) rfl rfl (by decide) fun a763 hA764 => ?_; clear hA761 a760
    refine st hA764 (op_move rfl (hA764.ev rfl)) rfl rfl (by decide) fun a765 hA766 => ?_; clear hA764 a763
    refine stg hA766 (op_move rfl (hA766.ev rfl)) rfl rfl rfl rfl (by decide) fun a767 hA768 => ?_; clear hA766 a765
    refine stg hA768 (op_move rfl (hA768.ev rfl)) rfl rfl rfl rfl (by decide) fun a769 hA770 => ?_; clear hA768 a767
    refine stg hA770 (op_neq rfl (hA770.ev rfl) (hA770.ev rfl)) rfl rfl rfl rfl (by decide) fun a771 hA772 => ?_; clear hA770 a769
    refine st hA772 (op_pick_f rfl (hA772.ev rfl) (hA772.ev rfl)) rfl rfl (by decide) fun a773 hA774 => ?_; clear hA772 a771
    refine st hA774 (op_move rfl (hA774.ev rfl)) rfl rfl (by decide) fun a775 hA776 => ?_; clear hA774 a773
    refine stg hA776 (op_loadA rfl ty_42 (hA776.ev rfl) (hS732.bk 4 rfl) (l := [(Value.int .i64 0), (Value.int .i64 0)]) rfl rfl) rfl rfl rfl rfl (by decide) fun a777 hA778 => ?_; clear hA776 a775
    refine stg hA778 (op_loadA rfl ty_42 (hA778.ev rfl) (hS732.bk 0 rfl) (l := [(Value.int .i64 0), (Value.int .i64 0)]) rfl rfl) rfl rfl rfl rfl (by decide) fun a779 hA780 => ?_; clear hA778 a777
    refine stg hA780 (op_neqP tw_42 rfl (hA780.ev rfl) (hA780.ev rfl)) rfl rfl rfl rfl (by decide) fun a781 hA782 => ?_; clear hA780 a779
    have hd783 : (decide ((0 : Int) = 0) && decide ((0 : Int) = 0)) = true := by simp only [decide_true, Bool.and_self]
    rw [hd783] at hA782
    have hq784 := hd783; simp only [Bool.and_eq_true, Bool.and_eq_false_iff, decide_eq_true_eq, decide_eq_false_iff_not] at hq784
    refine st hA782 (op_pick_f rfl (hA782.ev rfl) (hA782.ev rfl)) rfl rfl (by decide) fun a785 hA786 => ?_; clear hA782 a781
    refine st hA786 (op_move rfl (hA786.ev rfl)) rfl rfl (by decide) fun a787 hA788 => ?_; clear hA786 a785
    refine stg hA788 (op_move rfl (hA788.ev rfl)) rfl rfl rfl rfl (by decide) fun a789 hA790 => ?_; clear hA788 a787
    refine stg hA790 (op_len rfl un_28 (hA790.ev rfl)) rfl rfl rfl rfl (by decide) fun a791 hA792 => ?_; clear hA790 a789
    refine stg hA792 (op_move rfl (hA792.ev rfl)) rfl rfl rfl rfl (by decide) fun a793 hA794 => ?_; clear hA792 a791
    refine stg hA794 (op_len rfl un_28 (hA794.ev rfl)) rfl rfl rfl rfl (by decide) fun a795 hA796 => ?_; clear hA794 a793
    refine stg hA796 (op_neq rfl (hA796.ev rfl) (hA796.ev rfl)) rfl rfl rfl rfl (by decide) fun a797 hA798 => ?_; clear hA796 a795
    have hd799 : ((0 : Nat) : Int) = ((0 : Nat) : Int) := rfl
    rw [decide_eq_true hd799] at hA798
    refine st hA798 (op_pick_f rfl (hA798.ev rfl) (hA798.ev rfl)) rfl rfl (by decide) fun a800 hA801 => ?_; clear hA798 a797
    refine wl_nil ?_
    refine then_n ?_
    refine c_false hA801 rfl ?_
    refine c_skip ?_
    refine then_n ?_
    refine c_seq ?_
    refine c_seq ?_
    have hA802 := hA801.as [(23, (Value.slice none 0 0)), (20, (Value.slice none 0 0))] rfl; clear hA801
    refine c_region ?_
    refine st hA802 (op_assign rfl (evc _ _)) rfl rfl (by decide) fun a803 hA804 => ?_; clear hA802 a800
    refine wl_nil ?_
    refine then_n ?_
    refine c_block ?_
    have hA805 := hA804.as [(30, (Value.int .i64 0)), (23, (Value.slice none 0 0)), (20, (Value.slice none 0 0))] rfl; clear hA804
    refine c_loop (G := Nat) (fun (k : Nat) a_ w_ => Fr 241 [] [(30, (Value.int .i64 (k : Int))), (23, (Value.slice none 0 0)), (20, (Value.slice none 0 0))] a_ ∧ Sep NoB w w_ [(blk b727 42 [(Value.int .i64 0), (Value.int .i64 0)]), (row v712 67 3 plan.length (trips plan)), (runsR true v702 lv703 rs2), (row u694 42 2 R.length (pairs R)), (blk b678 42 [(Value.int .i64 0), (Value.int .i64 0)]), (row v663 67 3 plan.length (trips plan)), (runsR true v653 lv654 rs), (row u645 42 2 R.length (pairs R)), (runsR true v616 lv617 rs2), (row u608 42 2 R.length (pairs R)), (runsR true v579 lv580 rs), (row u571 42 2 R.length (pairs R)), (runsR false v44 (lv.set kk (vs523 13)) rs2), (blk b4 24 [vr]), (sl vr 2 R.length (pairs R)), (runsR false vu lv rs), (sl vp 3 plan.length (trips plan))] ∧ (k = 0)) (fun k => 0 - k) 0 ⟨hA805.as _ rfl, hS732, rfl⟩ ?_
    clear hA805 hS732 a803
    rintro k a806 w808 ⟨hA807, hS809, hk⟩
    refine c_seq ?_
    refine c_seq ?_
    refine c_region ?_
    refine st hA807 (op_move rfl (hA807.ev rfl)) rfl rfl (by decide) fun a810 hA811 => ?_; clear hA807 a806
    refine st hA811 (op_move rfl (hA811.ev rfl)) rfl rfl (by decide) fun a812 hA813 => ?_; clear hA811 a810
    refine st hA813 (op_len rfl un_28 (hA813.ev rfl)) rfl rfl (by decide) fun a814 hA815 => ?_; clear hA813 a812
    refine st hA815 (op_lss rfl (hA815.ev rfl) (hA815.ev rfl)) rfl rfl (by decide) fun a816 hA817 => ?_; clear hA815 a814
    have hd818 : ¬ ((k : Int) < ((0 : Nat) : Int)) := (by omega)
    rw [decide_eq_false hd818] at hA817
    refine wl_nil ?_
    refine then_n ?_
    refine c_false hA817 rfl ?_
    refine c_exit ?_
    refine then_exit ?_
    refine then_exit ?_
    refine blk_hit ?_
    refine then_n ?_
    refine c_seq ?_
    have hA819 := hA817.as [] rfl; clear hA817
    refine c_region ?_
    refine stw hA819 (op_call rfl en_17 ev0 (awake_ok _)) rfl rfl (by decide) ?_
    rintro a820 _ w822 ⟨rfl, hE823⟩ hA821; have hS824 := hS809.step hE823; clear hE823 hA819 hS809 a816
    refine st hA821 (op_assign rfl (hA821.ev rfl)) rfl rfl (by decide) fun a825 hA826 => ?_; clear hA821 a820
    refine wl_nil ?_
    refine then_n ?_
    refine c_ret ?_
    refine fin_run hA826 (.inl rfl) (run_results1 hA826 rfl (.tmp rfl)) ?_
    exact ⟨rfl, hS824.ext⟩
   ·skip
    rw [hb563] at hA562
    refine c_true hA562 rfl ?_
    refine c_seq ?_
    have hA827 := hA562.as [] rfl; clear hA562
    refine c_region ?_
    refine stw hA827 (op_call rfl en_17 ev0 (awake_ok _)) rfl rfl (by decide) ?_
    rintro a828 _ w830 ⟨rfl, hE831⟩ hA829; have hS832 := hS560.step hE831; clear hE831 hA827 hS560 a561
    refine st hA829 (op_assign rfl (hA829.ev rfl)) rfl rfl (by decide) fun a833 hA834 => ?_; clear hA829 a828
    refine wl_nil ?_
    refine then_n ?_
    refine c_ret ?_
    refine then_ret ?_
    refine fin_run hA834 (.inl rfl) (run_results1 hA834 rfl (.tmp rfl)) ?_
    exact ⟨rfl, hS832.ext⟩
