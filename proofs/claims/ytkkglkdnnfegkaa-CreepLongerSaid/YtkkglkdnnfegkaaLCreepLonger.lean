/-
  Walks through the functions of the seat, printed by a program of ours (gowalk), a theorem a function: what the call returns and what it leaves in memory.
-/
import Derived.Test.YtkkglkdnnfegkaaBd
import Derived.Test.YtkkglkdnnfegkaaEnga
set_option linter.unusedSimpArgs false
set_option linter.unusedVariables false
namespace Go.Proofs.Ytkkglkdnnfegkaa
open Go.RowKit Go.Shelf Go.Eng
set_option maxHeartbeats 4000000 in
theorem CreepLonger_a (w : World) (R : List (Int × Int)) (vr : Value) (hm : SlAt w vr 2 R.length (pairs R)) (rs : List RunD) (lv : List Value) (vu : Value) (hx : RunsAt w vu lv rs) (plan : List Seg) (vp : Value) (hp : SlAt w vp 3 plan.length (trips plan)) (wh y : Int) (hB : 0 ≤ wh ∧ wh ≤ 255) (hy : 0 ≤ y ∧ y ≤ 65535) (hf : readyB R rs plan = false) :
  Calls Try.prog 7 #[(Value.agg #[vr]), vu, vp, (Value.int .u8 wh), (Value.int .u16 y)] w (Ret fun v w' => v = .bool true ∧ Ext NoB w w') := by
 refine calls_enter Try.func7 rfl fun a0 hA0 => ?_
 replace hA0 : Fr 229 [] [(0, (Value.agg #[vr])), (1, vu), (2, vp), (3, (Value.int .u8 wh)), (4, (Value.int .u16 y))] a0 := hA0
 have hS0 : Sep NoB w w [(sl vr 2 R.length (pairs R)), (runsR false vu lv rs), (sl vp 3 plan.length (trips plan))] := sep_ro ⟨rfl, hm, rfl, hx, rfl, hp, trivial⟩
 refine c_seq ?_
 refine c_region ?_
 refine stw hA0 (op_box hS0 rfl (hA0.ev rfl) (cs := [vr]) rfl) rfl rfl (by decide) ?_
 rintro a1 _ w3 ⟨b4, rfl, hS5⟩ hA2; clear hA0 hS0 a0
 refine st hA2 (op_assign rfl (evc _ _)) rfl rfl (by decide) fun a6 hA7 => ?_; clear hA2 a1
 refine wl_nil ?_
 refine then_n ?_
 refine c_seq ?_
 refine c_seq ?_
 refine c_region ?_
 refine st hA7 (op_loadA rfl ty_24 (hA7.ev rfl) (hS5.bk 0 rfl) (l := [vr]) rfl rfl) rfl rfl (by decide) fun a8 hA9 => ?_; clear hA7 a6
 refine st hA9 (op_move rfl (hA9.ev rfl)) rfl rfl (by decide) fun a10 hA11 => ?_; clear hA9 a8
 refine st hA11 (op_move rfl (hA11.ev rfl)) rfl rfl (by decide) fun a12 hA13 => ?_; clear hA11 a10
 refine stw hA13 (op_call rfl en_27 (ev3 (hA13.ev rfl) (hA13.ev rfl) (hA13.ev rfl)) (ready_ok _ R _ (hS5.sk 1 rfl) rs _ _ (runs_at (hS5.ok 2 _ rfl)) plan _ (hS5.sk 3 rfl))) rfl rfl (by decide) ?_
 rintro a14 _ w16 ⟨rfl, hE17⟩ hA15; have hS18 := hS5.step hE17; clear hE17 hA13 hS5 a12
 rw [hf] at hA15
 refine st hA15 (op_not rfl (hA15.ev rfl)) rfl rfl (by decide) fun a19 hA20 => ?_; clear hA15 a14
 refine st hA20 (op_move rfl (hA20.ev rfl)) rfl rfl (by decide) fun a21 hA22 => ?_; clear hA20 a19
 refine skp hA22 rfl rfl rfl rfl rfl (by decide) fun a23 hA24 => ?_; clear hA22 a21
 refine skp hA24 rfl rfl rfl rfl rfl (by decide) fun a25 hA26 => ?_; clear hA24 a23
 refine skp hA26 rfl rfl rfl rfl rfl (by decide) fun a27 hA28 => ?_; clear hA26 a25
 refine st hA28 (op_pick_t rfl (hA28.ev rfl) (evc _ _)) rfl rfl (by decide) fun a29 hA30 => ?_; clear hA28 a27
 refine wl_nil ?_
 refine then_n ?_
 refine c_true hA30 rfl ?_
 refine c_seq ?_
 have hA31 := hA30.as [] rfl; clear hA30
 refine c_region ?_
 refine stw hA31 (op_call rfl en_17 ev0 (awake_ok _)) rfl rfl (by decide) ?_
 rintro a32 _ w34 ⟨rfl, hE35⟩ hA33; have hS36 := hS18.step hE35; clear hE35 hA31 hS18 a29
 refine st hA33 (op_assign rfl (hA33.ev rfl)) rfl rfl (by decide) fun a37 hA38 => ?_; clear hA33 a32
 refine wl_nil ?_
 refine then_n ?_
 refine c_ret ?_
 refine then_ret ?_
 refine fin_run hA38 (.inl rfl) (run_results1 hA38 rfl (.tmp rfl)) ?_
 exact ⟨rfl, hS36.ext⟩
set_option maxHeartbeats 4000000 in
theorem CreepLonger_z (w : World) (R : List (Int × Int)) (vr : Value) (hm : SlAt w vr 2 R.length (pairs R)) (rs : List RunD) (lv : List Value) (vu : Value) (hx : RunsAt w vu lv rs) (plan : List Seg) (vp : Value) (hp : SlAt w vp 3 plan.length (trips plan)) (wh y : Int) (hB : 0 ≤ wh ∧ wh ≤ 255) (hy : 0 ≤ y ∧ y ≤ 65535) (hf : readyB R rs plan = true) (h0 : plan.length = 0) :
  Calls Try.prog 7 #[(Value.agg #[vr]), vu, vp, (Value.int .u8 wh), (Value.int .u16 y)] w (Ret fun v w' => v = .bool true ∧ Ext NoB w w') := by
 refine calls_enter Try.func7 rfl fun a0 hA0 => ?_
 replace hA0 : Fr 229 [] [(0, (Value.agg #[vr])), (1, vu), (2, vp), (3, (Value.int .u8 wh)), (4, (Value.int .u16 y))] a0 := hA0
 have hS0 : Sep NoB w w [(sl vr 2 R.length (pairs R)), (runsR false vu lv rs), (sl vp 3 plan.length (trips plan))] := sep_ro ⟨rfl, hm, rfl, hx, rfl, hp, trivial⟩
 refine c_seq ?_
 refine c_region ?_
 refine stw hA0 (op_box hS0 rfl (hA0.ev rfl) (cs := [vr]) rfl) rfl rfl (by decide) ?_
 rintro a1 _ w3 ⟨b4, rfl, hS5⟩ hA2; clear hA0 hS0 a0
 refine st hA2 (op_assign rfl (evc _ _)) rfl rfl (by decide) fun a6 hA7 => ?_; clear hA2 a1
 refine wl_nil ?_
 refine then_n ?_
 refine c_seq ?_
 refine c_seq ?_
 refine c_region ?_
 refine st hA7 (op_loadA rfl ty_24 (hA7.ev rfl) (hS5.bk 0 rfl) (l := [vr]) rfl rfl) rfl rfl (by decide) fun a8 hA9 => ?_; clear hA7 a6
 refine st hA9 (op_move rfl (hA9.ev rfl)) rfl rfl (by decide) fun a10 hA11 => ?_; clear hA9 a8
 refine st hA11 (op_move rfl (hA11.ev rfl)) rfl rfl (by decide) fun a12 hA13 => ?_; clear hA11 a10
 refine stw hA13 (op_call rfl en_27 (ev3 (hA13.ev rfl) (hA13.ev rfl) (hA13.ev rfl)) (ready_ok _ R _ (hS5.sk 1 rfl) rs _ _ (runs_at (hS5.ok 2 _ rfl)) plan _ (hS5.sk 3 rfl))) rfl rfl (by decide) ?_
 rintro a14 _ w16 ⟨rfl, hE17⟩ hA15; have hS18 := hS5.step hE17; clear hE17 hA13 hS5 a12
 rw [hf] at hA15
 refine st hA15 (op_not rfl (hA15.ev rfl)) rfl rfl (by decide) fun a19 hA20 => ?_; clear hA15 a14
 refine st hA20 (op_move rfl (hA20.ev rfl)) rfl rfl (by decide) fun a21 hA22 => ?_; clear hA20 a19
 refine stg hA22 (op_move rfl (hA22.ev rfl)) rfl rfl rfl rfl (by decide) fun a23 hA24 => ?_; clear hA22 a21
 refine stg hA24 (op_lenS rfl un_51 (hA24.ev rfl) (hS18.sk 3 rfl)) rfl rfl rfl rfl (by decide) fun a25 hA26 => ?_; clear hA24 a23
 refine stg hA26 (op_eql rfl (hA26.ev rfl) (evc _ _)) rfl rfl rfl rfl (by decide) fun a27 hA28 => ?_; clear hA26 a25
 have hd29 : (plan.length : Int) = 0 := (by omega)
 rw [decide_eq_true hd29] at hA28
 refine st hA28 (op_pick_f rfl (hA28.ev rfl) (hA28.ev rfl)) rfl rfl (by decide) fun a30 hA31 => ?_; clear hA28 a27
 refine wl_nil ?_
 refine then_n ?_
 refine c_true hA31 rfl ?_
 refine c_seq ?_
 have hA32 := hA31.as [] rfl; clear hA31
 refine c_region ?_
 refine stw hA32 (op_call rfl en_17 ev0 (awake_ok _)) rfl rfl (by decide) ?_
 rintro a33 _ w35 ⟨rfl, hE36⟩ hA34; have hS37 := hS18.step hE36; clear hE36 hA32 hS18 a30
 refine st hA34 (op_assign rfl (hA34.ev rfl)) rfl rfl (by decide) fun a38 hA39 => ?_; clear hA34 a33
 refine wl_nil ?_
 refine then_n ?_
 refine c_ret ?_
 refine then_ret ?_
 refine fin_run hA39 (.inl rfl) (run_results1 hA39 rfl (.tmp rfl)) ?_
 exact ⟨rfl, hS37.ext⟩
set_option maxHeartbeats 4000000 in
theorem CreepLonger_b (w : World) (R : List (Int × Int)) (vr : Value) (hm : SlAt w vr 2 R.length (pairs R)) (rs : List RunD) (lv : List Value) (vu : Value) (hx : RunsAt w vu lv rs) (plan : List Seg) (vp : Value) (hp : SlAt w vp 3 plan.length (trips plan)) (wh y : Int) (hB : 0 ≤ wh ∧ wh ≤ 255) (hy : 0 ≤ y ∧ y ≤ 65535) (hf : readyB R rs plan = true) (h0 : 0 < plan.length) (hc : possF R rs = 9) :
  Calls Try.prog 7 #[(Value.agg #[vr]), vu, vp, (Value.int .u8 wh), (Value.int .u16 y)] w (Ret fun v w' => v = .bool true ∧ Ext NoB w w') := by
 refine calls_enter Try.func7 rfl fun a0 hA0 => ?_
 replace hA0 : Fr 229 [] [(0, (Value.agg #[vr])), (1, vu), (2, vp), (3, (Value.int .u8 wh)), (4, (Value.int .u16 y))] a0 := hA0
 have hrd := ready_is hf; have hth := hrd.1; have he := hrd.2.1; have h6 := hth.mat; have h9 := hth.runs; have h12 := hth.plan; have hp8 := hrd.2.2.1; have hsb := hrd.2.2.2; have hcm := check_mat (enter_mat he); have hR := hcm.1; have hR1 := hcm.2.1; have hR3 := hR.1; have hV := enter_runs he; have hs : ∀ i, i < plan.length → SegV R.length (plan.getD i (0, 0, 0)) := fun i hi => segV_of (List.all_eq_true.1 hsb i (List.mem_range.2 hi)); have hrt := ratesF_len R rs; have hle := allowed_le (rs := rs) hR; have hl9 : ∀ p : List Seg, planF R rs p = 9 := fun p => (plan_p (by rw [hc]; decide)).trans hc; have hlz : ∀ p : List Seg, planF R rs p ≠ 0 := fun p => by rw [hl9]; decide
 have hS0 : Sep NoB w w [(sl vr 2 R.length (pairs R)), (runsR false vu lv rs), (sl vp 3 plan.length (trips plan))] := sep_ro ⟨rfl, hm, rfl, hx, rfl, hp, trivial⟩
 refine c_seq ?_
 refine c_region ?_
 refine stw hA0 (op_box hS0 rfl (hA0.ev rfl) (cs := [vr]) rfl) rfl rfl (by decide) ?_
 rintro a1 _ w3 ⟨b4, rfl, hS5⟩ hA2; clear hA0 hS0 a0
 refine st hA2 (op_assign rfl (evc _ _)) rfl rfl (by decide) fun a6 hA7 => ?_; clear hA2 a1
 refine wl_nil ?_
 refine then_n ?_
 refine c_seq ?_
 refine c_seq ?_
 refine c_region ?_
 refine st hA7 (op_loadA rfl ty_24 (hA7.ev rfl) (hS5.bk 0 rfl) (l := [vr]) rfl rfl) rfl rfl (by decide) fun a8 hA9 => ?_; clear hA7 a6
 refine st hA9 (op_move rfl (hA9.ev rfl)) rfl rfl (by decide) fun a10 hA11 => ?_; clear hA9 a8
 refine st hA11 (op_move rfl (hA11.ev rfl)) rfl rfl (by decide) fun a12 hA13 => ?_; clear hA11 a10
 refine stw hA13 (op_call rfl en_27 (ev3 (hA13.ev rfl) (hA13.ev rfl) (hA13.ev rfl)) (ready_ok _ R _ (hS5.sk 1 rfl) rs _ _ (runs_at (hS5.ok 2 _ rfl)) plan _ (hS5.sk 3 rfl))) rfl rfl (by decide) ?_
 rintro a14 _ w16 ⟨rfl, hE17⟩ hA15; have hS18 := hS5.step hE17; clear hE17 hA13 hS5 a12
 rw [hf] at hA15
 refine st hA15 (op_not rfl (hA15.ev rfl)) rfl rfl (by decide) fun a19 hA20 => ?_; clear hA15 a14
 refine st hA20 (op_move rfl (hA20.ev rfl)) rfl rfl (by decide) fun a21 hA22 => ?_; clear hA20 a19
 refine stg hA22 (op_move rfl (hA22.ev rfl)) rfl rfl rfl rfl (by decide) fun a23 hA24 => ?_; clear hA22 a21
 refine stg hA24 (op_lenS rfl un_51 (hA24.ev rfl) (hS18.sk 3 rfl)) rfl rfl rfl rfl (by decide) fun a25 hA26 => ?_; clear hA24 a23
 refine stg hA26 (op_eql rfl (hA26.ev rfl) (evc _ _)) rfl rfl rfl rfl (by decide) fun a27 hA28 => ?_; clear hA26 a25
 have hd29 : ¬ ((plan.length : Int) = 0) := (by omega)
 rw [decide_eq_false hd29] at hA28
 refine st hA28 (op_pick_f rfl (hA28.ev rfl) (hA28.ev rfl)) rfl rfl (by decide) fun a30 hA31 => ?_; clear hA28 a27
 refine wl_nil ?_
 refine then_n ?_
 refine c_false hA31 rfl ?_
 refine c_skip ?_
 refine then_n ?_
 refine c_seq ?_
 have hA32 := hA31.as [(5, (bptr b4 0)), (1, vu), (2, vp), (3, (Value.int .u8 wh)), (4, (Value.int .u16 y))] rfl; clear hA31
 refine c_region ?_
 refine st hA32 (op_move rfl (hA32.ev rfl)) rfl rfl (by decide) fun a33 hA34 => ?_; clear hA32 a30
 refine st hA34 (op_conv un_5 un_3 rfl (hA34.ev rfl) (v := wh) (wrap_i64 (by omega) (by omega))) rfl rfl (by decide) fun a35 hA36 => ?_; clear hA34 a33
 refine st hA36 (op_move rfl (hA36.ev rfl)) rfl rfl (by decide) fun a37 hA38 => ?_; clear hA36 a35
 refine st hA38 (op_lenS rfl un_51 (hA38.ev rfl) (hS18.sk 3 rfl)) rfl rfl (by decide) fun a39 hA40 => ?_; clear hA38 a37
 refine st hA40 (op_rem rfl (hA40.ev rfl) (hA40.ev rfl) (by omega)) rfl rfl (by decide) fun a41 hA42 => ?_; clear hA40 a39
 refine st hA42 (op_assign rfl (hA42.ev rfl)) rfl rfl (by decide) fun a43 hA44 => ?_; clear hA42 a41
 refine wl_nil ?_
 refine then_n ?_
 refine c_seq ?_
 have hA45 := hA44.as [(11, (Value.int .i64 ((wh).tmod (plan.length : Int)))), (5, (bptr b4 0)), (1, vu), (2, vp), (4, (Value.int .u16 y))] rfl; clear hA44
 obtain ⟨kk, hz_kk, hb_kk⟩ := rem_nat (n := wh) (m := plan.length) hB.1 (by omega); rw [hz_kk] at hA45
 have hsk := hs kk hb_kk; have hskb := hsk.b; have hskh := hsk.h; have hyd : y.tdiv 2 = y / 2 := Int.tdiv_eq_ediv_of_nonneg hy.1; have hl1 := long1_f (plan := plan) (y := y) hb_kk; have hln := longF_len plan kk y; have hl1n := long1_len plan kk y; have hhn := hotF_len plan R.length kk
 refine c_region ?_
 refine stw hA45 (op_buildSlice hS18 rfl pv0 un_51 ty_56 ze_56 (by decide) (cs := []) bs_56_0_) rfl rfl (by decide) ?_
 rintro a46 _ w48 ⟨b49, rfl, hS50⟩ hA47; clear hA45 hS18 a43
 refine st hA47 (op_move rfl (hA47.ev rfl)) rfl rfl (by decide) fun a51 hA52 => ?_; clear hA47 a46
 have hS53 := hS50.blk_row (i := 0) (sz := 3) (n := 0) rfl rfl (by decide); clear hS50
 refine stw hA52 (op_append hS53 rfl un_51 el_56 (hA52.ev rfl) (hA52.ev rfl) (i := 0) rfl (hS53.sk 4 rfl) (trips_one _) (by simp only [maxLen]; omega) (by omega)) rfl rfl (by decide) ?_
 intro a54 v57 w56 hS58 hA55
 have hS59 := hS58.row_say (i := 0) rfl (n' := plan.length) (xs' := (trips plan)) (by simp) (by simp); clear hS58 hA52 hS53 a51
 refine stw hA55 (op_buildSlice hS59 rfl pv0 un_51 ty_56 ze_56 (by decide) (cs := []) bs_56_0_) rfl rfl (by decide) ?_
 rintro a60 _ w62 ⟨b63, rfl, hS64⟩ hA61; clear hA55 hS59 a54
 refine st hA61 (op_move rfl (hA61.ev rfl)) rfl rfl (by decide) fun a65 hA66 => ?_; clear hA61 a60
 have hS67 := hS64.blk_row (i := 0) (sz := 3) (n := 0) rfl rfl (by decide); clear hS64
 refine stw hA66 (op_append hS67 rfl un_51 el_56 (hA66.ev rfl) (hA66.ev rfl) (i := 0) rfl (hS67.sk 5 rfl) (trips_one _) (by simp only [maxLen]; omega) (by omega)) rfl rfl (by decide) ?_
 intro a68 v71 w70 hS72 hA69
 have hS73 := hS72.row_say (i := 0) rfl (n' := plan.length) (xs' := (trips plan)) (by simp) (by simp); clear hS72 hA66 hS67 a65
 refine st hA69 (op_assign rfl (hA69.ev rfl)) rfl rfl (by decide) fun a74 hA75 => ?_; clear hA69 a68
 refine st hA75 (op_assign rfl (hA75.ev rfl)) rfl rfl (by decide) fun a76 hA77 => ?_; clear hA75 a74
 refine wl_nil ?_
 refine then_n ?_
 refine c_seq ?_
 have hA78 := hA77.as [(13, v71), (12, v57), (11, (Value.int .i64 (kk : Int))), (5, (bptr b4 0)), (1, vu), (2, vp), (4, (Value.int .u16 y))] rfl; clear hA77
 refine c_region ?_
 refine st hA78 (op_move rfl (hA78.ev rfl)) rfl rfl (by decide) fun a79 hA80 => ?_; clear hA78 a76
 refine st hA80 (op_move rfl (hA80.ev rfl)) rfl rfl (by decide) fun a81 hA82 => ?_; clear hA80 a79
 refine st hA82 (op_move rfl (hA82.ev rfl)) rfl rfl (by decide) fun a83 hA84 => ?_; clear hA82 a81
 refine st hA84 (op_move rfl (hA84.ev rfl)) rfl rfl (by decide) fun a85 hA86 => ?_; clear hA84 a83
 refine st hA86 (op_indexS rfl un_51 ty_56 (hA86.ev rfl) (i := kk) (hA86.ev rfl) (SlAt.of_row (hS73.ok_row 1 rfl)) (by decide) (by omega)) rfl rfl (by decide) fun a87 hA88 => ?_; clear hA86 a85
 refine st hA88 (op_fieldS rfl fd_56_1 (hA88.ev rfl) (SlAt.of_row (hS73.ok_row 1 rfl)) (by rw [((SlAt.of_row (hS73.ok_row 1 rfl))).1]; omega)) rfl rfl (by decide) fun a89 hA90 => ?_; clear hA88 a87
 refine st hA90 (op_fieldS rfl fd_48_1 (hA90.ev rfl) (SlAt.of_row (hS73.ok_row 1 rfl)) (by rw [((SlAt.of_row (hS73.ok_row 1 rfl))).1]; omega)) rfl rfl (by decide) fun a91 hA92 => ?_; clear hA90 a89
 refine st hA92 (op_load1E rfl ty_3 (hA92.ev rfl) (SlAt.of_row (hS73.ok_row 1 rfl)) (trips_at2 (by omega))) rfl rfl (by decide) fun a93 hA94 => ?_; clear hA92 a91
 refine st hA94 (op_move rfl (hA94.ev rfl)) rfl rfl (by decide) fun a95 hA96 => ?_; clear hA94 a93
 refine st hA96 (op_conv un_52 un_3 rfl (hA96.ev rfl) (v := y) (wrap_i64 (by omega) (by omega))) rfl rfl (by decide) fun a97 hA98 => ?_; clear hA96 a95
 refine st hA98 (op_add rfl (hA98.ev rfl) (hA98.ev rfl) (by omega) (by omega)) rfl rfl (by decide) fun a99 hA100 => ?_; clear hA98 a97
 refine st hA100 (op_min rfl (evc _ _) (hA100.ev rfl)) rfl rfl (by decide) fun a101 hA102 => ?_; clear hA100 a99
 refine st hA102 (op_indexS rfl un_51 ty_56 (hA102.ev rfl) (i := kk) (hA102.ev rfl) (SlAt.of_row (hS73.ok_row 1 rfl)) (by decide) (by omega)) rfl rfl (by decide) fun a103 hA104 => ?_; clear hA102 a101
 refine st hA104 (op_fieldS rfl fd_56_1 (hA104.ev rfl) (SlAt.of_row (hS73.ok_row 1 rfl)) (by rw [((SlAt.of_row (hS73.ok_row 1 rfl))).1]; omega)) rfl rfl (by decide) fun a105 hA106 => ?_; clear hA104 a103
 refine st hA106 (op_fieldS rfl fd_48_1 (hA106.ev rfl) (SlAt.of_row (hS73.ok_row 1 rfl)) (by rw [((SlAt.of_row (hS73.ok_row 1 rfl))).1]; omega)) rfl rfl (by decide) fun a107 hA108 => ?_; clear hA106 a105
 refine sts hA108 (op_storeE hS73 rfl ty_3 (hA108.ev rfl) (hA108.ev rfl) (i := 1) rfl (vs := [(Value.int .i64 (min 1000000 (((plan.getD kk (0, 0, 0)).2.2) + y)))]) rfl rfl rfl (by simp only [trips_length, long1_len, longF_len, hotF_len]; omega) (by decide)) rfl rfl ?_
 intro _ w109 hS110 hA112; have hS111 := hS110.row_say (i := 1) rfl (n' := (plan.set kk ((plan.getD kk (0, 0, 0)).1, (plan.getD kk (0, 0, 0)).2.1, min 1000000 (((plan.getD kk (0, 0, 0)).2.2) + y))).length) (xs' := (trips (plan.set kk ((plan.getD kk (0, 0, 0)).1, (plan.getD kk (0, 0, 0)).2.1, min 1000000 (((plan.getD kk (0, 0, 0)).2.2) + y))))) (by simp only [List.length_set]) (trips_setAt _ _ (by omega) _).2.2; clear hS110 hA108 hS73
 refine wl_nil ?_
 refine then_n ?_
 refine c_seq ?_
 have hA113 := hA112.as [(13, v71), (12, v57), (11, (Value.int .i64 (kk : Int))), (5, (bptr b4 0)), (1, vu), (2, vp), (4, (Value.int .u16 y))] rfl; clear hA112
 have hS114 := hS111.row_say (i := 1) rfl (n' := (long1 plan kk y).length) (xs' := (trips (long1 plan kk y))) rfl rfl; clear hS111
 have hA115 := hA113.as [(13, v71), (12, v57), (11, (Value.int .i64 (kk : Int))), (5, (bptr b4 0)), (1, vu), (2, vp), (4, (Value.int .u16 y))] rfl; clear hA113
 refine c_drawV mixed hA115 hS114 19 [[], [], [], [], [2, 3], [4], [5], [6], [], [], [8, 9], [10], [11], [12], [], [14], [15], [13, 16], [7, 17]] [(fun (vs116 : Nat → Value) (v_ : Value) (rs_ : List Res) => v_ = v57 ∧ rs_ = []), (fun (vs116 : Nat → Value) (v_ : Value) (rs_ : List Res) => v_ = (Value.int .i64 (kk : Int)) ∧ rs_ = []), (fun (vs116 : Nat → Value) (v_ : Value) (rs_ : List Res) => v_ = v57 ∧ rs_ = []), (fun (vs116 : Nat → Value) (v_ : Value) (rs_ : List Res) => v_ = (Value.int .i64 (kk : Int)) ∧ rs_ = []), (fun (vs116 : Nat → Value) (v_ : Value) (rs_ : List Res) => v_ = (eptr v57 (kk * 3)) ∧ rs_ = []), (fun (vs116 : Nat → Value) (v_ : Value) (rs_ : List Res) => v_ = (eptr v57 (kk * 3 + 1)) ∧ rs_ = []), (fun (vs116 : Nat → Value) (v_ : Value) (rs_ : List Res) => v_ = (eptr v57 (kk * 3 + 1 + 1)) ∧ rs_ = []), (fun (vs116 : Nat → Value) (v_ : Value) (rs_ : List Res) => v_ = (Value.int .i64 (((long1 plan kk y).getD kk (0, 0, 0)).2.2)) ∧ rs_ = []), (fun (vs116 : Nat → Value) (v_ : Value) (rs_ : List Res) => v_ = v57 ∧ rs_ = []), (fun (vs116 : Nat → Value) (v_ : Value) (rs_ : List Res) => v_ = (Value.int .i64 (kk : Int)) ∧ rs_ = []), (fun (vs116 : Nat → Value) (v_ : Value) (rs_ : List Res) => v_ = (eptr v57 (kk * 3)) ∧ rs_ = []), (fun (vs116 : Nat → Value) (v_ : Value) (rs_ : List Res) => v_ = (eptr v57 (kk * 3 + 1)) ∧ rs_ = []), (fun (vs116 : Nat → Value) (v_ : Value) (rs_ : List Res) => v_ = (eptr v57 (kk * 3 + 1 + 0)) ∧ rs_ = []), (fun (vs116 : Nat → Value) (v_ : Value) (rs_ : List Res) => v_ = (Value.int .i64 (((long1 plan kk y).getD kk (0, 0, 0)).2.1)) ∧ rs_ = []), (fun (vs116 : Nat → Value) (v_ : Value) (rs_ : List Res) => v_ = (Value.int .u16 y) ∧ rs_ = []), (fun (vs116 : Nat → Value) (v_ : Value) (rs_ : List Res) => v_ = (Value.int .i64 y) ∧ rs_ = []), (fun (vs116 : Nat → Value) (v_ : Value) (rs_ : List Res) => v_ = (Value.int .i64 ((y).tdiv 2)) ∧ rs_ = []), (fun (vs116 : Nat → Value) (v_ : Value) (rs_ : List Res) => v_ = (Value.int .i64 ((((long1 plan kk y).getD kk (0, 0, 0)).2.1) + ((y).tdiv 2))) ∧ rs_ = []), (fun (vs116 : Nat → Value) (v_ : Value) (rs_ : List Res) => v_ = (Value.int .i64 (min (((long1 plan kk y).getD kk (0, 0, 0)).2.2) ((((long1 plan kk y).getD kk (0, 0, 0)).2.1) + ((y).tdiv 2)))) ∧ rs_ = [])] (by decide +kernel) (by decide +kernel) rfl rfl ⟨(fun _ _ _ _ _ h_ => h_), (fun _ _ _ _ _ h_ => h_), (fun _ _ _ _ _ h_ => h_), (fun _ _ _ _ _ h_ => h_), (fun _ _ _ _ _ h_ => h_), (fun _ _ _ _ _ h_ => h_), (fun _ _ _ _ _ h_ => h_), (fun _ _ _ _ _ h_ => h_), (fun _ _ _ _ _ h_ => h_), (fun _ _ _ _ _ h_ => h_), (fun _ _ _ _ _ h_ => h_), (fun _ _ _ _ _ h_ => h_), (fun _ _ _ _ _ h_ => h_), (fun _ _ _ _ _ h_ => h_), (fun _ _ _ _ _ h_ => h_), (fun _ _ _ _ _ h_ => h_), (fun _ _ _ _ _ h_ => h_), (fun _ _ _ _ _ h_ => h_), (fun _ _ _ _ _ h_ => h_), trivial⟩ ?_ ?_
 ·skip
  refine ⟨fun a w vs116 hA hS hd => ?_, ?_⟩
  ·skip
   exact opG_of rfl (vv (op_move rfl (hA.ev rfl)) (And.intro rfl rfl))
  refine ⟨fun a w vs116 hA hS hd => ?_, ?_⟩
  ·skip
   exact opG_of rfl (vv (op_move rfl (hA.ev rfl)) (And.intro rfl rfl))
  refine ⟨fun a w vs116 hA hS hd => ?_, ?_⟩
  ·skip
   exact opG_of rfl (vv (op_move rfl (hA.ev rfl)) (And.intro rfl rfl))
  refine ⟨fun a w vs116 hA hS hd => ?_, ?_⟩
  ·skip
   exact opG_of rfl (vv (op_move rfl (hA.ev rfl)) (And.intro rfl rfl))
  refine ⟨fun a w vs116 hA hS hd => ?_, ?_⟩
  ·skip
   obtain ⟨e2, rs2, hy2, hp2⟩ := hd 2 (by decide)
   obtain ⟨hv2, hr2⟩ := hy2; subst hr2
   rw [hv2] at e2
   obtain ⟨e3, rs3, hy3, hp3⟩ := hd 3 (by decide)
   obtain ⟨hv3, hr3⟩ := hy3; subst hr3
   rw [hv3] at e3
   exact opG_of rfl (vv (op_indexS rfl un_51 ty_56 (tmp_ev (slot_ev e2 rfl)) (i := kk) (tmp_ev (slot_ev e3 rfl)) (SlAt.of_row (hS.ok_row 1 rfl)) (by decide) (by omega)) (And.intro rfl rfl))
  refine ⟨fun a w vs116 hA hS hd => ?_, ?_⟩
  ·skip
   obtain ⟨e4, rs4, hy4, hp4⟩ := hd 4 (by decide)
   obtain ⟨hv4, hr4⟩ := hy4; subst hr4
   rw [hv4] at e4
   exact opG_of rfl (vv (op_fieldS rfl fd_56_1 (tmp_ev (slot_ev e4 rfl)) (SlAt.of_row (hS.ok_row 1 rfl)) (by rw [((SlAt.of_row (hS.ok_row 1 rfl))).1]; omega)) (And.intro rfl rfl))
  refine ⟨fun a w vs116 hA hS hd => ?_, ?_⟩
  ·skip
   obtain ⟨e5, rs5, hy5, hp5⟩ := hd 5 (by decide)
   obtain ⟨hv5, hr5⟩ := hy5; subst hr5
   rw [hv5] at e5
   exact opG_of rfl (vv (op_fieldS rfl fd_48_1 (tmp_ev (slot_ev e5 rfl)) (SlAt.of_row (hS.ok_row 1 rfl)) (by rw [((SlAt.of_row (hS.ok_row 1 rfl))).1]; omega)) (And.intro rfl rfl))
  refine ⟨fun a w vs116 hA hS hd => ?_, ?_⟩
  ·skip
   obtain ⟨e6, rs6, hy6, hp6⟩ := hd 6 (by decide)
   obtain ⟨hv6, hr6⟩ := hy6; subst hr6
   rw [hv6] at e6
   exact opG_of rfl (vv (op_load1E rfl ty_3 (tmp_ev (slot_ev e6 rfl)) (SlAt.of_row (hS.ok_row 1 rfl)) (trips_at2 (by omega))) (And.intro rfl rfl))
  refine ⟨fun a w vs116 hA hS hd => ?_, ?_⟩
  ·skip
   exact opG_of rfl (vv (op_move rfl (hA.ev rfl)) (And.intro rfl rfl))
  refine ⟨fun a w vs116 hA hS hd => ?_, ?_⟩
  ·skip
   exact opG_of rfl (vv (op_move rfl (hA.ev rfl)) (And.intro rfl rfl))
  refine ⟨fun a w vs116 hA hS hd => ?_, ?_⟩
  ·skip
   obtain ⟨e8, rs8, hy8, hp8⟩ := hd 8 (by decide)
   obtain ⟨hv8, hr8⟩ := hy8; subst hr8
   rw [hv8] at e8
   obtain ⟨e9, rs9, hy9, hp9⟩ := hd 9 (by decide)
   obtain ⟨hv9, hr9⟩ := hy9; subst hr9
   rw [hv9] at e9
   exact opG_of rfl (vv (op_indexS rfl un_51 ty_56 (tmp_ev (slot_ev e8 rfl)) (i := kk) (tmp_ev (slot_ev e9 rfl)) (SlAt.of_row (hS.ok_row 1 rfl)) (by decide) (by omega)) (And.intro rfl rfl))
  refine ⟨fun a w vs116 hA hS hd => ?_, ?_⟩
  ·skip
   obtain ⟨e10, rs10, hy10, hp10⟩ := hd 10 (by decide)
   obtain ⟨hv10, hr10⟩ := hy10; subst hr10
   rw [hv10] at e10
   exact opG_of rfl (vv (op_fieldS rfl fd_56_1 (tmp_ev (slot_ev e10 rfl)) (SlAt.of_row (hS.ok_row 1 rfl)) (by rw [((SlAt.of_row (hS.ok_row 1 rfl))).1]; omega)) (And.intro rfl rfl))
  refine ⟨fun a w vs116 hA hS hd => ?_, ?_⟩
  ·skip
   obtain ⟨e11, rs11, hy11, hp11⟩ := hd 11 (by decide)
   obtain ⟨hv11, hr11⟩ := hy11; subst hr11
   rw [hv11] at e11
   exact opG_of rfl (vv (op_fieldS rfl fd_48_0 (tmp_ev (slot_ev e11 rfl)) (SlAt.of_row (hS.ok_row 1 rfl)) (by rw [((SlAt.of_row (hS.ok_row 1 rfl))).1]; omega)) (And.intro rfl rfl))
  refine ⟨fun a w vs116 hA hS hd => ?_, ?_⟩
  ·skip
   obtain ⟨e12, rs12, hy12, hp12⟩ := hd 12 (by decide)
   obtain ⟨hv12, hr12⟩ := hy12; subst hr12
   rw [hv12] at e12
   exact opG_of rfl (vv (op_load1E rfl ty_3 (tmp_ev (slot_ev e12 rfl)) (SlAt.of_row (hS.ok_row 1 rfl)) (trips_at1 (by omega))) (And.intro rfl rfl))
  refine ⟨fun a w vs116 hA hS hd => ?_, ?_⟩
  ·skip
   exact opG_of rfl (vv (op_move rfl (hA.ev rfl)) (And.intro rfl rfl))
  refine ⟨fun a w vs116 hA hS hd => ?_, ?_⟩
  ·skip
   obtain ⟨e14, rs14, hy14, hp14⟩ := hd 14 (by decide)
   obtain ⟨hv14, hr14⟩ := hy14; subst hr14
   rw [hv14] at e14
   exact opG_of rfl (vv (op_conv un_52 un_3 rfl (tmp_ev (slot_ev e14 rfl)) (v := y) (wrap_i64 (by omega) (by omega))) (And.intro rfl rfl))
  refine ⟨fun a w vs116 hA hS hd => ?_, ?_⟩
  ·skip
   obtain ⟨e15, rs15, hy15, hp15⟩ := hd 15 (by decide)
   obtain ⟨hv15, hr15⟩ := hy15; subst hr15
   rw [hv15] at e15
   exact opG_of rfl (vv (op_quo rfl (tmp_ev (slot_ev e15 rfl)) (evc _ _) (by omega) (by omega) (by omega)) (And.intro rfl rfl))
  refine ⟨fun a w vs116 hA hS hd => ?_, ?_⟩
  ·skip
   obtain ⟨e13, rs13, hy13, hp13⟩ := hd 13 (by decide)
   obtain ⟨hv13, hr13⟩ := hy13; subst hr13
   rw [hv13] at e13
   obtain ⟨e16, rs16, hy16, hp16⟩ := hd 16 (by decide)
   obtain ⟨hv16, hr16⟩ := hy16; subst hr16
   rw [hv16] at e16
   exact opG_of rfl (vv (op_add rfl (tmp_ev (slot_ev e13 rfl)) (tmp_ev (slot_ev e16 rfl)) (by omega) (by omega)) (And.intro rfl rfl))
  refine ⟨fun a w vs116 hA hS hd => ?_, ?_⟩
  ·skip
   obtain ⟨e7, rs7, hy7, hp7⟩ := hd 7 (by decide)
   obtain ⟨hv7, hr7⟩ := hy7; subst hr7
   rw [hv7] at e7
   obtain ⟨e17, rs17, hy17, hp17⟩ := hd 17 (by decide)
   obtain ⟨hv17, hr17⟩ := hy17; subst hr17
   rw [hv17] at e17
   exact opG_of rfl (vv (op_min rfl (tmp_ev (slot_ev e7 rfl)) (tmp_ev (slot_ev e17 rfl))) (And.intro rfl rfl))
  trivial
 intro a117 w118 vs116 rsf122 hA119 hH121 hS120; clear hA115 hS114
 obtain ⟨hs_0, hy_0⟩ := hH121 0 (by decide)
 obtain ⟨hv_0, hr_0⟩ := hy_0
 obtain ⟨hs_1, hy_1⟩ := hH121 1 (by decide)
 obtain ⟨hv_1, hr_1⟩ := hy_1
 obtain ⟨hs_2, hy_2⟩ := hH121 2 (by decide)
 obtain ⟨hv_2, hr_2⟩ := hy_2
 obtain ⟨hs_3, hy_3⟩ := hH121 3 (by decide)
 obtain ⟨hv_3, hr_3⟩ := hy_3
 obtain ⟨hs_4, hy_4⟩ := hH121 4 (by decide)
 obtain ⟨hv_4, hr_4⟩ := hy_4
 obtain ⟨hs_5, hy_5⟩ := hH121 5 (by decide)
 obtain ⟨hv_5, hr_5⟩ := hy_5
 obtain ⟨hs_6, hy_6⟩ := hH121 6 (by decide)
 obtain ⟨hv_6, hr_6⟩ := hy_6
 obtain ⟨hs_7, hy_7⟩ := hH121 7 (by decide)
 obtain ⟨hv_7, hr_7⟩ := hy_7
 obtain ⟨hs_8, hy_8⟩ := hH121 8 (by decide)
 obtain ⟨hv_8, hr_8⟩ := hy_8
 obtain ⟨hs_9, hy_9⟩ := hH121 9 (by decide)
 obtain ⟨hv_9, hr_9⟩ := hy_9
 obtain ⟨hs_10, hy_10⟩ := hH121 10 (by decide)
 obtain ⟨hv_10, hr_10⟩ := hy_10
 obtain ⟨hs_11, hy_11⟩ := hH121 11 (by decide)
 obtain ⟨hv_11, hr_11⟩ := hy_11
 obtain ⟨hs_12, hy_12⟩ := hH121 12 (by decide)
 obtain ⟨hv_12, hr_12⟩ := hy_12
 obtain ⟨hs_13, hy_13⟩ := hH121 13 (by decide)
 obtain ⟨hv_13, hr_13⟩ := hy_13
 obtain ⟨hs_14, hy_14⟩ := hH121 14 (by decide)
 obtain ⟨hv_14, hr_14⟩ := hy_14
 obtain ⟨hs_15, hy_15⟩ := hH121 15 (by decide)
 obtain ⟨hv_15, hr_15⟩ := hy_15
 obtain ⟨hs_16, hy_16⟩ := hH121 16 (by decide)
 obtain ⟨hv_16, hr_16⟩ := hy_16
 obtain ⟨hs_17, hy_17⟩ := hH121 17 (by decide)
 obtain ⟨hv_17, hr_17⟩ := hy_17
 obtain ⟨hs_18, hy_18⟩ := hH121 18 (by decide)
 obtain ⟨hv_18, hr_18⟩ := hy_18
 have hS123 : Sep NoB w w118 [(row v71 56 3 plan.length (trips plan)), (row v57 56 3 ((long1 plan kk y).length) (trips (long1 plan kk y))), (blk b4 24 [vr]), (sl vr 2 R.length (pairs R)), (runsR false vu lv rs), (sl vp 3 plan.length (trips plan))] := by rw [show catR rsf122 0 19 = ([] : List Res) by (try simp only [catR, hr_0, hr_1, hr_2, hr_3, hr_4, hr_5, hr_6, hr_7, hr_8, hr_9, hr_10, hr_11, hr_12, hr_13, hr_14, hr_15, hr_16, hr_17, hr_18]); (try rfl)] at hS120; exact hS120
 rw [hv_0] at hs_0
 have hA124 : Fr 229 [] [(61, v57), (13, v71), (12, v57), (11, (Value.int .i64 (kk : Int))), (5, (bptr b4 0)), (1, vu), (2, vp), (4, (Value.int .u16 y))] a117 := hA119.add (slot_ev hs_0 rfl); clear hA119
 rw [hv_1] at hs_1
 have hA125 : Fr 229 [] [(62, (Value.int .i64 (kk : Int))), (61, v57), (13, v71), (12, v57), (11, (Value.int .i64 (kk : Int))), (5, (bptr b4 0)), (1, vu), (2, vp), (4, (Value.int .u16 y))] a117 := hA124.add (slot_ev hs_1 rfl); clear hA124
 rw [hv_18] at hs_18
 have hA126 : Fr 229 [] [(79, (Value.int .i64 (min (((long1 plan kk y).getD kk (0, 0, 0)).2.2) ((((long1 plan kk y).getD kk (0, 0, 0)).2.1) + ((y).tdiv 2))))), (62, (Value.int .i64 (kk : Int))), (61, v57), (13, v71), (12, v57), (11, (Value.int .i64 (kk : Int))), (5, (bptr b4 0)), (1, vu), (2, vp), (4, (Value.int .u16 y))] a117 := hA125.add (slot_ev hs_18 rfl); clear hA125
 clear hH121 hS120 hs_0 hs_1 hs_2 hs_3 hs_4 hs_5 hs_6 hs_7 hs_8 hs_9 hs_10 hs_11 hs_12 hs_13 hs_14 hs_15 hs_16 hs_17 hs_18
 clear hr_0
 clear hv_0
 clear hr_1
 clear hv_1
 clear hr_2
 clear hv_2
 clear hr_3
 clear hv_3
 clear hr_4
 clear hv_4
 clear hr_5
 clear hv_5
 clear hr_6
 clear hv_6
 clear hr_7
 clear hv_7
 clear hr_8
 clear hv_8
 clear hr_9
 clear hv_9
 clear hr_10
 clear hv_10
 clear hr_11
 clear hv_11
 clear hr_12
 clear hv_12
 clear hr_13
 clear hv_13
 clear hr_14
 clear hv_14
 clear hr_15
 clear hv_15
 clear hr_16
 clear hv_16
 clear hr_17
 clear hv_17
 clear hr_18
 clear hv_18
 refine st hA126 (op_indexS rfl un_51 ty_56 (hA126.ev rfl) (i := kk) (hA126.ev rfl) (SlAt.of_row (hS123.ok_row 1 rfl)) (by decide) (by omega)) rfl rfl (by decide) fun a127 hA128 => ?_; clear hA126 a117
 refine st hA128 (op_fieldS rfl fd_56_1 (hA128.ev rfl) (SlAt.of_row (hS123.ok_row 1 rfl)) (by rw [((SlAt.of_row (hS123.ok_row 1 rfl))).1]; omega)) rfl rfl (by decide) fun a129 hA130 => ?_; clear hA128 a127
 refine st hA130 (op_fieldS rfl fd_48_0 (hA130.ev rfl) (SlAt.of_row (hS123.ok_row 1 rfl)) (by rw [((SlAt.of_row (hS123.ok_row 1 rfl))).1]; omega)) rfl rfl (by decide) fun a131 hA132 => ?_; clear hA130 a129
 refine sts hA132 (op_storeE hS123 rfl ty_3 (hA132.ev rfl) (hA132.ev rfl) (i := 1) rfl (vs := [(Value.int .i64 (min (((long1 plan kk y).getD kk (0, 0, 0)).2.2) ((((long1 plan kk y).getD kk (0, 0, 0)).2.1) + ((y).tdiv 2))))]) rfl rfl rfl (by simp only [trips_length, long1_len, longF_len, hotF_len]; omega) (by decide)) rfl rfl ?_
 intro _ w133 hS134 hA136; have hS135 := hS134.row_say (i := 1) rfl (n' := ((long1 plan kk y).set kk (((long1 plan kk y).getD kk (0, 0, 0)).1, min (((long1 plan kk y).getD kk (0, 0, 0)).2.2) ((((long1 plan kk y).getD kk (0, 0, 0)).2.1) + ((y).tdiv 2)), ((long1 plan kk y).getD kk (0, 0, 0)).2.2)).length) (xs' := (trips ((long1 plan kk y).set kk (((long1 plan kk y).getD kk (0, 0, 0)).1, min (((long1 plan kk y).getD kk (0, 0, 0)).2.2) ((((long1 plan kk y).getD kk (0, 0, 0)).2.1) + ((y).tdiv 2)), ((long1 plan kk y).getD kk (0, 0, 0)).2.2)))) (by simp only [List.length_set]) (trips_setAt _ _ (by omega) _).2.1; clear hS134 hA132 hS123
 refine wl_nil ?_
 refine then_n ?_
 refine c_seq ?_
 have hA137 := hA136.as [(13, v71), (12, v57), (11, (Value.int .i64 (kk : Int))), (5, (bptr b4 0)), (1, vu), (2, vp)] rfl; clear hA136
 have hS138 := hS135.row_say (i := 1) rfl (n' := (longF plan kk y).length) (xs' := (trips (longF plan kk y))) (by rw [longF_of hb_kk]) (congrArg trips (longF_of hb_kk)); clear hS135
 have hA139 := hA137.as [(13, v71), (12, v57), (11, (Value.int .i64 (kk : Int))), (5, (bptr b4 0)), (1, vu), (2, vp)] rfl; clear hA137
 refine c_drawV mixed hA139 hS138 13 [[], [], [], [2], [3], [4], [], [], [6, 7], [8], [9], [10], [5, 11]] [(fun (vs140 : Nat → Value) (v_ : Value) (rs_ : List Res) => v_ = v71 ∧ rs_ = []), (fun (vs140 : Nat → Value) (v_ : Value) (rs_ : List Res) => v_ = (Value.int .i64 (kk : Int)) ∧ rs_ = []), (fun (vs140 : Nat → Value) (v_ : Value) (rs_ : List Res) => v_ = (bptr b4 0) ∧ rs_ = []), (fun (vs140 : Nat → Value) (v_ : Value) (rs_ : List Res) => v_ = vr ∧ rs_ = []), (fun (vs140 : Nat → Value) (v_ : Value) (rs_ : List Res) => v_ = (Value.int .i64 (R.length : Int)) ∧ rs_ = []), (fun (vs140 : Nat → Value) (v_ : Value) (rs_ : List Res) => v_ = (Value.int .i64 ((R.length : Int) - 1)) ∧ rs_ = []), (fun (vs140 : Nat → Value) (v_ : Value) (rs_ : List Res) => v_ = v71 ∧ rs_ = []), (fun (vs140 : Nat → Value) (v_ : Value) (rs_ : List Res) => v_ = (Value.int .i64 (kk : Int)) ∧ rs_ = []), (fun (vs140 : Nat → Value) (v_ : Value) (rs_ : List Res) => v_ = (eptr v71 (kk * 3)) ∧ rs_ = []), (fun (vs140 : Nat → Value) (v_ : Value) (rs_ : List Res) => v_ = (eptr v71 (kk * 3 + 0)) ∧ rs_ = []), (fun (vs140 : Nat → Value) (v_ : Value) (rs_ : List Res) => v_ = (Value.int .i64 ((plan.getD kk (0, 0, 0)).1)) ∧ rs_ = []), (fun (vs140 : Nat → Value) (v_ : Value) (rs_ : List Res) => v_ = (Value.int .i64 (((plan.getD kk (0, 0, 0)).1) + 1)) ∧ rs_ = []), (fun (vs140 : Nat → Value) (v_ : Value) (rs_ : List Res) => v_ = (Value.int .i64 (min ((R.length : Int) - 1) (((plan.getD kk (0, 0, 0)).1) + 1))) ∧ rs_ = [])] (by decide +kernel) (by decide +kernel) rfl rfl ⟨(fun _ _ _ _ _ h_ => h_), (fun _ _ _ _ _ h_ => h_), (fun _ _ _ _ _ h_ => h_), (fun _ _ _ _ _ h_ => h_), (fun _ _ _ _ _ h_ => h_), (fun _ _ _ _ _ h_ => h_), (fun _ _ _ _ _ h_ => h_), (fun _ _ _ _ _ h_ => h_), (fun _ _ _ _ _ h_ => h_), (fun _ _ _ _ _ h_ => h_), (fun _ _ _ _ _ h_ => h_), (fun _ _ _ _ _ h_ => h_), (fun _ _ _ _ _ h_ => h_), trivial⟩ ?_ ?_
 ·skip
  refine ⟨fun a w vs140 hA hS hd => ?_, ?_⟩
  ·skip
   exact opG_of rfl (vv (op_move rfl (hA.ev rfl)) (And.intro rfl rfl))
  refine ⟨fun a w vs140 hA hS hd => ?_, ?_⟩
  ·skip
   exact opG_of rfl (vv (op_move rfl (hA.ev rfl)) (And.intro rfl rfl))
  refine ⟨fun a w vs140 hA hS hd => ?_, ?_⟩
  ·skip
   exact opG_of rfl (vv (op_field rfl fd_24_0 (hA.ev rfl)) (And.intro rfl rfl))
  refine ⟨fun a w vs140 hA hS hd => ?_, ?_⟩
  ·skip
   obtain ⟨e2, rs2, hy2, hp2⟩ := hd 2 (by decide)
   obtain ⟨hv2, hr2⟩ := hy2; subst hr2
   rw [hv2] at e2
   exact opG_of rfl (vv (op_load1 rfl ty_22 (tmp_ev (slot_ev e2 rfl)) (hS.bk 2 rfl) rfl) (And.intro rfl rfl))
  refine ⟨fun a w vs140 hA hS hd => ?_, ?_⟩
  ·skip
   obtain ⟨e3, rs3, hy3, hp3⟩ := hd 3 (by decide)
   obtain ⟨hv3, hr3⟩ := hy3; subst hr3
   rw [hv3] at e3
   exact opG_of rfl (vv (op_lenS rfl un_22 (tmp_ev (slot_ev e3 rfl)) (hS.sk 3 rfl)) (And.intro rfl rfl))
  refine ⟨fun a w vs140 hA hS hd => ?_, ?_⟩
  ·skip
   obtain ⟨e4, rs4, hy4, hp4⟩ := hd 4 (by decide)
   obtain ⟨hv4, hr4⟩ := hy4; subst hr4
   rw [hv4] at e4
   exact opG_of rfl (vv (op_sub rfl (tmp_ev (slot_ev e4 rfl)) (evc _ _) (by omega) (by omega)) (And.intro rfl rfl))
  refine ⟨fun a w vs140 hA hS hd => ?_, ?_⟩
  ·skip
   exact opG_of rfl (vv (op_move rfl (hA.ev rfl)) (And.intro rfl rfl))
  refine ⟨fun a w vs140 hA hS hd => ?_, ?_⟩
  ·skip
   exact opG_of rfl (vv (op_move rfl (hA.ev rfl)) (And.intro rfl rfl))
  refine ⟨fun a w vs140 hA hS hd => ?_, ?_⟩
  ·skip
   obtain ⟨e6, rs6, hy6, hp6⟩ := hd 6 (by decide)
   obtain ⟨hv6, hr6⟩ := hy6; subst hr6
   rw [hv6] at e6
   obtain ⟨e7, rs7, hy7, hp7⟩ := hd 7 (by decide)
   obtain ⟨hv7, hr7⟩ := hy7; subst hr7
   rw [hv7] at e7
   exact opG_of rfl (vv (op_indexS rfl un_51 ty_56 (tmp_ev (slot_ev e6 rfl)) (i := kk) (tmp_ev (slot_ev e7 rfl)) (SlAt.of_row (hS.ok_row 0 rfl)) (by decide) (by omega)) (And.intro rfl rfl))
  refine ⟨fun a w vs140 hA hS hd => ?_, ?_⟩
  ·skip
   obtain ⟨e8, rs8, hy8, hp8⟩ := hd 8 (by decide)
   obtain ⟨hv8, hr8⟩ := hy8; subst hr8
   rw [hv8] at e8
   exact opG_of rfl (vv (op_fieldS rfl fd_56_0 (tmp_ev (slot_ev e8 rfl)) (SlAt.of_row (hS.ok_row 0 rfl)) (by rw [((SlAt.of_row (hS.ok_row 0 rfl))).1]; omega)) (And.intro rfl rfl))
  refine ⟨fun a w vs140 hA hS hd => ?_, ?_⟩
  ·skip
   obtain ⟨e9, rs9, hy9, hp9⟩ := hd 9 (by decide)
   obtain ⟨hv9, hr9⟩ := hy9; subst hr9
   rw [hv9] at e9
   exact opG_of rfl (vv (op_load1E rfl ty_3 (tmp_ev (slot_ev e9 rfl)) (SlAt.of_row (hS.ok_row 0 rfl)) (trips_at0 (by omega))) (And.intro rfl rfl))
  refine ⟨fun a w vs140 hA hS hd => ?_, ?_⟩
  ·skip
   obtain ⟨e10, rs10, hy10, hp10⟩ := hd 10 (by decide)
   obtain ⟨hv10, hr10⟩ := hy10; subst hr10
   rw [hv10] at e10
   exact opG_of rfl (vv (op_add rfl (tmp_ev (slot_ev e10 rfl)) (evc _ _) (by omega) (by omega)) (And.intro rfl rfl))
  refine ⟨fun a w vs140 hA hS hd => ?_, ?_⟩
  ·skip
   obtain ⟨e5, rs5, hy5, hp5⟩ := hd 5 (by decide)
   obtain ⟨hv5, hr5⟩ := hy5; subst hr5
   rw [hv5] at e5
   obtain ⟨e11, rs11, hy11, hp11⟩ := hd 11 (by decide)
   obtain ⟨hv11, hr11⟩ := hy11; subst hr11
   rw [hv11] at e11
   exact opG_of rfl (vv (op_min rfl (tmp_ev (slot_ev e5 rfl)) (tmp_ev (slot_ev e11 rfl))) (And.intro rfl rfl))
  trivial
 intro a141 w142 vs140 rsf146 hA143 hH145 hS144; clear hA139 hS138
 obtain ⟨hs_0, hy_0⟩ := hH145 0 (by decide)
 obtain ⟨hv_0, hr_0⟩ := hy_0
 obtain ⟨hs_1, hy_1⟩ := hH145 1 (by decide)
 obtain ⟨hv_1, hr_1⟩ := hy_1
 obtain ⟨hs_2, hy_2⟩ := hH145 2 (by decide)
 obtain ⟨hv_2, hr_2⟩ := hy_2
 obtain ⟨hs_3, hy_3⟩ := hH145 3 (by decide)
 obtain ⟨hv_3, hr_3⟩ := hy_3
 obtain ⟨hs_4, hy_4⟩ := hH145 4 (by decide)
 obtain ⟨hv_4, hr_4⟩ := hy_4
 obtain ⟨hs_5, hy_5⟩ := hH145 5 (by decide)
 obtain ⟨hv_5, hr_5⟩ := hy_5
 obtain ⟨hs_6, hy_6⟩ := hH145 6 (by decide)
 obtain ⟨hv_6, hr_6⟩ := hy_6
 obtain ⟨hs_7, hy_7⟩ := hH145 7 (by decide)
 obtain ⟨hv_7, hr_7⟩ := hy_7
 obtain ⟨hs_8, hy_8⟩ := hH145 8 (by decide)
 obtain ⟨hv_8, hr_8⟩ := hy_8
 obtain ⟨hs_9, hy_9⟩ := hH145 9 (by decide)
 obtain ⟨hv_9, hr_9⟩ := hy_9
 obtain ⟨hs_10, hy_10⟩ := hH145 10 (by decide)
 obtain ⟨hv_10, hr_10⟩ := hy_10
 obtain ⟨hs_11, hy_11⟩ := hH145 11 (by decide)
 obtain ⟨hv_11, hr_11⟩ := hy_11
 obtain ⟨hs_12, hy_12⟩ := hH145 12 (by decide)
 obtain ⟨hv_12, hr_12⟩ := hy_12
 have hS147 : Sep NoB w w142 [(row v71 56 3 plan.length (trips plan)), (row v57 56 3 ((longF plan kk y).length) (trips (longF plan kk y))), (blk b4 24 [vr]), (sl vr 2 R.length (pairs R)), (runsR false vu lv rs), (sl vp 3 plan.length (trips plan))] := by rw [show catR rsf146 0 13 = ([] : List Res) by (try simp only [catR, hr_0, hr_1, hr_2, hr_3, hr_4, hr_5, hr_6, hr_7, hr_8, hr_9, hr_10, hr_11, hr_12]); (try rfl)] at hS144; exact hS144
 rw [hv_0] at hs_0
 have hA148 : Fr 229 [] [(83, v71), (13, v71), (12, v57), (11, (Value.int .i64 (kk : Int))), (5, (bptr b4 0)), (1, vu), (2, vp)] a141 := hA143.add (slot_ev hs_0 rfl); clear hA143
 rw [hv_1] at hs_1
 have hA149 : Fr 229 [] [(84, (Value.int .i64 (kk : Int))), (83, v71), (13, v71), (12, v57), (11, (Value.int .i64 (kk : Int))), (5, (bptr b4 0)), (1, vu), (2, vp)] a141 := hA148.add (slot_ev hs_1 rfl); clear hA148
 rw [hv_12] at hs_12
 have hA150 : Fr 229 [] [(95, (Value.int .i64 (min ((R.length : Int) - 1) (((plan.getD kk (0, 0, 0)).1) + 1)))), (84, (Value.int .i64 (kk : Int))), (83, v71), (13, v71), (12, v57), (11, (Value.int .i64 (kk : Int))), (5, (bptr b4 0)), (1, vu), (2, vp)] a141 := hA149.add (slot_ev hs_12 rfl); clear hA149
 clear hH145 hS144 hs_0 hs_1 hs_2 hs_3 hs_4 hs_5 hs_6 hs_7 hs_8 hs_9 hs_10 hs_11 hs_12
 clear hr_0
 clear hv_0
 clear hr_1
 clear hv_1
 clear hr_2
 clear hv_2
 clear hr_3
 clear hv_3
 clear hr_4
 clear hv_4
 clear hr_5
 clear hv_5
 clear hr_6
 clear hv_6
 clear hr_7
 clear hv_7
 clear hr_8
 clear hv_8
 clear hr_9
 clear hv_9
 clear hr_10
 clear hv_10
 clear hr_11
 clear hv_11
 clear hr_12
 clear hv_12
 refine st hA150 (op_indexS rfl un_51 ty_56 (hA150.ev rfl) (i := kk) (hA150.ev rfl) (SlAt.of_row (hS147.ok_row 0 rfl)) (by decide) (by omega)) rfl rfl (by decide) fun a151 hA152 => ?_; clear hA150 a141
 refine st hA152 (op_fieldS rfl fd_56_0 (hA152.ev rfl) (SlAt.of_row (hS147.ok_row 0 rfl)) (by rw [((SlAt.of_row (hS147.ok_row 0 rfl))).1]; omega)) rfl rfl (by decide) fun a153 hA154 => ?_; clear hA152 a151
 refine sts hA154 (op_storeE hS147 rfl ty_3 (hA154.ev rfl) (hA154.ev rfl) (i := 0) rfl (vs := [(Value.int .i64 (min ((R.length : Int) - 1) (((plan.getD kk (0, 0, 0)).1) + 1)))]) rfl rfl rfl (by simp only [trips_length, long1_len, longF_len, hotF_len]; omega) (by decide)) rfl rfl ?_
 intro _ w155 hS156 hA158; have hS157 := hS156.row_say (i := 0) rfl (n' := (plan.set kk (min ((R.length : Int) - 1) (((plan.getD kk (0, 0, 0)).1) + 1), (plan.getD kk (0, 0, 0)).2.1, (plan.getD kk (0, 0, 0)).2.2)).length) (xs' := (trips (plan.set kk (min ((R.length : Int) - 1) (((plan.getD kk (0, 0, 0)).1) + 1), (plan.getD kk (0, 0, 0)).2.1, (plan.getD kk (0, 0, 0)).2.2)))) (by simp only [List.length_set]) (trips_setAt _ _ (by omega) _).1; clear hS156 hA154 hS147
 refine wl_nil ?_
 refine then_n ?_
 refine c_seq ?_
 have hA159 := hA158.as [(13, v71), (12, v57), (5, (bptr b4 0)), (1, vu), (2, vp)] rfl; clear hA158
 have hS160 := hS157.row_say (i := 0) rfl (n' := (hotF plan R.length kk).length) (xs' := (trips (hotF plan R.length kk))) rfl rfl; clear hS157
 refine c_region ?_
 refine st hA159 (op_loadA rfl ty_24 (hA159.ev rfl) (hS160.bk 2 rfl) (l := [vr]) rfl rfl) rfl rfl (by decide) fun a161 hA162 => ?_; clear hA159 a153
 refine stw hA162 (op_call rfl en_19 (ev1 (hA162.ev rfl)) (Material_ok _ R _ (hS160.sk 3 rfl) hth.mat)) rfl rfl (by decide) ?_
 rintro a163 _ w165 ⟨u168, rfl, hT166⟩ hA164; have hS167 := hS160.callS hT166 rfl; clear hT166 hA162 hS160 a161
 refine st hA164 (op_move rfl (hA164.ev rfl)) rfl rfl (by decide) fun a169 hA170 => ?_; clear hA164 a163
 refine stw hA170 (op_call rfl en_20 (ev1 (hA170.ev rfl)) (Runs_ok _ rs _ _ (runs_at (hS167.ok 5 _ rfl)) hth.runs hth.segs)) rfl rfl (by decide) ?_
 rintro a171 v176 w173 ⟨lv177, hT174⟩ hA172; have hS175 := hS167.callS hT174 rfl; clear hT174 hA170 hS167 a169
 refine st hA172 (op_move rfl (hA172.ev rfl)) rfl rfl (by decide) fun a178 hA179 => ?_; clear hA172 a171
 refine stw hA179 (op_call rfl en_29 (ev1 (hA179.ev rfl)) (Plan_ok _ plan _ (hS175.sk 7 rfl) (by omega))) rfl rfl (by decide) ?_
 rintro a180 v186 w182 ⟨hE183, hO184⟩ hA181; have hS185 := hS175.new_row hE183 hO184; clear hE183 hO184 hA179 hS175 a178
 refine stw hA181 (op_call rfl en_28 (ev3 (hA181.ev rfl) (hA181.ev rfl) (hA181.ev rfl)) (stretch_bad R rs lv177 u168 v176 _ (SlAt.of_row (hS185.ok_row 2 rfl)) (runs_at (hS185.ok 1 _ rfl)) (by omega) (by omega) plan v186 (SlAt.of_row (hS185.ok_row 0 rfl)) (by omega) (hlz _))) rfl rfl (by decide) ?_
 rintro a187 _ w189 ⟨rfl, hE190⟩ hA188; have hS191 := hS185.step hE190; clear hE190 hA181 hS185 a180
 refine st hA188 (op_move rfl (hA188.ev rfl)) rfl rfl (by decide) fun a192 hA193 => ?_; clear hA188 a187
 refine st hA193 (op_extract rfl (hA193.ev rfl) rfl) rfl rfl (by decide) fun a194 hA195 => ?_; clear hA193 a192
 refine st hA195 (op_extract rfl (hA195.ev rfl) rfl) rfl rfl (by decide) fun a196 hA197 => ?_; clear hA195 a194
 refine stw hA197 (op_alloc hS191 rfl ze_42 (cs := [(Value.int .i64 0), (Value.int .i64 0)]) rfl) rfl rfl (by decide) ?_
 rintro a198 _ w200 ⟨b201, rfl, hS202⟩ hA199; clear hA197 hS191 a196
 refine sts hA199 (op_store hS202 rfl ty_42 (hA199.ev rfl) (hA199.ev rfl) (i := 0) rfl (vs := [(Value.int .i64 0), (Value.int .i64 0)]) rfl rfl rfl (Nat.le_of_ble_eq_true rfl)) rfl rfl ?_
 intro _ w203 hS204 hA205; clear hA199
 have hS206 : Sep NoB w w203 [(blk b201 42 [(Value.int .i64 0), (Value.int .i64 0)]), (row v186 67 3 plan.length (trips plan)), (runsR true v176 lv177 rs), (row u168 42 2 R.length (pairs R)), (row v71 56 3 ((hotF plan R.length kk).length) (trips (hotF plan R.length kk))), (row v57 56 3 ((longF plan kk y).length) (trips (longF plan kk y))), (blk b4 24 [vr]), (sl vr 2 R.length (pairs R)), (runsR false vu lv rs), (sl vp 3 plan.length (trips plan))] := hS204; clear hS204 hS202
 refine st hA205 (op_assign rfl (hA205.ev rfl)) rfl rfl (by decide) fun a207 hA208 => ?_; clear hA205 a198
 refine wl_nil ?_
 refine then_n ?_
 refine c_seq ?_
 have hA209 := hA208.as [(15, (Value.int .i64 (planF R rs plan))), (14, (bptr b201 0)), (13, v71), (12, v57), (5, (bptr b4 0)), (1, vu), (2, vp)] rfl; clear hA208
 refine c_region ?_
 refine st hA209 (op_loadA rfl ty_24 (hA209.ev rfl) (hS206.bk 6 rfl) (l := [vr]) rfl rfl) rfl rfl (by decide) fun a210 hA211 => ?_; clear hA209 a207
 refine stw hA211 (op_call rfl en_19 (ev1 (hA211.ev rfl)) (Material_ok _ R _ (hS206.sk 7 rfl) hth.mat)) rfl rfl (by decide) ?_
 rintro a212 _ w214 ⟨u217, rfl, hT215⟩ hA213; have hS216 := hS206.callS hT215 rfl; clear hT215 hA211 hS206 a210
 refine st hA213 (op_move rfl (hA213.ev rfl)) rfl rfl (by decide) fun a218 hA219 => ?_; clear hA213 a212
 refine stw hA219 (op_call rfl en_20 (ev1 (hA219.ev rfl)) (Runs_ok _ rs _ _ (runs_at (hS216.ok 9 _ rfl)) hth.runs hth.segs)) rfl rfl (by decide) ?_
 rintro a220 v225 w222 ⟨lv226, hT223⟩ hA221; have hS224 := hS216.callS hT223 rfl; clear hT223 hA219 hS216 a218
 refine st hA221 (op_move rfl (hA221.ev rfl)) rfl rfl (by decide) fun a227 hA228 => ?_; clear hA221 a220
 refine stw hA228 (op_call rfl en_29 (ev1 (hA228.ev rfl)) (Plan_ok _ (longF plan kk y) _ (SlAt.of_row (hS224.ok_row 7 rfl)) (by omega))) rfl rfl (by decide) ?_
 rintro a229 v235 w231 ⟨hE232, hO233⟩ hA230; have hS234 := hS224.new_row hE232 hO233; clear hE232 hO233 hA228 hS224 a227
 refine stw hA230 (op_call rfl en_28 (ev3 (hA230.ev rfl) (hA230.ev rfl) (hA230.ev rfl)) (stretch_bad R rs lv226 u217 v225 _ (SlAt.of_row (hS234.ok_row 2 rfl)) (runs_at (hS234.ok 1 _ rfl)) (by omega) (by omega) (longF plan kk y) v235 (SlAt.of_row (hS234.ok_row 0 rfl)) (by omega) (hlz _))) rfl rfl (by decide) ?_
 rintro a236 _ w238 ⟨rfl, hE239⟩ hA237; have hS240 := hS234.step hE239; clear hE239 hA230 hS234 a229
 refine st hA237 (op_move rfl (hA237.ev rfl)) rfl rfl (by decide) fun a241 hA242 => ?_; clear hA237 a236
 refine st hA242 (op_extract rfl (hA242.ev rfl) rfl) rfl rfl (by decide) fun a243 hA244 => ?_; clear hA242 a241
 refine st hA244 (op_extract rfl (hA244.ev rfl) rfl) rfl rfl (by decide) fun a245 hA246 => ?_; clear hA244 a243
 refine stw hA246 (op_alloc hS240 rfl ze_42 (cs := [(Value.int .i64 0), (Value.int .i64 0)]) rfl) rfl rfl (by decide) ?_
 rintro a247 _ w249 ⟨b250, rfl, hS251⟩ hA248; clear hA246 hS240 a245
 refine sts hA248 (op_store hS251 rfl ty_42 (hA248.ev rfl) (hA248.ev rfl) (i := 0) rfl (vs := [(Value.int .i64 0), (Value.int .i64 0)]) rfl rfl rfl (Nat.le_of_ble_eq_true rfl)) rfl rfl ?_
 intro _ w252 hS253 hA254; clear hA248
 have hS255 : Sep NoB w w252 [(blk b250 42 [(Value.int .i64 0), (Value.int .i64 0)]), (row v235 67 3 ((longF plan kk y).length) (trips (longF plan kk y))), (runsR true v225 lv226 rs), (row u217 42 2 R.length (pairs R)), (blk b201 42 [(Value.int .i64 0), (Value.int .i64 0)]), (row v186 67 3 plan.length (trips plan)), (runsR true v176 lv177 rs), (row u168 42 2 R.length (pairs R)), (row v71 56 3 ((hotF plan R.length kk).length) (trips (hotF plan R.length kk))), (row v57 56 3 ((longF plan kk y).length) (trips (longF plan kk y))), (blk b4 24 [vr]), (sl vr 2 R.length (pairs R)), (runsR false vu lv rs), (sl vp 3 plan.length (trips plan))] := hS253; clear hS253 hS251
 refine st hA254 (op_assign rfl (hA254.ev rfl)) rfl rfl (by decide) fun a256 hA257 => ?_; clear hA254 a247
 refine wl_nil ?_
 refine then_n ?_
 refine c_seq ?_
 have hA258 := hA257.as [(17, (Value.int .i64 (planF R rs (longF plan kk y)))), (16, (bptr b250 0)), (15, (Value.int .i64 (planF R rs plan))), (14, (bptr b201 0)), (13, v71), (5, (bptr b4 0)), (1, vu), (2, vp)] rfl; clear hA257
 refine c_region ?_
 refine st hA258 (op_loadA rfl ty_24 (hA258.ev rfl) (hS255.bk 10 rfl) (l := [vr]) rfl rfl) rfl rfl (by decide) fun a259 hA260 => ?_; clear hA258 a256
 refine stw hA260 (op_call rfl en_19 (ev1 (hA260.ev rfl)) (Material_ok _ R _ (hS255.sk 11 rfl) hth.mat)) rfl rfl (by decide) ?_
 rintro a261 _ w263 ⟨u266, rfl, hT264⟩ hA262; have hS265 := hS255.callS hT264 rfl; clear hT264 hA260 hS255 a259
 refine st hA262 (op_move rfl (hA262.ev rfl)) rfl rfl (by decide) fun a267 hA268 => ?_; clear hA262 a261
 refine stw hA268 (op_call rfl en_20 (ev1 (hA268.ev rfl)) (Runs_ok _ rs _ _ (runs_at (hS265.ok 13 _ rfl)) hth.runs hth.segs)) rfl rfl (by decide) ?_
 rintro a269 v274 w271 ⟨lv275, hT272⟩ hA270; have hS273 := hS265.callS hT272 rfl; clear hT272 hA268 hS265 a267
 refine st hA270 (op_move rfl (hA270.ev rfl)) rfl rfl (by decide) fun a276 hA277 => ?_; clear hA270 a269
 refine stw hA277 (op_call rfl en_29 (ev1 (hA277.ev rfl)) (Plan_ok _ (hotF plan R.length kk) _ (SlAt.of_row (hS273.ok_row 10 rfl)) (by omega))) rfl rfl (by decide) ?_
 rintro a278 v284 w280 ⟨hE281, hO282⟩ hA279; have hS283 := hS273.new_row hE281 hO282; clear hE281 hO282 hA277 hS273 a276
 refine stw hA279 (op_call rfl en_28 (ev3 (hA279.ev rfl) (hA279.ev rfl) (hA279.ev rfl)) (stretch_bad R rs lv275 u266 v274 _ (SlAt.of_row (hS283.ok_row 2 rfl)) (runs_at (hS283.ok 1 _ rfl)) (by omega) (by omega) (hotF plan R.length kk) v284 (SlAt.of_row (hS283.ok_row 0 rfl)) (by omega) (hlz _))) rfl rfl (by decide) ?_
 rintro a285 _ w287 ⟨rfl, hE288⟩ hA286; have hS289 := hS283.step hE288; clear hE288 hA279 hS283 a278
 refine st hA286 (op_move rfl (hA286.ev rfl)) rfl rfl (by decide) fun a290 hA291 => ?_; clear hA286 a285
 refine st hA291 (op_extract rfl (hA291.ev rfl) rfl) rfl rfl (by decide) fun a292 hA293 => ?_; clear hA291 a290
 refine st hA293 (op_extract rfl (hA293.ev rfl) rfl) rfl rfl (by decide) fun a294 hA295 => ?_; clear hA293 a292
 refine stw hA295 (op_alloc hS289 rfl ze_42 (cs := [(Value.int .i64 0), (Value.int .i64 0)]) rfl) rfl rfl (by decide) ?_
 rintro a296 _ w298 ⟨b299, rfl, hS300⟩ hA297; clear hA295 hS289 a294
 refine sts hA297 (op_store hS300 rfl ty_42 (hA297.ev rfl) (hA297.ev rfl) (i := 0) rfl (vs := [(Value.int .i64 0), (Value.int .i64 0)]) rfl rfl rfl (Nat.le_of_ble_eq_true rfl)) rfl rfl ?_
 intro _ w301 hS302 hA303; clear hA297
 have hS304 : Sep NoB w w301 [(blk b299 42 [(Value.int .i64 0), (Value.int .i64 0)]), (row v284 67 3 ((hotF plan R.length kk).length) (trips (hotF plan R.length kk))), (runsR true v274 lv275 rs), (row u266 42 2 R.length (pairs R)), (blk b250 42 [(Value.int .i64 0), (Value.int .i64 0)]), (row v235 67 3 ((longF plan kk y).length) (trips (longF plan kk y))), (runsR true v225 lv226 rs), (row u217 42 2 R.length (pairs R)), (blk b201 42 [(Value.int .i64 0), (Value.int .i64 0)]), (row v186 67 3 plan.length (trips plan)), (runsR true v176 lv177 rs), (row u168 42 2 R.length (pairs R)), (row v71 56 3 ((hotF plan R.length kk).length) (trips (hotF plan R.length kk))), (row v57 56 3 ((longF plan kk y).length) (trips (longF plan kk y))), (blk b4 24 [vr]), (sl vr 2 R.length (pairs R)), (runsR false vu lv rs), (sl vp 3 plan.length (trips plan))] := hS302; clear hS302 hS300
 refine st hA303 (op_assign rfl (hA303.ev rfl)) rfl rfl (by decide) fun a305 hA306 => ?_; clear hA303 a296
 refine wl_nil ?_
 refine then_n ?_
 refine c_seq ?_
 refine c_seq ?_
 have hA307 := hA306.as [(19, (Value.int .i64 (planF R rs (hotF plan R.length kk)))), (18, (bptr b299 0)), (17, (Value.int .i64 (planF R rs (longF plan kk y)))), (16, (bptr b250 0)), (15, (Value.int .i64 (planF R rs plan))), (14, (bptr b201 0)), (5, (bptr b4 0)), (1, vu), (2, vp)] rfl; clear hA306
 refine c_region ?_
 refine st hA307 (op_move rfl (hA307.ev rfl)) rfl rfl (by decide) fun a308 hA309 => ?_; clear hA307 a305
 refine st hA309 (op_neq rfl (hA309.ev rfl) (evc _ _)) rfl rfl (by decide) fun a310 hA311 => ?_; clear hA309 a308
 have hd312 : ¬ ((planF R rs plan) = 0) := (hlz _)
 rw [decide_eq_false hd312] at hA311
 refine wl_nil ?_
 refine then_n ?_
 refine c_true hA311 rfl ?_
 refine c_seq ?_
 have hA313 := hA311.as [(19, (Value.int .i64 (planF R rs (hotF plan R.length kk)))), (17, (Value.int .i64 (planF R rs (longF plan kk y)))), (15, (Value.int .i64 (planF R rs plan)))] rfl; clear hA311
 refine c_region ?_
 refine st hA313 (op_move rfl (hA313.ev rfl)) rfl rfl (by decide) fun a314 hA315 => ?_; clear hA313 a310
 refine st hA315 (op_eql rfl (hA315.ev rfl) (evc _ _)) rfl rfl (by decide) fun a316 hA317 => ?_; clear hA315 a314
 have hd318 : (planF R rs plan) = 9 := (by simp only [hl9])
 rw [decide_eq_true hd318] at hA317
 refine st hA317 (op_move rfl (hA317.ev rfl)) rfl rfl (by decide) fun a319 hA320 => ?_; clear hA317 a316
 refine stg hA320 (op_move rfl (hA320.ev rfl)) rfl rfl rfl rfl (by decide) fun a321 hA322 => ?_; clear hA320 a319
 refine stg hA322 (op_move rfl (hA322.ev rfl)) rfl rfl rfl rfl (by decide) fun a323 hA324 => ?_; clear hA322 a321
 refine stg hA324 (op_eql rfl (hA324.ev rfl) (hA324.ev rfl)) rfl rfl rfl rfl (by decide) fun a325 hA326 => ?_; clear hA324 a323
 have hd327 : (planF R rs (longF plan kk y)) = (planF R rs plan) := (by simp only [hl9])
 rw [decide_eq_true hd327] at hA326
 refine st hA326 (op_pick_t rfl (hA326.ev rfl) (hA326.ev rfl)) rfl rfl (by decide) fun a328 hA329 => ?_; clear hA326 a325
 refine st hA329 (op_move rfl (hA329.ev rfl)) rfl rfl (by decide) fun a330 hA331 => ?_; clear hA329 a328
 refine stg hA331 (op_move rfl (hA331.ev rfl)) rfl rfl rfl rfl (by decide) fun a332 hA333 => ?_; clear hA331 a330
 refine stg hA333 (op_move rfl (hA333.ev rfl)) rfl rfl rfl rfl (by decide) fun a334 hA335 => ?_; clear hA333 a332
 refine stg hA335 (op_eql rfl (hA335.ev rfl) (hA335.ev rfl)) rfl rfl rfl rfl (by decide) fun a336 hA337 => ?_; clear hA335 a334
 have hd338 : (planF R rs (hotF plan R.length kk)) = (planF R rs plan) := (by simp only [hl9])
 rw [decide_eq_true hd338] at hA337
 refine st hA337 (op_pick_t rfl (hA337.ev rfl) (hA337.ev rfl)) rfl rfl (by decide) fun a339 hA340 => ?_; clear hA337 a336
 refine st hA340 (op_move rfl (hA340.ev rfl)) rfl rfl (by decide) fun a341 hA342 => ?_; clear hA340 a339
 refine stwg hA342 (op_call rfl en_17 ev0 (awake_ok _)) rfl rfl rfl rfl (by decide) ?_
 rintro a343 _ w345 ⟨rfl, hE346⟩ hA344; have hS347 := hS304.step hE346; clear hE346 hA342 hS304 a341
 refine st hA344 (op_pick_t rfl (hA344.ev rfl) (hA344.ev rfl)) rfl rfl (by decide) fun a348 hA349 => ?_; clear hA344 a343
 refine st hA349 (op_assign rfl (hA349.ev rfl)) rfl rfl (by decide) fun a350 hA351 => ?_; clear hA349 a348
 refine wl_nil ?_
 refine then_n ?_
 refine c_ret ?_
 refine then_ret ?_
 refine fin_run hA351 (.inl rfl) (run_results1 hA351 rfl (.tmp rfl)) ?_
 exact ⟨rfl, hS347.ext⟩
set_option maxHeartbeats 4000000 in
theorem CreepLonger_c (w : World) (R : List (Int × Int)) (vr : Value) (hm : SlAt w vr 2 R.length (pairs R)) (rs : List RunD) (lv : List Value) (vu : Value) (hx : RunsAt w vu lv rs) (plan : List Seg) (vp : Value) (hp : SlAt w vp 3 plan.length (trips plan)) (wh y : Int) (hB : 0 ≤ wh ∧ wh ≤ 255) (hy : 0 ≤ y ∧ y ≤ 65535) (hf : readyB R rs plan = true) (h0 : 0 < plan.length) (hc : possF R rs = 0) :
  Calls Try.prog 7 #[(Value.agg #[vr]), vu, vp, (Value.int .u8 wh), (Value.int .u16 y)] w (Ret fun v w' => v = .bool true ∧ Ext NoB w w') := by
 refine calls_enter Try.func7 rfl fun a0 hA0 => ?_
 replace hA0 : Fr 229 [] [(0, (Value.agg #[vr])), (1, vu), (2, vp), (3, (Value.int .u8 wh)), (4, (Value.int .u16 y))] a0 := hA0
 have hrd := ready_is hf; have hth := hrd.1; have he := hrd.2.1; have h6 := hth.mat; have h9 := hth.runs; have h12 := hth.plan; have hp8 := hrd.2.2.1; have hsb := hrd.2.2.2; have hcm := check_mat (enter_mat he); have hR := hcm.1; have hR1 := hcm.2.1; have hR3 := hR.1; have hV := enter_runs he; have hs : ∀ i, i < plan.length → SegV R.length (plan.getD i (0, 0, 0)) := fun i hi => segV_of (List.all_eq_true.1 hsb i (List.mem_range.2 hi)); have hrt := ratesF_len R rs; have hle := allowed_le (rs := rs) hR; have hal := (poss_is hc).2; have hc0 : planF R rs plan = 0 := plan_0 hc hp8 hsb
 have hS0 : Sep NoB w w [(sl vr 2 R.length (pairs R)), (runsR false vu lv rs), (sl vp 3 plan.length (trips plan))] := sep_ro ⟨rfl, hm, rfl, hx, rfl, hp, trivial⟩
 refine c_seq ?_
 refine c_region ?_
 refine stw hA0 (op_box hS0 rfl (hA0.ev rfl) (cs := [vr]) rfl) rfl rfl (by decide) ?_
 rintro a1 _ w3 ⟨b4, rfl, hS5⟩ hA2; clear hA0 hS0 a0
 refine st hA2 (op_assign rfl (evc _ _)) rfl rfl (by decide) fun a6 hA7 => ?_; clear hA2 a1
 refine wl_nil ?_
 refine then_n ?_
 refine c_seq ?_
 refine c_seq ?_
 refine c_region ?_
 refine st hA7 (op_loadA rfl ty_24 (hA7.ev rfl) (hS5.bk 0 rfl) (l := [vr]) rfl rfl) rfl rfl (by decide) fun a8 hA9 => ?_; clear hA7 a6
 refine st hA9 (op_move rfl (hA9.ev rfl)) rfl rfl (by decide) fun a10 hA11 => ?_; clear hA9 a8
 refine st hA11 (op_move rfl (hA11.ev rfl)) rfl rfl (by decide) fun a12 hA13 => ?_; clear hA11 a10
 refine stw hA13 (op_call rfl en_27 (ev3 (hA13.ev rfl) (hA13.ev rfl) (hA13.ev rfl)) (ready_ok _ R _ (hS5.sk 1 rfl) rs _ _ (runs_at (hS5.ok 2 _ rfl)) plan _ (hS5.sk 3 rfl))) rfl rfl (by decide) ?_
 rintro a14 _ w16 ⟨rfl, hE17⟩ hA15; have hS18 := hS5.step hE17; clear hE17 hA13 hS5 a12
 rw [hf] at hA15
 refine st hA15 (op_not rfl (hA15.ev rfl)) rfl rfl (by decide) fun a19 hA20 => ?_; clear hA15 a14
 refine st hA20 (op_move rfl (hA20.ev rfl)) rfl rfl (by decide) fun a21 hA22 => ?_; clear hA20 a19
 refine stg hA22 (op_move rfl (hA22.ev rfl)) rfl rfl rfl rfl (by decide) fun a23 hA24 => ?_; clear hA22 a21
 refine stg hA24 (op_lenS rfl un_51 (hA24.ev rfl) (hS18.sk 3 rfl)) rfl rfl rfl rfl (by decide) fun a25 hA26 => ?_; clear hA24 a23
 refine stg hA26 (op_eql rfl (hA26.ev rfl) (evc _ _)) rfl rfl rfl rfl (by decide) fun a27 hA28 => ?_; clear hA26 a25
 have hd29 : ¬ ((plan.length : Int) = 0) := (by omega)
 rw [decide_eq_false hd29] at hA28
 refine st hA28 (op_pick_f rfl (hA28.ev rfl) (hA28.ev rfl)) rfl rfl (by decide) fun a30 hA31 => ?_; clear hA28 a27
 refine wl_nil ?_
 refine then_n ?_
 refine c_false hA31 rfl ?_
 refine c_skip ?_
 refine then_n ?_
 refine c_seq ?_
 have hA32 := hA31.as [(5, (bptr b4 0)), (1, vu), (2, vp), (3, (Value.int .u8 wh)), (4, (Value.int .u16 y))] rfl; clear hA31
 refine c_region ?_
 refine st hA32 (op_move rfl (hA32.ev rfl)) rfl rfl (by decide) fun a33 hA34 => ?_; clear hA32 a30
 refine st hA34 (op_conv un_5 un_3 rfl (hA34.ev rfl) (v := wh) (wrap_i64 (by omega) (by omega))) rfl rfl (by decide) fun a35 hA36 => ?_; clear hA34 a33
 refine st hA36 (op_move rfl (hA36.ev rfl)) rfl rfl (by decide) fun a37 hA38 => ?_; clear hA36 a35
 refine st hA38 (op_lenS rfl un_51 (hA38.ev rfl) (hS18.sk 3 rfl)) rfl rfl (by decide) fun a39 hA40 => ?_; clear hA38 a37
 refine st hA40 (op_rem rfl (hA40.ev rfl) (hA40.ev rfl) (by omega)) rfl rfl (by decide) fun a41 hA42 => ?_; clear hA40 a39
 refine st hA42 (op_assign rfl (hA42.ev rfl)) rfl rfl (by decide) fun a43 hA44 => ?_; clear hA42 a41
 refine wl_nil ?_
 refine then_n ?_
 refine c_seq ?_
 have hA45 := hA44.as [(11, (Value.int .i64 ((wh).tmod (plan.length : Int)))), (5, (bptr b4 0)), (1, vu), (2, vp), (4, (Value.int .u16 y))] rfl; clear hA44
 obtain ⟨kk, hz_kk, hb_kk⟩ := rem_nat (n := wh) (m := plan.length) hB.1 (by omega); rw [hz_kk] at hA45
 have hsk := hs kk hb_kk; have hskb := hsk.b; have hskh := hsk.h; have hyd : y.tdiv 2 = y / 2 := Int.tdiv_eq_ediv_of_nonneg hy.1; have hl1 := long1_f (plan := plan) (y := y) hb_kk; have hln := longF_len plan kk y; have hl1n := long1_len plan kk y; have hhn := hotF_len plan R.length kk
 refine c_region ?_
 refine stw hA45 (op_buildSlice hS18 rfl pv0 un_51 ty_56 ze_56 (by decide) (cs := []) bs_56_0_) rfl rfl (by decide) ?_
 rintro a46 _ w48 ⟨b49, rfl, hS50⟩ hA47; clear hA45 hS18 a43
 refine st hA47 (op_move rfl (hA47.ev rfl)) rfl rfl (by decide) fun a51 hA52 => ?_; clear hA47 a46
 have hS53 := hS50.blk_row (i := 0) (sz := 3) (n := 0) rfl rfl (by decide); clear hS50
 refine stw hA52 (op_append hS53 rfl un_51 el_56 (hA52.ev rfl) (hA52.ev rfl) (i := 0) rfl (hS53.sk 4 rfl) (trips_one _) (by simp only [maxLen]; omega) (by omega)) rfl rfl (by decide) ?_
 intro a54 v57 w56 hS58 hA55
 have hS59 := hS58.row_say (i := 0) rfl (n' := plan.length) (xs' := (trips plan)) (by simp) (by simp); clear hS58 hA52 hS53 a51
 refine stw hA55 (op_buildSlice hS59 rfl pv0 un_51 ty_56 ze_56 (by decide) (cs := []) bs_56_0_) rfl rfl (by decide) ?_
 rintro a60 _ w62 ⟨b63, rfl, hS64⟩ hA61; clear hA55 hS59 a54
 refine st hA61 (op_move rfl (hA61.ev rfl)) rfl rfl (by decide) fun a65 hA66 => ?_; clear hA61 a60
 have hS67 := hS64.blk_row (i := 0) (sz := 3) (n := 0) rfl rfl (by decide); clear hS64
 refine stw hA66 (op_append hS67 rfl un_51 el_56 (hA66.ev rfl) (hA66.ev rfl) (i := 0) rfl (hS67.sk 5 rfl) (trips_one _) (by simp only [maxLen]; omega) (by omega)) rfl rfl (by decide) ?_
 intro a68 v71 w70 hS72 hA69
 have hS73 := hS72.row_say (i := 0) rfl (n' := plan.length) (xs' := (trips plan)) (by simp) (by simp); clear hS72 hA66 hS67 a65
 refine st hA69 (op_assign rfl (hA69.ev rfl)) rfl rfl (by decide) fun a74 hA75 => ?_; clear hA69 a68
 refine st hA75 (op_assign rfl (hA75.ev rfl)) rfl rfl (by decide) fun a76 hA77 => ?_; clear hA75 a74
 refine wl_nil ?_
 refine then_n ?_
 refine c_seq ?_
 have hA78 := hA77.as [(13, v71), (12, v57), (11, (Value.int .i64 (kk : Int))), (5, (bptr b4 0)), (1, vu), (2, vp), (4, (Value.int .u16 y))] rfl; clear hA77
 refine c_region ?_
 refine st hA78 (op_move rfl (hA78.ev rfl)) rfl rfl (by decide) fun a79 hA80 => ?_; clear hA78 a76
 refine st hA80 (op_move rfl (hA80.ev rfl)) rfl rfl (by decide) fun a81 hA82 => ?_; clear hA80 a79
 refine st hA82 (op_move rfl (hA82.ev rfl)) rfl rfl (by decide) fun a83 hA84 => ?_; clear hA82 a81
 refine st hA84 (op_move rfl (hA84.ev rfl)) rfl rfl (by decide) fun a85 hA86 => ?_; clear hA84 a83
 refine st hA86 (op_indexS rfl un_51 ty_56 (hA86.ev rfl) (i := kk) (hA86.ev rfl) (SlAt.of_row (hS73.ok_row 1 rfl)) (by decide) (by omega)) rfl rfl (by decide) fun a87 hA88 => ?_; clear hA86 a85
 refine st hA88 (op_fieldS rfl fd_56_1 (hA88.ev rfl) (SlAt.of_row (hS73.ok_row 1 rfl)) (by rw [((SlAt.of_row (hS73.ok_row 1 rfl))).1]; omega)) rfl rfl (by decide) fun a89 hA90 => ?_; clear hA88 a87
 refine st hA90 (op_fieldS rfl fd_48_1 (hA90.ev rfl) (SlAt.of_row (hS73.ok_row 1 rfl)) (by rw [((SlAt.of_row (hS73.ok_row 1 rfl))).1]; omega)) rfl rfl (by decide) fun a91 hA92 => ?_; clear hA90 a89
 refine st hA92 (op_load1E rfl ty_3 (hA92.ev rfl) (SlAt.of_row (hS73.ok_row 1 rfl)) (trips_at2 (by omega))) rfl rfl (by decide) fun a93 hA94 => ?_; clear hA92 a91
 refine st hA94 (op_move rfl (hA94.ev rfl)) rfl rfl (by decide) fun a95 hA96 => ?_; clear hA94 a93
 refine st hA96 (op_conv un_52 un_3 rfl (hA96.ev rfl) (v := y) (wrap_i64 (by omega) (by omega))) rfl rfl (by decide) fun a97 hA98 => ?_; clear hA96 a95
 refine st hA98 (op_add rfl (hA98.ev rfl) (hA98.ev rfl) (by omega) (by omega)) rfl rfl (by decide) fun a99 hA100 => ?_; clear hA98 a97
 refine st hA100 (op_min rfl (evc _ _) (hA100.ev rfl)) rfl rfl (by decide) fun a101 hA102 => ?_; clear hA100 a99
 refine st hA102 (op_indexS rfl un_51 ty_56 (hA102.ev rfl) (i := kk) (hA102.ev rfl) (SlAt.of_row (hS73.ok_row 1 rfl)) (by decide) (by omega)) rfl rfl (by decide) fun a103 hA104 => ?_; clear hA102 a101
 refine st hA104 (op_fieldS rfl fd_56_1 (hA104.ev rfl) (SlAt.of_row (hS73.ok_row 1 rfl)) (by rw [((SlAt.of_row (hS73.ok_row 1 rfl))).1]; omega)) rfl rfl (by decide) fun a105 hA106 => ?_; clear hA104 a103
 refine st hA106 (op_fieldS rfl fd_48_1 (hA106.ev rfl) (SlAt.of_row (hS73.ok_row 1 rfl)) (by rw [((SlAt.of_row (hS73.ok_row 1 rfl))).1]; omega)) rfl rfl (by decide) fun a107 hA108 => ?_; clear hA106 a105
 refine sts hA108 (op_storeE hS73 rfl ty_3 (hA108.ev rfl) (hA108.ev rfl) (i := 1) rfl (vs := [(Value.int .i64 (min 1000000 (((plan.getD kk (0, 0, 0)).2.2) + y)))]) rfl rfl rfl (by simp only [trips_length, long1_len, longF_len, hotF_len]; omega) (by decide)) rfl rfl ?_
 intro _ w109 hS110 hA112; have hS111 := hS110.row_say (i := 1) rfl (n' := (plan.set kk ((plan.getD kk (0, 0, 0)).1, (plan.getD kk (0, 0, 0)).2.1, min 1000000 (((plan.getD kk (0, 0, 0)).2.2) + y))).length) (xs' := (trips (plan.set kk ((plan.getD kk (0, 0, 0)).1, (plan.getD kk (0, 0, 0)).2.1, min 1000000 (((plan.getD kk (0, 0, 0)).2.2) + y))))) (by simp only [List.length_set]) (trips_setAt _ _ (by omega) _).2.2; clear hS110 hA108 hS73
 refine wl_nil ?_
 refine then_n ?_
 refine c_seq ?_
 have hA113 := hA112.as [(13, v71), (12, v57), (11, (Value.int .i64 (kk : Int))), (5, (bptr b4 0)), (1, vu), (2, vp), (4, (Value.int .u16 y))] rfl; clear hA112
 have hS114 := hS111.row_say (i := 1) rfl (n' := (long1 plan kk y).length) (xs' := (trips (long1 plan kk y))) rfl rfl; clear hS111
 have hA115 := hA113.as [(13, v71), (12, v57), (11, (Value.int .i64 (kk : Int))), (5, (bptr b4 0)), (1, vu), (2, vp), (4, (Value.int .u16 y))] rfl; clear hA113
 refine c_drawV mixed hA115 hS114 19 [[], [], [], [], [2, 3], [4], [5], [6], [], [], [8, 9], [10], [11], [12], [], [14], [15], [13, 16], [7, 17]] [(fun (vs116 : Nat → Value) (v_ : Value) (rs_ : List Res) => v_ = v57 ∧ rs_ = []), (fun (vs116 : Nat → Value) (v_ : Value) (rs_ : List Res) => v_ = (Value.int .i64 (kk : Int)) ∧ rs_ = []), (fun (vs116 : Nat → Value) (v_ : Value) (rs_ : List Res) => v_ = v57 ∧ rs_ = []), (fun (vs116 : Nat → Value) (v_ : Value) (rs_ : List Res) => v_ = (Value.int .i64 (kk : Int)) ∧ rs_ = []), (fun (vs116 : Nat → Value) (v_ : Value) (rs_ : List Res) => v_ = (eptr v57 (kk * 3)) ∧ rs_ = []), (fun (vs116 : Nat → Value) (v_ : Value) (rs_ : List Res) => v_ = (eptr v57 (kk * 3 + 1)) ∧ rs_ = []), (fun (vs116 : Nat → Value) (v_ : Value) (rs_ : List Res) => v_ = (eptr v57 (kk * 3 + 1 + 1)) ∧ rs_ = []), (fun (vs116 : Nat → Value) (v_ : Value) (rs_ : List Res) => v_ = (Value.int .i64 (((long1 plan kk y).getD kk (0, 0, 0)).2.2)) ∧ rs_ = []), (fun (vs116 : Nat → Value) (v_ : Value) (rs_ : List Res) => v_ = v57 ∧ rs_ = []), (fun (vs116 : Nat → Value) (v_ : Value) (rs_ : List Res) => v_ = (Value.int .i64 (kk : Int)) ∧ rs_ = []), (fun (vs116 : Nat → Value) (v_ : Value) (rs_ : List Res) => v_ = (eptr v57 (kk * 3)) ∧ rs_ = []), (fun (vs116 : Nat → Value) (v_ : Value) (rs_ : List Res) => v_ = (eptr v57 (kk * 3 + 1)) ∧ rs_ = []), (fun (vs116 : Nat → Value) (v_ : Value) (rs_ : List Res) => v_ = (eptr v57 (kk * 3 + 1 + 0)) ∧ rs_ = []), (fun (vs116 : Nat → Value) (v_ : Value) (rs_ : List Res) => v_ = (Value.int .i64 (((long1 plan kk y).getD kk (0, 0, 0)).2.1)) ∧ rs_ = []), (fun (vs116 : Nat → Value) (v_ : Value) (rs_ : List Res) => v_ = (Value.int .u16 y) ∧ rs_ = []), (fun (vs116 : Nat → Value) (v_ : Value) (rs_ : List Res) => v_ = (Value.int .i64 y) ∧ rs_ = []), (fun (vs116 : Nat → Value) (v_ : Value) (rs_ : List Res) => v_ = (Value.int .i64 ((y).tdiv 2)) ∧ rs_ = []), (fun (vs116 : Nat → Value) (v_ : Value) (rs_ : List Res) => v_ = (Value.int .i64 ((((long1 plan kk y).getD kk (0, 0, 0)).2.1) + ((y).tdiv 2))) ∧ rs_ = []), (fun (vs116 : Nat → Value) (v_ : Value) (rs_ : List Res) => v_ = (Value.int .i64 (min (((long1 plan kk y).getD kk (0, 0, 0)).2.2) ((((long1 plan kk y).getD kk (0, 0, 0)).2.1) + ((y).tdiv 2)))) ∧ rs_ = [])] (by decide +kernel) (by decide +kernel) rfl rfl ⟨(fun _ _ _ _ _ h_ => h_), (fun _ _ _ _ _ h_ => h_), (fun _ _ _ _ _ h_ => h_), (fun _ _ _ _ _ h_ => h_), (fun _ _ _ _ _ h_ => h_), (fun _ _ _ _ _ h_ => h_), (fun _ _ _ _ _ h_ => h_), (fun _ _ _ _ _ h_ => h_), (fun _ _ _ _ _ h_ => h_), (fun _ _ _ _ _ h_ => h_), (fun _ _ _ _ _ h_ => h_), (fun _ _ _ _ _ h_ => h_), (fun _ _ _ _ _ h_ => h_), (fun _ _ _ _ _ h_ => h_), (fun _ _ _ _ _ h_ => h_), (fun _ _ _ _ _ h_ => h_), (fun _ _ _ _ _ h_ => h_), (fun _ _ _ _ _ h_ => h_), (fun _ _ _ _ _ h_ => h_), trivial⟩ ?_ ?_
 ·skip
  refine ⟨fun a w vs116 hA hS hd => ?_, ?_⟩
  ·skip
   exact opG_of rfl (vv (op_move rfl (hA.ev rfl)) (And.intro rfl rfl))
  refine ⟨fun a w vs116 hA hS hd => ?_, ?_⟩
  ·skip
   exact opG_of rfl (vv (op_move rfl (hA.ev rfl)) (And.intro rfl rfl))
  refine ⟨fun a w vs116 hA hS hd => ?_, ?_⟩
  ·skip
   exact opG_of rfl (vv (op_move rfl (hA.ev rfl)) (And.intro rfl rfl))
  refine ⟨fun a w vs116 hA hS hd => ?_, ?_⟩
  ·skip
   exact opG_of rfl (vv (op_move rfl (hA.ev rfl)) (And.intro rfl rfl))
  refine ⟨fun a w vs116 hA hS hd => ?_, ?_⟩
  ·skip
   obtain ⟨e2, rs2, hy2, hp2⟩ := hd 2 (by decide)
   obtain ⟨hv2, hr2⟩ := hy2; subst hr2
   rw [hv2] at e2
   obtain ⟨e3, rs3, hy3, hp3⟩ := hd 3 (by decide)
   obtain ⟨hv3, hr3⟩ := hy3; subst hr3
   rw [hv3] at e3
   exact opG_of rfl (vv (op_indexS rfl un_51 ty_56 (tmp_ev (slot_ev e2 rfl)) (i := kk) (tmp_ev (slot_ev e3 rfl)) (SlAt.of_row (hS.ok_row 1 rfl)) (by decide) (by omega)) (And.intro rfl rfl))
  refine ⟨fun a w vs116 hA hS hd => ?_, ?_⟩
  ·skip
   obtain ⟨e4, rs4, hy4, hp4⟩ := hd 4 (by decide)
   obtain ⟨hv4, hr4⟩ := hy4; subst hr4
   rw [hv4] at e4
   exact opG_of rfl (vv (op_fieldS rfl fd_56_1 (tmp_ev (slot_ev e4 rfl)) (SlAt.of_row (hS.ok_row 1 rfl)) (by rw [((SlAt.of_row (hS.ok_row 1 rfl))).1]; omega)) (And.intro rfl rfl))
  refine ⟨fun a w vs116 hA hS hd => ?_, ?_⟩
  ·skip
   obtain ⟨e5, rs5, hy5, hp5⟩ := hd 5 (by decide)
   obtain ⟨hv5, hr5⟩ := hy5; subst hr5
   rw [hv5] at e5
   exact opG_of rfl (vv (op_fieldS rfl fd_48_1 (tmp_ev (slot_ev e5 rfl)) (SlAt.of_row (hS.ok_row 1 rfl)) (by rw [((SlAt.of_row (hS.ok_row 1 rfl))).1]; omega)) (And.intro rfl rfl))
  refine ⟨fun a w vs116 hA hS hd => ?_, ?_⟩
  ·skip
   obtain ⟨e6, rs6, hy6, hp6⟩ := hd 6 (by decide)
   obtain ⟨hv6, hr6⟩ := hy6; subst hr6
   rw [hv6] at e6
   exact opG_of rfl (vv (op_load1E rfl ty_3 (tmp_ev (slot_ev e6 rfl)) (SlAt.of_row (hS.ok_row 1 rfl)) (trips_at2 (by omega))) (And.intro rfl rfl))
  refine ⟨fun a w vs116 hA hS hd => ?_, ?_⟩
  ·skip
   exact opG_of rfl (vv (op_move rfl (hA.ev rfl)) (And.intro rfl rfl))
  refine ⟨fun a w vs116 hA hS hd => ?_, ?_⟩
  ·skip
   exact opG_of rfl (vv (op_move rfl (hA.ev rfl)) (And.intro rfl rfl))
  refine ⟨fun a w vs116 hA hS hd => ?_, ?_⟩
  ·skip
   obtain ⟨e8, rs8, hy8, hp8⟩ := hd 8 (by decide)
   obtain ⟨hv8, hr8⟩ := hy8; subst hr8
   rw [hv8] at e8
   obtain ⟨e9, rs9, hy9, hp9⟩ := hd 9 (by decide)
   obtain ⟨hv9, hr9⟩ := hy9; subst hr9
   rw [hv9] at e9
   exact opG_of rfl (vv (op_indexS rfl un_51 ty_56 (tmp_ev (slot_ev e8 rfl)) (i := kk) (tmp_ev (slot_ev e9 rfl)) (SlAt.of_row (hS.ok_row 1 rfl)) (by decide) (by omega)) (And.intro rfl rfl))
  refine ⟨fun a w vs116 hA hS hd => ?_, ?_⟩
  ·skip
   obtain ⟨e10, rs10, hy10, hp10⟩ := hd 10 (by decide)
   obtain ⟨hv10, hr10⟩ := hy10; subst hr10
   rw [hv10] at e10
   exact opG_of rfl (vv (op_fieldS rfl fd_56_1 (tmp_ev (slot_ev e10 rfl)) (SlAt.of_row (hS.ok_row 1 rfl)) (by rw [((SlAt.of_row (hS.ok_row 1 rfl))).1]; omega)) (And.intro rfl rfl))
  refine ⟨fun a w vs116 hA hS hd => ?_, ?_⟩
  ·skip
   obtain ⟨e11, rs11, hy11, hp11⟩ := hd 11 (by decide)
   obtain ⟨hv11, hr11⟩ := hy11; subst hr11
   rw [hv11] at e11
   exact opG_of rfl (vv (op_fieldS rfl fd_48_0 (tmp_ev (slot_ev e11 rfl)) (SlAt.of_row (hS.ok_row 1 rfl)) (by rw [((SlAt.of_row (hS.ok_row 1 rfl))).1]; omega)) (And.intro rfl rfl))
  refine ⟨fun a w vs116 hA hS hd => ?_, ?_⟩
  ·skip
   obtain ⟨e12, rs12, hy12, hp12⟩ := hd 12 (by decide)
   obtain ⟨hv12, hr12⟩ := hy12; subst hr12
   rw [hv12] at e12
   exact opG_of rfl (vv (op_load1E rfl ty_3 (tmp_ev (slot_ev e12 rfl)) (SlAt.of_row (hS.ok_row 1 rfl)) (trips_at1 (by omega))) (And.intro rfl rfl))
  refine ⟨fun a w vs116 hA hS hd => ?_, ?_⟩
  ·skip
   exact opG_of rfl (vv (op_move rfl (hA.ev rfl)) (And.intro rfl rfl))
  refine ⟨fun a w vs116 hA hS hd => ?_, ?_⟩
  ·skip
   obtain ⟨e14, rs14, hy14, hp14⟩ := hd 14 (by decide)
   obtain ⟨hv14, hr14⟩ := hy14; subst hr14
   rw [hv14] at e14
   exact opG_of rfl (vv (op_conv un_52 un_3 rfl (tmp_ev (slot_ev e14 rfl)) (v := y) (wrap_i64 (by omega) (by omega))) (And.intro rfl rfl))
  refine ⟨fun a w vs116 hA hS hd => ?_, ?_⟩
  ·skip
   obtain ⟨e15, rs15, hy15, hp15⟩ := hd 15 (by decide)
   obtain ⟨hv15, hr15⟩ := hy15; subst hr15
   rw [hv15] at e15
   exact opG_of rfl (vv (op_quo rfl (tmp_ev (slot_ev e15 rfl)) (evc _ _) (by omega) (by omega) (by omega)) (And.intro rfl rfl))
  refine ⟨fun a w vs116 hA hS hd => ?_, ?_⟩
  ·skip
   obtain ⟨e13, rs13, hy13, hp13⟩ := hd 13 (by decide)
   obtain ⟨hv13, hr13⟩ := hy13; subst hr13
   rw [hv13] at e13
   obtain ⟨e16, rs16, hy16, hp16⟩ := hd 16 (by decide)
   obtain ⟨hv16, hr16⟩ := hy16; subst hr16
   rw [hv16] at e16
   exact opG_of rfl (vv (op_add rfl (tmp_ev (slot_ev e13 rfl)) (tmp_ev (slot_ev e16 rfl)) (by omega) (by omega)) (And.intro rfl rfl))
  refine ⟨fun a w vs116 hA hS hd => ?_, ?_⟩
  ·skip
   obtain ⟨e7, rs7, hy7, hp7⟩ := hd 7 (by decide)
   obtain ⟨hv7, hr7⟩ := hy7; subst hr7
   rw [hv7] at e7
   obtain ⟨e17, rs17, hy17, hp17⟩ := hd 17 (by decide)
   obtain ⟨hv17, hr17⟩ := hy17; subst hr17
   rw [hv17] at e17
   exact opG_of rfl (vv (op_min rfl (tmp_ev (slot_ev e7 rfl)) (tmp_ev (slot_ev e17 rfl))) (And.intro rfl rfl))
  trivial
 intro a117 w118 vs116 rsf122 hA119 hH121 hS120; clear hA115 hS114
 obtain ⟨hs_0, hy_0⟩ := hH121 0 (by decide)
 obtain ⟨hv_0, hr_0⟩ := hy_0
 obtain ⟨hs_1, hy_1⟩ := hH121 1 (by decide)
 obtain ⟨hv_1, hr_1⟩ := hy_1
 obtain ⟨hs_2, hy_2⟩ := hH121 2 (by decide)
 obtain ⟨hv_2, hr_2⟩ := hy_2
 obtain ⟨hs_3, hy_3⟩ := hH121 3 (by decide)
 obtain ⟨hv_3, hr_3⟩ := hy_3
 obtain ⟨hs_4, hy_4⟩ := hH121 4 (by decide)
 obtain ⟨hv_4, hr_4⟩ := hy_4
 obtain ⟨hs_5, hy_5⟩ := hH121 5 (by decide)
 obtain ⟨hv_5, hr_5⟩ := hy_5
 obtain ⟨hs_6, hy_6⟩ := hH121 6 (by decide)
 obtain ⟨hv_6, hr_6⟩ := hy_6
 obtain ⟨hs_7, hy_7⟩ := hH121 7 (by decide)
 obtain ⟨hv_7, hr_7⟩ := hy_7
 obtain ⟨hs_8, hy_8⟩ := hH121 8 (by decide)
 obtain ⟨hv_8, hr_8⟩ := hy_8
 obtain ⟨hs_9, hy_9⟩ := hH121 9 (by decide)
 obtain ⟨hv_9, hr_9⟩ := hy_9
 obtain ⟨hs_10, hy_10⟩ := hH121 10 (by decide)
 obtain ⟨hv_10, hr_10⟩ := hy_10
 obtain ⟨hs_11, hy_11⟩ := hH121 11 (by decide)
 obtain ⟨hv_11, hr_11⟩ := hy_11
 obtain ⟨hs_12, hy_12⟩ := hH121 12 (by decide)
 obtain ⟨hv_12, hr_12⟩ := hy_12
 obtain ⟨hs_13, hy_13⟩ := hH121 13 (by decide)
 obtain ⟨hv_13, hr_13⟩ := hy_13
 obtain ⟨hs_14, hy_14⟩ := hH121 14 (by decide)
 obtain ⟨hv_14, hr_14⟩ := hy_14
 obtain ⟨hs_15, hy_15⟩ := hH121 15 (by decide)
 obtain ⟨hv_15, hr_15⟩ := hy_15
 obtain ⟨hs_16, hy_16⟩ := hH121 16 (by decide)
 obtain ⟨hv_16, hr_16⟩ := hy_16
 obtain ⟨hs_17, hy_17⟩ := hH121 17 (by decide)
 obtain ⟨hv_17, hr_17⟩ := hy_17
 obtain ⟨hs_18, hy_18⟩ := hH121 18 (by decide)
 obtain ⟨hv_18, hr_18⟩ := hy_18
 have hS123 : Sep NoB w w118 [(row v71 56 3 plan.length (trips plan)), (row v57 56 3 ((long1 plan kk y).length) (trips (long1 plan kk y))), (blk b4 24 [vr]), (sl vr 2 R.length (pairs R)), (runsR false vu lv rs), (sl vp 3 plan.length (trips plan))] := by rw [show catR rsf122 0 19 = ([] : List Res) by (try simp only [catR, hr_0, hr_1, hr_2, hr_3, hr_4, hr_5, hr_6, hr_7, hr_8, hr_9, hr_10, hr_11, hr_12, hr_13, hr_14, hr_15, hr_16, hr_17, hr_18]); (try rfl)] at hS120; exact hS120
 rw [hv_0] at hs_0
 have hA124 : Fr 229 [] [(61, v57), (13, v71), (12, v57), (11, (Value.int .i64 (kk : Int))), (5, (bptr b4 0)), (1, vu), (2, vp), (4, (Value.int .u16 y))] a117 := hA119.add (slot_ev hs_0 rfl); clear hA119
 rw [hv_1] at hs_1
 have hA125 : Fr 229 [] [(62, (Value.int .i64 (kk : Int))), (61, v57), (13, v71), (12, v57), (11, (Value.int .i64 (kk : Int))), (5, (bptr b4 0)), (1, vu), (2, vp), (4, (Value.int .u16 y))] a117 := hA124.add (slot_ev hs_1 rfl); clear hA124
 rw [hv_18] at hs_18
 have hA126 : Fr 229 [] [(79, (Value.int .i64 (min (((long1 plan kk y).getD kk (0, 0, 0)).2.2) ((((long1 plan kk y).getD kk (0, 0, 0)).2.1) + ((y).tdiv 2))))), (62, (Value.int .i64 (kk : Int))), (61, v57), (13, v71), (12, v57), (11, (Value.int .i64 (kk : Int))), (5, (bptr b4 0)), (1, vu), (2, vp), (4, (Value.int .u16 y))] a117 := hA125.add (slot_ev hs_18 rfl); clear hA125
 clear hH121 hS120 hs_0 hs_1 hs_2 hs_3 hs_4 hs_5 hs_6 hs_7 hs_8 hs_9 hs_10 hs_11 hs_12 hs_13 hs_14 hs_15 hs_16 hs_17 hs_18
 clear hr_0
 clear hv_0
 clear hr_1
 clear hv_1
 clear hr_2
 clear hv_2
 clear hr_3
 clear hv_3
 clear hr_4
 clear hv_4
 clear hr_5
 clear hv_5
 clear hr_6
 clear hv_6
 clear hr_7
 clear hv_7
 clear hr_8
 clear hv_8
 clear hr_9
 clear hv_9
 clear hr_10
 clear hv_10
 clear hr_11
 clear hv_11
 clear hr_12
 clear hv_12
 clear hr_13
 clear hv_13
 clear hr_14
 clear hv_14
 clear hr_15
 clear hv_15
 clear hr_16
 clear hv_16
 clear hr_17
 clear hv_17
 clear hr_18
 clear hv_18
 refine st hA126 (op_indexS rfl un_51 ty_56 (hA126.ev rfl) (i := kk) (hA126.ev rfl) (SlAt.of_row (hS123.ok_row 1 rfl)) (by decide) (by omega)) rfl rfl (by decide) fun a127 hA128 => ?_; clear hA126 a117
 refine st hA128 (op_fieldS rfl fd_56_1 (hA128.ev rfl) (SlAt.of_row (hS123.ok_row 1 rfl)) (by rw [((SlAt.of_row (hS123.ok_row 1 rfl))).1]; omega)) rfl rfl (by decide) fun a129 hA130 => ?_; clear hA128 a127
 refine st hA130 (op_fieldS rfl fd_48_0 (hA130.ev rfl) (SlAt.of_row (hS123.ok_row 1 rfl)) (by rw [((SlAt.of_row (hS123.ok_row 1 rfl))).1]; omega)) rfl rfl (by decide) fun a131 hA132 => ?_; clear hA130 a129
 refine sts hA132 (op_storeE hS123 rfl ty_3 (hA132.ev rfl) (hA132.ev rfl) (i := 1) rfl (vs := [(Value.int .i64 (min (((long1 plan kk y).getD kk (0, 0, 0)).2.2) ((((long1 plan kk y).getD kk (0, 0, 0)).2.1) + ((y).tdiv 2))))]) rfl rfl rfl (by simp only [trips_length, long1_len, longF_len, hotF_len]; omega) (by decide)) rfl rfl ?_
 intro _ w133 hS134 hA136; have hS135 := hS134.row_say (i := 1) rfl (n' := ((long1 plan kk y).set kk (((long1 plan kk y).getD kk (0, 0, 0)).1, min (((long1 plan kk y).getD kk (0, 0, 0)).2.2) ((((long1 plan kk y).getD kk (0, 0, 0)).2.1) + ((y).tdiv 2)), ((long1 plan kk y).getD kk (0, 0, 0)).2.2)).length) (xs' := (trips ((long1 plan kk y).set kk (((long1 plan kk y).getD kk (0, 0, 0)).1, min (((long1 plan kk y).getD kk (0, 0, 0)).2.2) ((((long1 plan kk y).getD kk (0, 0, 0)).2.1) + ((y).tdiv 2)), ((long1 plan kk y).getD kk (0, 0, 0)).2.2)))) (by simp only [List.length_set]) (trips_setAt _ _ (by omega) _).2.1; clear hS134 hA132 hS123
 refine wl_nil ?_
 refine then_n ?_
 refine c_seq ?_
 have hA137 := hA136.as [(13, v71), (12, v57), (11, (Value.int .i64 (kk : Int))), (5, (bptr b4 0)), (1, vu), (2, vp)] rfl; clear hA136
 have hS138 := hS135.row_say (i := 1) rfl (n' := (longF plan kk y).length) (xs' := (trips (longF plan kk y))) (by rw [longF_of hb_kk]) (congrArg trips (longF_of hb_kk)); clear hS135
 have hA139 := hA137.as [(13, v71), (12, v57), (11, (Value.int .i64 (kk : Int))), (5, (bptr b4 0)), (1, vu), (2, vp)] rfl; clear hA137
 refine c_drawV mixed hA139 hS138 13 [[], [], [], [2], [3], [4], [], [], [6, 7], [8], [9], [10], [5, 11]] [(fun (vs140 : Nat → Value) (v_ : Value) (rs_ : List Res) => v_ = v71 ∧ rs_ = []), (fun (vs140 : Nat → Value) (v_ : Value) (rs_ : List Res) => v_ = (Value.int .i64 (kk : Int)) ∧ rs_ = []), (fun (vs140 : Nat → Value) (v_ : Value) (rs_ : List Res) => v_ = (bptr b4 0) ∧ rs_ = []), (fun (vs140 : Nat → Value) (v_ : Value) (rs_ : List Res) => v_ = vr ∧ rs_ = []), (fun (vs140 : Nat → Value) (v_ : Value) (rs_ : List Res) => v_ = (Value.int .i64 (R.length : Int)) ∧ rs_ = []), (fun (vs140 : Nat → Value) (v_ : Value) (rs_ : List Res) => v_ = (Value.int .i64 ((R.length : Int) - 1)) ∧ rs_ = []), (fun (vs140 : Nat → Value) (v_ : Value) (rs_ : List Res) => v_ = v71 ∧ rs_ = []), (fun (vs140 : Nat → Value) (v_ : Value) (rs_ : List Res) => v_ = (Value.int .i64 (kk : Int)) ∧ rs_ = []), (fun (vs140 : Nat → Value) (v_ : Value) (rs_ : List Res) => v_ = (eptr v71 (kk * 3)) ∧ rs_ = []), (fun (vs140 : Nat → Value) (v_ : Value) (rs_ : List Res) => v_ = (eptr v71 (kk * 3 + 0)) ∧ rs_ = []), (fun (vs140 : Nat → Value) (v_ : Value) (rs_ : List Res) => v_ = (Value.int .i64 ((plan.getD kk (0, 0, 0)).1)) ∧ rs_ = []), (fun (vs140 : Nat → Value) (v_ : Value) (rs_ : List Res) => v_ = (Value.int .i64 (((plan.getD kk (0, 0, 0)).1) + 1)) ∧ rs_ = []), (fun (vs140 : Nat → Value) (v_ : Value) (rs_ : List Res) => v_ = (Value.int .i64 (min ((R.length : Int) - 1) (((plan.getD kk (0, 0, 0)).1) + 1))) ∧ rs_ = [])] (by decide +kernel) (by decide +kernel) rfl rfl ⟨(fun _ _ _ _ _ h_ => h_), (fun _ _ _ _ _ h_ => h_), (fun _ _ _ _ _ h_ => h_), (fun _ _ _ _ _ h_ => h_), (fun _ _ _ _ _ h_ => h_), (fun _ _ _ _ _ h_ => h_), (fun _ _ _ _ _ h_ => h_), (fun _ _ _ _ _ h_ => h_), (fun _ _ _ _ _ h_ => h_), (fun _ _ _ _ _ h_ => h_), (fun _ _ _ _ _ h_ => h_), (fun _ _ _ _ _ h_ => h_), (fun _ _ _ _ _ h_ => h_), trivial⟩ ?_ ?_
 ·skip
  refine ⟨fun a w vs140 hA hS hd => ?_, ?_⟩
  ·skip
   exact opG_of rfl (vv (op_move rfl (hA.ev rfl)) (And.intro rfl rfl))
  refine ⟨fun a w vs140 hA hS hd => ?_, ?_⟩
  ·skip
   exact opG_of rfl (vv (op_move rfl (hA.ev rfl)) (And.intro rfl rfl))
  refine ⟨fun a w vs140 hA hS hd => ?_, ?_⟩
  ·skip
   exact opG_of rfl (vv (op_field rfl fd_24_0 (hA.ev rfl)) (And.intro rfl rfl))
  refine ⟨fun a w vs140 hA hS hd => ?_, ?_⟩
  ·skip
   obtain ⟨e2, rs2, hy2, hp2⟩ := hd 2 (by decide)
   obtain ⟨hv2, hr2⟩ := hy2; subst hr2
   rw [hv2] at e2
   exact opG_of rfl (vv (op_load1 rfl ty_22 (tmp_ev (slot_ev e2 rfl)) (hS.bk 2 rfl) rfl) (And.intro rfl rfl))
  refine ⟨fun a w vs140 hA hS hd => ?_, ?_⟩
  ·skip
   obtain ⟨e3, rs3, hy3, hp3⟩ := hd 3 (by decide)
   obtain ⟨hv3, hr3⟩ := hy3; subst hr3
   rw [hv3] at e3
   exact opG_of rfl (vv (op_lenS rfl un_22 (tmp_ev (slot_ev e3 rfl)) (hS.sk 3 rfl)) (And.intro rfl rfl))
  refine ⟨fun a w vs140 hA hS hd => ?_, ?_⟩
  ·skip
   obtain ⟨e4, rs4, hy4, hp4⟩ := hd 4 (by decide)
   obtain ⟨hv4, hr4⟩ := hy4; subst hr4
   rw [hv4] at e4
   exact opG_of rfl (vv (op_sub rfl (tmp_ev (slot_ev e4 rfl)) (evc _ _) (by omega) (by omega)) (And.intro rfl rfl))
  refine ⟨fun a w vs140 hA hS hd => ?_, ?_⟩
  ·skip
   exact opG_of rfl (vv (op_move rfl (hA.ev rfl)) (And.intro rfl rfl))
  refine ⟨fun a w vs140 hA hS hd => ?_, ?_⟩
  ·skip
   exact opG_of rfl (vv (op_move rfl (hA.ev rfl)) (And.intro rfl rfl))
  refine ⟨fun a w vs140 hA hS hd => ?_, ?_⟩
  ·skip
   obtain ⟨e6, rs6, hy6, hp6⟩ := hd 6 (by decide)
   obtain ⟨hv6, hr6⟩ := hy6; subst hr6
   rw [hv6] at e6
   obtain ⟨e7, rs7, hy7, hp7⟩ := hd 7 (by decide)
   obtain ⟨hv7, hr7⟩ := hy7; subst hr7
   rw [hv7] at e7
   exact opG_of rfl (vv (op_indexS rfl un_51 ty_56 (tmp_ev (slot_ev e6 rfl)) (i := kk) (tmp_ev (slot_ev e7 rfl)) (SlAt.of_row (hS.ok_row 0 rfl)) (by decide) (by omega)) (And.intro rfl rfl))
  refine ⟨fun a w vs140 hA hS hd => ?_, ?_⟩
  ·skip
   obtain ⟨e8, rs8, hy8, hp8⟩ := hd 8 (by decide)
   obtain ⟨hv8, hr8⟩ := hy8; subst hr8
   rw [hv8] at e8
   exact opG_of rfl (vv (op_fieldS rfl fd_56_0 (tmp_ev (slot_ev e8 rfl)) (SlAt.of_row (hS.ok_row 0 rfl)) (by rw [((SlAt.of_row (hS.ok_row 0 rfl))).1]; omega)) (And.intro rfl rfl))
  refine ⟨fun a w vs140 hA hS hd => ?_, ?_⟩
  ·skip
   obtain ⟨e9, rs9, hy9, hp9⟩ := hd 9 (by decide)
   obtain ⟨hv9, hr9⟩ := hy9; subst hr9
   rw [hv9] at e9
   exact opG_of rfl (vv (op_load1E rfl ty_3 (tmp_ev (slot_ev e9 rfl)) (SlAt.of_row (hS.ok_row 0 rfl)) (trips_at0 (by omega))) (And.intro rfl rfl))
  refine ⟨fun a w vs140 hA hS hd => ?_, ?_⟩
  ·skip
   obtain ⟨e10, rs10, hy10, hp10⟩ := hd 10 (by decide)
   obtain ⟨hv10, hr10⟩ := hy10; subst hr10
   rw [hv10] at e10
   exact opG_of rfl (vv (op_add rfl (tmp_ev (slot_ev e10 rfl)) (evc _ _) (by omega) (by omega)) (And.intro rfl rfl))
  refine ⟨fun a w vs140 hA hS hd => ?_, ?_⟩
  ·skip
   obtain ⟨e5, rs5, hy5, hp5⟩ := hd 5 (by decide)
   obtain ⟨hv5, hr5⟩ := hy5; subst hr5
   rw [hv5] at e5
   obtain ⟨e11, rs11, hy11, hp11⟩ := hd 11 (by decide)
   obtain ⟨hv11, hr11⟩ := hy11; subst hr11
   rw [hv11] at e11
   exact opG_of rfl (vv (op_min rfl (tmp_ev (slot_ev e5 rfl)) (tmp_ev (slot_ev e11 rfl))) (And.intro rfl rfl))
  trivial
 intro a141 w142 vs140 rsf146 hA143 hH145 hS144; clear hA139 hS138
 obtain ⟨hs_0, hy_0⟩ := hH145 0 (by decide)
 obtain ⟨hv_0, hr_0⟩ := hy_0
 obtain ⟨hs_1, hy_1⟩ := hH145 1 (by decide)
 obtain ⟨hv_1, hr_1⟩ := hy_1
 obtain ⟨hs_2, hy_2⟩ := hH145 2 (by decide)
 obtain ⟨hv_2, hr_2⟩ := hy_2
 obtain ⟨hs_3, hy_3⟩ := hH145 3 (by decide)
 obtain ⟨hv_3, hr_3⟩ := hy_3
 obtain ⟨hs_4, hy_4⟩ := hH145 4 (by decide)
 obtain ⟨hv_4, hr_4⟩ := hy_4
 obtain ⟨hs_5, hy_5⟩ := hH145 5 (by decide)
 obtain ⟨hv_5, hr_5⟩ := hy_5
 obtain ⟨hs_6, hy_6⟩ := hH145 6 (by decide)
 obtain ⟨hv_6, hr_6⟩ := hy_6
 obtain ⟨hs_7, hy_7⟩ := hH145 7 (by decide)
 obtain ⟨hv_7, hr_7⟩ := hy_7
 obtain ⟨hs_8, hy_8⟩ := hH145 8 (by decide)
 obtain ⟨hv_8, hr_8⟩ := hy_8
 obtain ⟨hs_9, hy_9⟩ := hH145 9 (by decide)
 obtain ⟨hv_9, hr_9⟩ := hy_9
 obtain ⟨hs_10, hy_10⟩ := hH145 10 (by decide)
 obtain ⟨hv_10, hr_10⟩ := hy_10
 obtain ⟨hs_11, hy_11⟩ := hH145 11 (by decide)
 obtain ⟨hv_11, hr_11⟩ := hy_11
 obtain ⟨hs_12, hy_12⟩ := hH145 12 (by decide)
 obtain ⟨hv_12, hr_12⟩ := hy_12
 have hS147 : Sep NoB w w142 [(row v71 56 3 plan.length (trips plan)), (row v57 56 3 ((longF plan kk y).length) (trips (longF plan kk y))), (blk b4 24 [vr]), (sl vr 2 R.length (pairs R)), (runsR false vu lv rs), (sl vp 3 plan.length (trips plan))] := by rw [show catR rsf146 0 13 = ([] : List Res) by (try simp only [catR, hr_0, hr_1, hr_2, hr_3, hr_4, hr_5, hr_6, hr_7, hr_8, hr_9, hr_10, hr_11, hr_12]); (try rfl)] at hS144; exact hS144
 rw [hv_0] at hs_0
 have hA148 : Fr 229 [] [(83, v71), (13, v71), (12, v57), (11, (Value.int .i64 (kk : Int))), (5, (bptr b4 0)), (1, vu), (2, vp)] a141 := hA143.add (slot_ev hs_0 rfl); clear hA143
 rw [hv_1] at hs_1
 have hA149 : Fr 229 [] [(84, (Value.int .i64 (kk : Int))), (83, v71), (13, v71), (12, v57), (11, (Value.int .i64 (kk : Int))), (5, (bptr b4 0)), (1, vu), (2, vp)] a141 := hA148.add (slot_ev hs_1 rfl); clear hA148
 rw [hv_12] at hs_12
 have hA150 : Fr 229 [] [(95, (Value.int .i64 (min ((R.length : Int) - 1) (((plan.getD kk (0, 0, 0)).1) + 1)))), (84, (Value.int .i64 (kk : Int))), (83, v71), (13, v71), (12, v57), (11, (Value.int .i64 (kk : Int))), (5, (bptr b4 0)), (1, vu), (2, vp)] a141 := hA149.add (slot_ev hs_12 rfl); clear hA149
 clear hH145 hS144 hs_0 hs_1 hs_2 hs_3 hs_4 hs_5 hs_6 hs_7 hs_8 hs_9 hs_10 hs_11 hs_12
 clear hr_0
 clear hv_0
 clear hr_1
 clear hv_1
 clear hr_2
 clear hv_2
 clear hr_3
 clear hv_3
 clear hr_4
 clear hv_4
 clear hr_5
 clear hv_5
 clear hr_6
 clear hv_6
 clear hr_7
 clear hv_7
 clear hr_8
 clear hv_8
 clear hr_9
 clear hv_9
 clear hr_10
 clear hv_10
 clear hr_11
 clear hv_11
 clear hr_12
 clear hv_12
 refine st hA150 (op_indexS rfl un_51 ty_56 (hA150.ev rfl) (i := kk) (hA150.ev rfl) (SlAt.of_row (hS147.ok_row 0 rfl)) (by decide) (by omega)) rfl rfl (by decide) fun a151 hA152 => ?_; clear hA150 a141
 refine st hA152 (op_fieldS rfl fd_56_0 (hA152.ev rfl) (SlAt.of_row (hS147.ok_row 0 rfl)) (by rw [((SlAt.of_row (hS147.ok_row 0 rfl))).1]; omega)) rfl rfl (by decide) fun a153 hA154 => ?_; clear hA152 a151
 refine sts hA154 (op_storeE hS147 rfl ty_3 (hA154.ev rfl) (hA154.ev rfl) (i := 0) rfl (vs := [(Value.int .i64 (min ((R.length : Int) - 1) (((plan.getD kk (0, 0, 0)).1) + 1)))]) rfl rfl rfl (by simp only [trips_length, long1_len, longF_len, hotF_len]; omega) (by decide)) rfl rfl ?_
 intro _ w155 hS156 hA158; have hS157 := hS156.row_say (i := 0) rfl (n' := (plan.set kk (min ((R.length : Int) - 1) (((plan.getD kk (0, 0, 0)).1) + 1), (plan.getD kk (0, 0, 0)).2.1, (plan.getD kk (0, 0, 0)).2.2)).length) (xs' := (trips (plan.set kk (min ((R.length : Int) - 1) (((plan.getD kk (0, 0, 0)).1) + 1), (plan.getD kk (0, 0, 0)).2.1, (plan.getD kk (0, 0, 0)).2.2)))) (by simp only [List.length_set]) (trips_setAt _ _ (by omega) _).1; clear hS156 hA154 hS147
 refine wl_nil ?_
 refine then_n ?_
 refine c_seq ?_
 have hA159 := hA158.as [(13, v71), (12, v57), (5, (bptr b4 0)), (1, vu), (2, vp)] rfl; clear hA158
 have hS160 := hS157.row_say (i := 0) rfl (n' := (hotF plan R.length kk).length) (xs' := (trips (hotF plan R.length kk))) rfl rfl; clear hS157
 refine c_region ?_
 refine st hA159 (op_loadA rfl ty_24 (hA159.ev rfl) (hS160.bk 2 rfl) (l := [vr]) rfl rfl) rfl rfl (by decide) fun a161 hA162 => ?_; clear hA159 a153
 refine stw hA162 (op_call rfl en_19 (ev1 (hA162.ev rfl)) (Material_ok _ R _ (hS160.sk 3 rfl) hth.mat)) rfl rfl (by decide) ?_
 rintro a163 _ w165 ⟨u168, rfl, hT166⟩ hA164; have hS167 := hS160.callS hT166 rfl; clear hT166 hA162 hS160 a161
 refine st hA164 (op_move rfl (hA164.ev rfl)) rfl rfl (by decide) fun a169 hA170 => ?_; clear hA164 a163
 refine stw hA170 (op_call rfl en_20 (ev1 (hA170.ev rfl)) (Runs_ok _ rs _ _ (runs_at (hS167.ok 5 _ rfl)) hth.runs hth.segs)) rfl rfl (by decide) ?_
 rintro a171 v176 w173 ⟨lv177, hT174⟩ hA172; have hS175 := hS167.callS hT174 rfl; clear hT174 hA170 hS167 a169
 refine st hA172 (op_move rfl (hA172.ev rfl)) rfl rfl (by decide) fun a178 hA179 => ?_; clear hA172 a171
 refine stw hA179 (op_call rfl en_29 (ev1 (hA179.ev rfl)) (Plan_ok _ plan _ (hS175.sk 7 rfl) (by omega))) rfl rfl (by decide) ?_
 rintro a180 v186 w182 ⟨hE183, hO184⟩ hA181; have hS185 := hS175.new_row hE183 hO184; clear hE183 hO184 hA179 hS175 a178
 refine stw hA181 (op_call rfl en_28 (ev3 (hA181.ev rfl) (hA181.ev rfl) (hA181.ev rfl)) (stretch_fine R rs lv177 u168 v176 _ (SlAt.of_row (hS185.ok_row 2 rfl)) (runs_at (hS185.ok 1 _ rfl)) (by omega) (by omega) plan v186 (SlAt.of_row (hS185.ok_row 0 rfl)) (by omega) hc0)) rfl rfl (by decide) ?_
 rintro a187 _ w189 ⟨rfl, hE190⟩ hA188; have hS191 := hS185.step hE190; clear hE190 hA181 hS185 a180
 refine st hA188 (op_move rfl (hA188.ev rfl)) rfl rfl (by decide) fun a192 hA193 => ?_; clear hA188 a187
 refine st hA193 (op_extract rfl (hA193.ev rfl) rfl) rfl rfl (by decide) fun a194 hA195 => ?_; clear hA193 a192
 refine st hA195 (op_extract rfl (hA195.ev rfl) rfl) rfl rfl (by decide) fun a196 hA197 => ?_; clear hA195 a194
 refine stw hA197 (op_alloc hS191 rfl ze_42 (cs := [(Value.int .i64 0), (Value.int .i64 0)]) rfl) rfl rfl (by decide) ?_
 rintro a198 _ w200 ⟨b201, rfl, hS202⟩ hA199; clear hA197 hS191 a196
 refine sts hA199 (op_store hS202 rfl ty_42 (hA199.ev rfl) (hA199.ev rfl) (i := 0) rfl (vs := [(Value.int .i64 (stLo plan (leastR R rs plan))), (Value.int .i64 (stHi plan (mostR R rs plan)))]) rfl rfl rfl (Nat.le_of_ble_eq_true rfl)) rfl rfl ?_
 intro _ w203 hS204 hA205; clear hA199
 have hS206 : Sep NoB w w203 [(blk b201 42 [(Value.int .i64 (stLo plan (leastR R rs plan))), (Value.int .i64 (stHi plan (mostR R rs plan)))]), (row v186 67 3 plan.length (trips plan)), (runsR true v176 lv177 rs), (row u168 42 2 R.length (pairs R)), (row v71 56 3 ((hotF plan R.length kk).length) (trips (hotF plan R.length kk))), (row v57 56 3 ((longF plan kk y).length) (trips (longF plan kk y))), (blk b4 24 [vr]), (sl vr 2 R.length (pairs R)), (runsR false vu lv rs), (sl vp 3 plan.length (trips plan))] := hS204; clear hS204 hS202
 refine st hA205 (op_assign rfl (hA205.ev rfl)) rfl rfl (by decide) fun a207 hA208 => ?_; clear hA205 a198
 refine wl_nil ?_
 refine then_n ?_
 refine c_seq ?_
 have hA209 := hA208.as [(15, (Value.int .i64 0)), (14, (bptr b201 0)), (13, v71), (12, v57), (5, (bptr b4 0)), (1, vu), (2, vp)] rfl; clear hA208
 refine c_region ?_
 refine st hA209 (op_loadA rfl ty_24 (hA209.ev rfl) (hS206.bk 6 rfl) (l := [vr]) rfl rfl) rfl rfl (by decide) fun a210 hA211 => ?_; clear hA209 a207
 refine stw hA211 (op_call rfl en_19 (ev1 (hA211.ev rfl)) (Material_ok _ R _ (hS206.sk 7 rfl) hth.mat)) rfl rfl (by decide) ?_
 rintro a212 _ w214 ⟨u217, rfl, hT215⟩ hA213; have hS216 := hS206.callS hT215 rfl; clear hT215 hA211 hS206 a210
 refine st hA213 (op_move rfl (hA213.ev rfl)) rfl rfl (by decide) fun a218 hA219 => ?_; clear hA213 a212
 refine stw hA219 (op_call rfl en_20 (ev1 (hA219.ev rfl)) (Runs_ok _ rs _ _ (runs_at (hS216.ok 9 _ rfl)) hth.runs hth.segs)) rfl rfl (by decide) ?_
 rintro a220 v225 w222 ⟨lv226, hT223⟩ hA221; have hS224 := hS216.callS hT223 rfl; clear hT223 hA219 hS216 a218
 refine st hA221 (op_move rfl (hA221.ev rfl)) rfl rfl (by decide) fun a227 hA228 => ?_; clear hA221 a220
 refine stw hA228 (op_call rfl en_29 (ev1 (hA228.ev rfl)) (Plan_ok _ (longF plan kk y) _ (SlAt.of_row (hS224.ok_row 7 rfl)) (by omega))) rfl rfl (by decide) ?_
 rintro a229 v235 w231 ⟨hE232, hO233⟩ hA230; have hS234 := hS224.new_row hE232 hO233; clear hE232 hO233 hA228 hS224 a227
 refine stw hA230 (op_call rfl en_28 (ev3 (hA230.ev rfl) (hA230.ev rfl) (hA230.ev rfl)) (stretch_fine R rs lv226 u217 v225 _ (SlAt.of_row (hS234.ok_row 2 rfl)) (runs_at (hS234.ok 1 _ rfl)) (by omega) (by omega) (longF plan kk y) v235 (SlAt.of_row (hS234.ok_row 0 rfl)) (by omega) (long_ok hb_kk hp8 hs hy hc))) rfl rfl (by decide) ?_
 rintro a236 _ w238 ⟨rfl, hE239⟩ hA237; have hS240 := hS234.step hE239; clear hE239 hA230 hS234 a229
 refine st hA237 (op_move rfl (hA237.ev rfl)) rfl rfl (by decide) fun a241 hA242 => ?_; clear hA237 a236
 refine st hA242 (op_extract rfl (hA242.ev rfl) rfl) rfl rfl (by decide) fun a243 hA244 => ?_; clear hA242 a241
 refine st hA244 (op_extract rfl (hA244.ev rfl) rfl) rfl rfl (by decide) fun a245 hA246 => ?_; clear hA244 a243
 refine stw hA246 (op_alloc hS240 rfl ze_42 (cs := [(Value.int .i64 0), (Value.int .i64 0)]) rfl) rfl rfl (by decide) ?_
 rintro a247 _ w249 ⟨b250, rfl, hS251⟩ hA248; clear hA246 hS240 a245
 refine sts hA248 (op_store hS251 rfl ty_42 (hA248.ev rfl) (hA248.ev rfl) (i := 0) rfl (vs := [(Value.int .i64 (stLo (longF plan kk y) (leastR R rs (longF plan kk y)))), (Value.int .i64 (stHi (longF plan kk y) (mostR R rs (longF plan kk y))))]) rfl rfl rfl (Nat.le_of_ble_eq_true rfl)) rfl rfl ?_
 intro _ w252 hS253 hA254; clear hA248
 have hS255 : Sep NoB w w252 [(blk b250 42 [(Value.int .i64 (stLo (longF plan kk y) (leastR R rs (longF plan kk y)))), (Value.int .i64 (stHi (longF plan kk y) (mostR R rs (longF plan kk y))))]), (row v235 67 3 ((longF plan kk y).length) (trips (longF plan kk y))), (runsR true v225 lv226 rs), (row u217 42 2 R.length (pairs R)), (blk b201 42 [(Value.int .i64 (stLo plan (leastR R rs plan))), (Value.int .i64 (stHi plan (mostR R rs plan)))]), (row v186 67 3 plan.length (trips plan)), (runsR true v176 lv177 rs), (row u168 42 2 R.length (pairs R)), (row v71 56 3 ((hotF plan R.length kk).length) (trips (hotF plan R.length kk))), (row v57 56 3 ((longF plan kk y).length) (trips (longF plan kk y))), (blk b4 24 [vr]), (sl vr 2 R.length (pairs R)), (runsR false vu lv rs), (sl vp 3 plan.length (trips plan))] := hS253; clear hS253 hS251
 refine st hA254 (op_assign rfl (hA254.ev rfl)) rfl rfl (by decide) fun a256 hA257 => ?_; clear hA254 a247
 refine wl_nil ?_
 refine then_n ?_
 refine c_seq ?_
 have hA258 := hA257.as [(17, (Value.int .i64 0)), (16, (bptr b250 0)), (15, (Value.int .i64 0)), (14, (bptr b201 0)), (13, v71), (5, (bptr b4 0)), (1, vu), (2, vp)] rfl; clear hA257
 refine c_region ?_
 refine st hA258 (op_loadA rfl ty_24 (hA258.ev rfl) (hS255.bk 10 rfl) (l := [vr]) rfl rfl) rfl rfl (by decide) fun a259 hA260 => ?_; clear hA258 a256
 refine stw hA260 (op_call rfl en_19 (ev1 (hA260.ev rfl)) (Material_ok _ R _ (hS255.sk 11 rfl) hth.mat)) rfl rfl (by decide) ?_
 rintro a261 _ w263 ⟨u266, rfl, hT264⟩ hA262; have hS265 := hS255.callS hT264 rfl; clear hT264 hA260 hS255 a259
 refine st hA262 (op_move rfl (hA262.ev rfl)) rfl rfl (by decide) fun a267 hA268 => ?_; clear hA262 a261
 refine stw hA268 (op_call rfl en_20 (ev1 (hA268.ev rfl)) (Runs_ok _ rs _ _ (runs_at (hS265.ok 13 _ rfl)) hth.runs hth.segs)) rfl rfl (by decide) ?_
 rintro a269 v274 w271 ⟨lv275, hT272⟩ hA270; have hS273 := hS265.callS hT272 rfl; clear hT272 hA268 hS265 a267
 refine st hA270 (op_move rfl (hA270.ev rfl)) rfl rfl (by decide) fun a276 hA277 => ?_; clear hA270 a269
 refine stw hA277 (op_call rfl en_29 (ev1 (hA277.ev rfl)) (Plan_ok _ (hotF plan R.length kk) _ (SlAt.of_row (hS273.ok_row 10 rfl)) (by omega))) rfl rfl (by decide) ?_
 rintro a278 v284 w280 ⟨hE281, hO282⟩ hA279; have hS283 := hS273.new_row hE281 hO282; clear hE281 hO282 hA277 hS273 a276
 refine stw hA279 (op_call rfl en_28 (ev3 (hA279.ev rfl) (hA279.ev rfl) (hA279.ev rfl)) (stretch_fine R rs lv275 u266 v274 _ (SlAt.of_row (hS283.ok_row 2 rfl)) (runs_at (hS283.ok 1 _ rfl)) (by omega) (by omega) (hotF plan R.length kk) v284 (SlAt.of_row (hS283.ok_row 0 rfl)) (by omega) (hotter_ok hR1 hb_kk hp8 hs hc))) rfl rfl (by decide) ?_
 rintro a285 _ w287 ⟨rfl, hE288⟩ hA286; have hS289 := hS283.step hE288; clear hE288 hA279 hS283 a278
 refine st hA286 (op_move rfl (hA286.ev rfl)) rfl rfl (by decide) fun a290 hA291 => ?_; clear hA286 a285
 refine st hA291 (op_extract rfl (hA291.ev rfl) rfl) rfl rfl (by decide) fun a292 hA293 => ?_; clear hA291 a290
 refine st hA293 (op_extract rfl (hA293.ev rfl) rfl) rfl rfl (by decide) fun a294 hA295 => ?_; clear hA293 a292
 refine stw hA295 (op_alloc hS289 rfl ze_42 (cs := [(Value.int .i64 0), (Value.int .i64 0)]) rfl) rfl rfl (by decide) ?_
 rintro a296 _ w298 ⟨b299, rfl, hS300⟩ hA297; clear hA295 hS289 a294
 refine sts hA297 (op_store hS300 rfl ty_42 (hA297.ev rfl) (hA297.ev rfl) (i := 0) rfl (vs := [(Value.int .i64 (stLo (hotF plan R.length kk) (leastR R rs (hotF plan R.length kk)))), (Value.int .i64 (stHi (hotF plan R.length kk) (mostR R rs (hotF plan R.length kk))))]) rfl rfl rfl (Nat.le_of_ble_eq_true rfl)) rfl rfl ?_
 intro _ w301 hS302 hA303; clear hA297
 have hS304 : Sep NoB w w301 [(blk b299 42 [(Value.int .i64 (stLo (hotF plan R.length kk) (leastR R rs (hotF plan R.length kk)))), (Value.int .i64 (stHi (hotF plan R.length kk) (mostR R rs (hotF plan R.length kk))))]), (row v284 67 3 ((hotF plan R.length kk).length) (trips (hotF plan R.length kk))), (runsR true v274 lv275 rs), (row u266 42 2 R.length (pairs R)), (blk b250 42 [(Value.int .i64 (stLo (longF plan kk y) (leastR R rs (longF plan kk y)))), (Value.int .i64 (stHi (longF plan kk y) (mostR R rs (longF plan kk y))))]), (row v235 67 3 ((longF plan kk y).length) (trips (longF plan kk y))), (runsR true v225 lv226 rs), (row u217 42 2 R.length (pairs R)), (blk b201 42 [(Value.int .i64 (stLo plan (leastR R rs plan))), (Value.int .i64 (stHi plan (mostR R rs plan)))]), (row v186 67 3 plan.length (trips plan)), (runsR true v176 lv177 rs), (row u168 42 2 R.length (pairs R)), (row v71 56 3 ((hotF plan R.length kk).length) (trips (hotF plan R.length kk))), (row v57 56 3 ((longF plan kk y).length) (trips (longF plan kk y))), (blk b4 24 [vr]), (sl vr 2 R.length (pairs R)), (runsR false vu lv rs), (sl vp 3 plan.length (trips plan))] := hS302; clear hS302 hS300
 refine st hA303 (op_assign rfl (hA303.ev rfl)) rfl rfl (by decide) fun a305 hA306 => ?_; clear hA303 a296
 refine wl_nil ?_
 refine then_n ?_
 refine c_seq ?_
 refine c_seq ?_
 have hA307 := hA306.as [(19, (Value.int .i64 0)), (18, (bptr b299 0)), (17, (Value.int .i64 0)), (16, (bptr b250 0)), (15, (Value.int .i64 0)), (14, (bptr b201 0)), (5, (bptr b4 0)), (1, vu), (2, vp)] rfl; clear hA306
 refine c_region ?_
 refine st hA307 (op_move rfl (hA307.ev rfl)) rfl rfl (by decide) fun a308 hA309 => ?_; clear hA307 a305
 refine st hA309 (op_neq rfl (hA309.ev rfl) (evc _ _)) rfl rfl (by decide) fun a310 hA311 => ?_; clear hA309 a308
 refine wl_nil ?_
 refine then_n ?_
 refine c_false hA311 rfl ?_
 refine c_skip ?_
 refine then_n ?_
 refine c_seq ?_
 refine c_region ?_
 refine stw hA311 (op_alloc hS304 rfl ze_42 (cs := [(Value.int .i64 0), (Value.int .i64 0)]) rfl) rfl rfl (by decide) ?_
 rintro a312 _ w314 ⟨b315, rfl, hS316⟩ hA313; clear hA311 hS304 a310
 refine wl_nil ?_
 refine then_n ?_
 refine c_seq ?_
 refine c_seq ?_
 refine c_region ?_
 refine st hA313 (op_assign rfl (evc _ _)) rfl rfl (by decide) fun a317 hA318 => ?_; clear hA313 a312
 refine wl_nil ?_
 refine then_n ?_
 refine c_block ?_
 have hA319 := hA318.as [(21, (Value.int .i64 0)), (20, (bptr b315 0)), (19, (Value.int .i64 0)), (18, (bptr b299 0)), (17, (Value.int .i64 0)), (16, (bptr b250 0)), (14, (bptr b201 0)), (5, (bptr b4 0)), (1, vu), (2, vp)] rfl; clear hA318
 refine c_loop (G := Nat) (fun (k : Nat) a_ w_ => Fr 229 [] [(21, (Value.int .i64 (k : Int))), (20, (bptr b315 0)), (19, (Value.int .i64 0)), (18, (bptr b299 0)), (17, (Value.int .i64 0)), (16, (bptr b250 0)), (14, (bptr b201 0)), (5, (bptr b4 0)), (1, vu), (2, vp)] a_ ∧ Sep NoB w w_ [(blk b315 42 [(Value.int .i64 ((sumP R rs plan k).1)), (Value.int .i64 ((sumP R rs plan k).2))]), (blk b299 42 [(Value.int .i64 (stLo (hotF plan R.length kk) (leastR R rs (hotF plan R.length kk)))), (Value.int .i64 (stHi (hotF plan R.length kk) (mostR R rs (hotF plan R.length kk))))]), (row v284 67 3 ((hotF plan R.length kk).length) (trips (hotF plan R.length kk))), (runsR true v274 lv275 rs), (row u266 42 2 R.length (pairs R)), (blk b250 42 [(Value.int .i64 (stLo (longF plan kk y) (leastR R rs (longF plan kk y)))), (Value.int .i64 (stHi (longF plan kk y) (mostR R rs (longF plan kk y))))]), (row v235 67 3 ((longF plan kk y).length) (trips (longF plan kk y))), (runsR true v225 lv226 rs), (row u217 42 2 R.length (pairs R)), (blk b201 42 [(Value.int .i64 (stLo plan (leastR R rs plan))), (Value.int .i64 (stHi plan (mostR R rs plan)))]), (row v186 67 3 plan.length (trips plan)), (runsR true v176 lv177 rs), (row u168 42 2 R.length (pairs R)), (row v71 56 3 ((hotF plan R.length kk).length) (trips (hotF plan R.length kk))), (row v57 56 3 ((longF plan kk y).length) (trips (longF plan kk y))), (blk b4 24 [vr]), (sl vr 2 R.length (pairs R)), (runsR false vu lv rs), (sl vp 3 plan.length (trips plan))] ∧ (k ≤ plan.length)) (fun k => plan.length - k) 0 ⟨hA319.as _ rfl, hS316, by omega⟩ ?_
 clear hA319 hS316 a317
 rintro k a320 w322 ⟨hA321, hS323, hk⟩
 refine c_seq ?_
 refine c_seq ?_
 refine c_region ?_
 refine st hA321 (op_move rfl (hA321.ev rfl)) rfl rfl (by decide) fun a324 hA325 => ?_; clear hA321 a320
 refine st hA325 (op_move rfl (hA325.ev rfl)) rfl rfl (by decide) fun a326 hA327 => ?_; clear hA325 a324
 refine st hA327 (op_lenS rfl un_51 (hA327.ev rfl) (hS323.sk 18 rfl)) rfl rfl (by decide) fun a328 hA329 => ?_; clear hA327 a326
 refine st hA329 (op_lss rfl (hA329.ev rfl) (hA329.ev rfl)) rfl rfl (by decide) fun a330 hA331 => ?_; clear hA329 a328
 refine wl_nil ?_
 refine then_n ?_
 by_cases hb332 : (k : Int) < (plan.length : Int)
 ·skip
  rw [decide_eq_true hb332] at hA331
  have hsb1 := sumP_bd (rs := rs) hR hs k (by omega); have hob := one_bd (rs := rs) hR hs (i := k) (by omega); have h1_ : ([plan.getD k (0, 0, 0)] : List Seg).length = 1 := rfl
  refine c_true hA331 rfl ?_
  refine c_skip ?_
  refine then_n ?_
  refine c_seq ?_
  refine c_block ?_
  refine c_seq ?_
  have hA333 := hA331.as [(21, (Value.int .i64 (k : Int))), (20, (bptr b315 0)), (19, (Value.int .i64 0)), (18, (bptr b299 0)), (17, (Value.int .i64 0)), (16, (bptr b250 0)), (14, (bptr b201 0)), (5, (bptr b4 0)), (1, vu), (2, vp)] rfl; clear hA331
  refine c_drawF mixed hA333 hS323 15 13 rfl rfl [[], [0], [], [2], [], [], [], [6], [4, 5, 7], [8], [1, 3, 9], [10], [11], [11], []] [(fun (vs334 : Nat → Value) (v_ : Value) (rs_ : List Res) => v_ = (Value.agg #[vr]) ∧ rs_ = []), (fun (vs334 : Nat → Value) (v_ : Value) (rs_ : List Res) => ∃ (u1_ : Value), v_ = (Value.agg #[u1_]) ∧ rs_ = [(row u1_ 42 2 R.length (pairs R))]), (fun (vs334 : Nat → Value) (v_ : Value) (rs_ : List Res) => v_ = vu ∧ rs_ = []), (fun (vs334 : Nat → Value) (v_ : Value) (rs_ : List Res) => ∃ (lv3_ : List Value), True ∧ rs_ = [(runsR true v_ lv3_ rs)]), (fun (vs334 : Nat → Value) (v_ : Value) (rs_ : List Res) => v_ = vp ∧ rs_ = []), (fun (vs334 : Nat → Value) (v_ : Value) (rs_ : List Res) => v_ = (Value.int .i64 (k : Int)) ∧ rs_ = []), (fun (vs334 : Nat → Value) (v_ : Value) (rs_ : List Res) => v_ = (Value.int .i64 (k : Int)) ∧ rs_ = []), (fun (vs334 : Nat → Value) (v_ : Value) (rs_ : List Res) => v_ = (Value.int .i64 ((k : Int) + 1)) ∧ rs_ = []), (fun (vs334 : Nat → Value) (v_ : Value) (rs_ : List Res) => v_ = (slcut vp k (k + 1) 3) ∧ rs_ = []), (fun (vs334 : Nat → Value) (v_ : Value) (rs_ : List Res) => True ∧ rs_ = [(row v_ 67 3 ([plan.getD k (0, 0, 0)].length) (trips ([plan.getD k (0, 0, 0)])))]), (fun (vs334 : Nat → Value) (v_ : Value) (rs_ : List Res) => v_ = (Value.tuple #[(Value.agg #[(Value.int .i64 (stLo ([plan.getD k (0, 0, 0)]) (leastR R rs ([plan.getD k (0, 0, 0)])))), (Value.int .i64 (stHi ([plan.getD k (0, 0, 0)]) (mostR R rs ([plan.getD k (0, 0, 0)]))))]), (Value.int .i64 0)]) ∧ rs_ = []), (fun (vs334 : Nat → Value) (v_ : Value) (rs_ : List Res) => v_ = (Value.tuple #[(Value.agg #[(Value.int .i64 (stLo ([plan.getD k (0, 0, 0)]) (leastR R rs ([plan.getD k (0, 0, 0)])))), (Value.int .i64 (stHi ([plan.getD k (0, 0, 0)]) (mostR R rs ([plan.getD k (0, 0, 0)]))))]), (Value.int .i64 0)]) ∧ rs_ = []), (fun (vs334 : Nat → Value) (v_ : Value) (rs_ : List Res) => v_ = (Value.agg #[(Value.int .i64 (stLo ([plan.getD k (0, 0, 0)]) (leastR R rs ([plan.getD k (0, 0, 0)])))), (Value.int .i64 (stHi ([plan.getD k (0, 0, 0)]) (mostR R rs ([plan.getD k (0, 0, 0)]))))]) ∧ rs_ = []), (fun (vs334 : Nat → Value) (v_ : Value) (rs_ : List Res) => v_ = (Value.int .i64 0) ∧ rs_ = []), (fun (vs334 : Nat → Value) (v_ : Value) (rs_ : List Res) => ∃ (b14_ : Nat), v_ = (bptr b14_ 0) ∧ rs_ = [(blk b14_ 42 [(Value.int .i64 0), (Value.int .i64 0)])])] (by decide +kernel) (by decide +kernel) (by decide +kernel) rfl rfl ⟨(fun _ _ _ _ _ h_ => h_), (fun _ _ _ _ _ h_ => h_), (fun _ _ _ _ _ h_ => h_), (fun _ _ _ _ _ h_ => h_), (fun _ _ _ _ _ h_ => h_), (fun _ _ _ _ _ h_ => h_), (fun _ _ _ _ _ h_ => h_), (fun _ _ _ _ _ h_ => h_), (fun _ _ _ _ _ h_ => h_), (fun _ _ _ _ _ h_ => h_), (fun _ _ _ _ _ h_ => h_), (fun _ _ _ _ _ h_ => h_), (fun _ _ _ _ _ h_ => h_), (fun _ _ _ _ _ h_ => h_), (fun _ _ _ _ _ h_ => h_), trivial⟩ ?_ ?_ ?_
  ·skip
   refine ⟨fun a w vs334 hA hS hd => ?_, ?_⟩
   ·skip
    exact opG_of rfl (vv (op_loadA rfl ty_24 (hA.ev rfl) (hS.bk 15 rfl) (l := [vr]) rfl rfl) (And.intro rfl rfl))
   refine ⟨fun a w vs334 hA hS hd => ?_, ?_⟩
   ·skip
    obtain ⟨e0, rs0, hy0, hp0⟩ := hd 0 (by decide)
    obtain ⟨hv0, hr0⟩ := hy0; subst hr0
    rw [hv0] at e0
    exact opG_of rfl (vn (op_call rfl en_19 (ev1 (tmp_ev (slot_ev e0 rfl))) (Material_ok _ R _ (hS.sk 16 rfl) hth.mat)) (fun v w' h => by obtain ⟨u, rfl, hT⟩ := h; exact ⟨_, ⟨u, rfl, rfl⟩, hT, rfl⟩))
   refine ⟨fun a w vs334 hA hS hd => ?_, ?_⟩
   ·skip
    exact opG_of rfl (vv (op_move rfl (hA.ev rfl)) (And.intro rfl rfl))
   refine ⟨fun a w vs334 hA hS hd => ?_, ?_⟩
   ·skip
    obtain ⟨e2, rs2, hy2, hp2⟩ := hd 2 (by decide)
    obtain ⟨hv2, hr2⟩ := hy2; subst hr2
    rw [hv2] at e2
    exact opG_of rfl (vn (op_call rfl en_20 (ev1 (tmp_ev (slot_ev e2 rfl))) (Runs_ok _ rs _ _ (runs_at (hS.ok 17 _ rfl)) hth.runs hth.segs)) (fun v w' h => by obtain ⟨lv, hT⟩ := h; exact ⟨_, ⟨lv, trivial, rfl⟩, hT, rfl⟩))
   refine ⟨fun a w vs334 hA hS hd => ?_, ?_⟩
   ·skip
    exact opG_of rfl (vv (op_move rfl (hA.ev rfl)) (And.intro rfl rfl))
   refine ⟨fun a w vs334 hA hS hd => ?_, ?_⟩
   ·skip
    exact opG_of rfl (vv (op_move rfl (hA.ev rfl)) (And.intro rfl rfl))
   refine ⟨fun a w vs334 hA hS hd => ?_, ?_⟩
   ·skip
    exact opG_of rfl (vv (op_move rfl (hA.ev rfl)) (And.intro rfl rfl))
   refine ⟨fun a w vs334 hA hS hd => ?_, ?_⟩
   ·skip
    obtain ⟨e6, rs6, hy6, hp6⟩ := hd 6 (by decide)
    obtain ⟨hv6, hr6⟩ := hy6; subst hr6
    rw [hv6] at e6
    exact opG_of rfl (vv (op_add rfl (tmp_ev (slot_ev e6 rfl)) (evc _ _) (by omega) (by omega)) (And.intro rfl rfl))
   refine ⟨fun a w vs334 hA hS hd => ?_, ?_⟩
   ·skip
    obtain ⟨e4, rs4, hy4, hp4⟩ := hd 4 (by decide)
    obtain ⟨hv4, hr4⟩ := hy4; subst hr4
    rw [hv4] at e4
    obtain ⟨e5, rs5, hy5, hp5⟩ := hd 5 (by decide)
    obtain ⟨hv5, hr5⟩ := hy5; subst hr5
    rw [hv5] at e5
    obtain ⟨e7, rs7, hy7, hp7⟩ := hd 7 (by decide)
    obtain ⟨hv7, hr7⟩ := hy7; subst hr7
    rw [hv7] at e7
    exact opG_of rfl (vv (op_sliceLH rfl un_51 ty_56 (tmp_ev (slot_ev e4 rfl)) (l := k) (tmp_ev (slot_ev e5 rfl)) (h := k + 1) ((tmp_ev (slot_ev e7 rfl)).trans (congrArg (Value.int .i64) (show ((k : Int) + 1 : Int) = ((k + 1 : Nat) : Int) by omega))) (hS.sk 18 rfl) (by omega) (by omega)) (And.intro rfl rfl))
   refine ⟨fun a w vs334 hA hS hd => ?_, ?_⟩
   ·skip
    obtain ⟨e8, rs8, hy8, hp8⟩ := hd 8 (by decide)
    obtain ⟨hv8, hr8⟩ := hy8; subst hr8
    rw [hv8] at e8
    exact opG_of rfl (vn (op_call rfl en_29 (ev1 (tmp_ev (slot_ev e8 rfl))) (Plan_ok _ ([plan.getD k (0, 0, 0)]) _ ((SlAt.cut (hS.sk 18 rfl) (by omega) (by omega)).say (by omega) (trips_cut1 (by omega))) (by omega))) (fun v w' h => ⟨_, And.intro trivial rfl, (Sep.start NoB _).new_row h.1 h.2, rfl⟩))
   refine ⟨fun a w vs334 hA hS hd => ?_, ?_⟩
   ·skip
    obtain ⟨e1, rs1, hy1, hp1⟩ := hd 1 (by decide)
    obtain ⟨u1_, hv1, hr1⟩ := hy1; subst hr1
    rw [hv1] at e1
    have hp1_0 := hp1 _ (List.mem_of_getElem? (i := 0) rfl)
    obtain ⟨e3, rs3, hy3, hp3⟩ := hd 3 (by decide)
    obtain ⟨lv3_, hv3, hr3⟩ := hy3; subst hr3
    have hp3_0 := hp3 _ (List.mem_of_getElem? (i := 0) rfl)
    obtain ⟨e9, rs9, hy9, hp9⟩ := hd 9 (by decide)
    obtain ⟨hv9, hr9⟩ := hy9; subst hr9
    have hp9_0 := hp9 _ (List.mem_of_getElem? (i := 0) rfl)
    exact opG_of rfl (vn (op_call rfl en_28 (ev3 (tmp_ev (slot_ev e1 rfl)) (tmp_ev (slot_ev e3 rfl)) (tmp_ev (slot_ev e9 rfl))) (stretch_fine R rs lv3_ u1_ (vs334 3) _ (SlAt.of_row hp1_0) (runs_at hp3_0) (by omega) (by omega) ([plan.getD k (0, 0, 0)]) (vs334 9) (SlAt.of_row hp9_0) (by omega) (one_ok (by omega) hs hc))) (fun v w' h => by obtain ⟨rfl, hE⟩ := h; exact ⟨[], ⟨rfl, rfl⟩, (Sep.start NoB _).step hE, rfl⟩))
   refine ⟨fun a w vs334 hA hS hd => ?_, ?_⟩
   ·skip
    obtain ⟨e10, rs10, hy10, hp10⟩ := hd 10 (by decide)
    obtain ⟨hv10, hr10⟩ := hy10; subst hr10
    rw [hv10] at e10
    exact opG_of rfl (vv (op_move rfl (tmp_ev (slot_ev e10 rfl))) (And.intro rfl rfl))
   refine ⟨fun a w vs334 hA hS hd => ?_, ?_⟩
   ·skip
    obtain ⟨e11, rs11, hy11, hp11⟩ := hd 11 (by decide)
    obtain ⟨hv11, hr11⟩ := hy11; subst hr11
    rw [hv11] at e11
    exact opG_of rfl (vv (op_extract rfl (tmp_ev (slot_ev e11 rfl)) rfl) (And.intro rfl rfl))
   refine ⟨fun a w vs334 hA hS hd => ?_, ?_⟩
   ·skip
    obtain ⟨e11, rs11, hy11, hp11⟩ := hd 11 (by decide)
    obtain ⟨hv11, hr11⟩ := hy11; subst hr11
    rw [hv11] at e11
    exact opG_of rfl (vv (op_extract rfl (tmp_ev (slot_ev e11 rfl)) rfl) (And.intro rfl rfl))
   refine ⟨fun a w vs334 hA hS hd => ?_, ?_⟩
   ·skip
    exact opG_of rfl (valloc rfl ze_42 (cs := [(Value.int .i64 0), (Value.int .i64 0)]) rfl (fun b_ => ⟨b_, rfl, rfl⟩))
   trivial
  ·skip
   intro a335 w336 vs334 rsf340 hA337 hH339 hS338; clear hA333 hS323
   obtain ⟨hs_0, hy_0⟩ := hH339 0 (by decide)
   obtain ⟨hv_0, hr_0⟩ := hy_0
   obtain ⟨hs_1, hy_1⟩ := hH339 1 (by decide)
   obtain ⟨u1_, hv_1, hr_1⟩ := hy_1
   obtain ⟨hs_2, hy_2⟩ := hH339 2 (by decide)
   obtain ⟨hv_2, hr_2⟩ := hy_2
   obtain ⟨hs_3, hy_3⟩ := hH339 3 (by decide)
   obtain ⟨lv3_, hv_3, hr_3⟩ := hy_3
   obtain ⟨hs_4, hy_4⟩ := hH339 4 (by decide)
   obtain ⟨hv_4, hr_4⟩ := hy_4
   obtain ⟨hs_5, hy_5⟩ := hH339 5 (by decide)
   obtain ⟨hv_5, hr_5⟩ := hy_5
   obtain ⟨hs_6, hy_6⟩ := hH339 6 (by decide)
   obtain ⟨hv_6, hr_6⟩ := hy_6
   obtain ⟨hs_7, hy_7⟩ := hH339 7 (by decide)
   obtain ⟨hv_7, hr_7⟩ := hy_7
   obtain ⟨hs_8, hy_8⟩ := hH339 8 (by decide)
   obtain ⟨hv_8, hr_8⟩ := hy_8
   obtain ⟨hs_9, hy_9⟩ := hH339 9 (by decide)
   obtain ⟨hv_9, hr_9⟩ := hy_9
   obtain ⟨hs_10, hy_10⟩ := hH339 10 (by decide)
   obtain ⟨hv_10, hr_10⟩ := hy_10
   obtain ⟨hs_11, hy_11⟩ := hH339 11 (by decide)
   obtain ⟨hv_11, hr_11⟩ := hy_11
   obtain ⟨hs_12, hy_12⟩ := hH339 12 (by decide)
   obtain ⟨hv_12, hr_12⟩ := hy_12
   obtain ⟨hs_13, hy_13⟩ := hH339 13 (by decide)
   obtain ⟨hv_13, hr_13⟩ := hy_13
   obtain ⟨hs_14, hy_14⟩ := hH339 14 (by decide)
   obtain ⟨b14_, hv_14, hr_14⟩ := hy_14
   have hS341 : Sep NoB w w336 [(row u1_ 42 2 R.length (pairs R)), (runsR true (vs334 3) lv3_ rs), (row (vs334 9) 67 3 ([plan.getD k (0, 0, 0)].length) (trips ([plan.getD k (0, 0, 0)]))), (blk b14_ 42 [(Value.int .i64 0), (Value.int .i64 0)]), (blk b315 42 [(Value.int .i64 ((sumP R rs plan k).1)), (Value.int .i64 ((sumP R rs plan k).2))]), (blk b299 42 [(Value.int .i64 (stLo (hotF plan R.length kk) (leastR R rs (hotF plan R.length kk)))), (Value.int .i64 (stHi (hotF plan R.length kk) (mostR R rs (hotF plan R.length kk))))]), (row v284 67 3 ((hotF plan R.length kk).length) (trips (hotF plan R.length kk))), (runsR true v274 lv275 rs), (row u266 42 2 R.length (pairs R)), (blk b250 42 [(Value.int .i64 (stLo (longF plan kk y) (leastR R rs (longF plan kk y)))), (Value.int .i64 (stHi (longF plan kk y) (mostR R rs (longF plan kk y))))]), (row v235 67 3 ((longF plan kk y).length) (trips (longF plan kk y))), (runsR true v225 lv226 rs), (row u217 42 2 R.length (pairs R)), (blk b201 42 [(Value.int .i64 (stLo plan (leastR R rs plan))), (Value.int .i64 (stHi plan (mostR R rs plan)))]), (row v186 67 3 plan.length (trips plan)), (runsR true v176 lv177 rs), (row u168 42 2 R.length (pairs R)), (row v71 56 3 ((hotF plan R.length kk).length) (trips (hotF plan R.length kk))), (row v57 56 3 ((longF plan kk y).length) (trips (longF plan kk y))), (blk b4 24 [vr]), (sl vr 2 R.length (pairs R)), (runsR false vu lv rs), (sl vp 3 plan.length (trips plan))] := by rw [show catR rsf340 0 15 = ([(row u1_ 42 2 R.length (pairs R)), (runsR true (vs334 3) lv3_ rs), (row (vs334 9) 67 3 ([plan.getD k (0, 0, 0)].length) (trips ([plan.getD k (0, 0, 0)]))), (blk b14_ 42 [(Value.int .i64 0), (Value.int .i64 0)])] : List Res) by (try simp only [catR, hr_0, hr_1, hr_2, hr_3, hr_4, hr_5, hr_6, hr_7, hr_8, hr_9, hr_10, hr_11, hr_12, hr_13, hr_14]); (try rfl)] at hS338; exact hS338
   rw [hv_12] at hs_12
   have hA342 : Fr 229 [] [(163, (Value.agg #[(Value.int .i64 (stLo ([plan.getD k (0, 0, 0)]) (leastR R rs ([plan.getD k (0, 0, 0)])))), (Value.int .i64 (stHi ([plan.getD k (0, 0, 0)]) (mostR R rs ([plan.getD k (0, 0, 0)]))))])), (21, (Value.int .i64 (k : Int))), (20, (bptr b315 0)), (19, (Value.int .i64 0)), (18, (bptr b299 0)), (17, (Value.int .i64 0)), (16, (bptr b250 0)), (14, (bptr b201 0)), (5, (bptr b4 0)), (1, vu), (2, vp)] a335 := hA337.add (slot_ev hs_12 rfl); clear hA337
   rw [hv_13] at hs_13
   have hA343 : Fr 229 [] [(164, (Value.int .i64 0)), (163, (Value.agg #[(Value.int .i64 (stLo ([plan.getD k (0, 0, 0)]) (leastR R rs ([plan.getD k (0, 0, 0)])))), (Value.int .i64 (stHi ([plan.getD k (0, 0, 0)]) (mostR R rs ([plan.getD k (0, 0, 0)]))))])), (21, (Value.int .i64 (k : Int))), (20, (bptr b315 0)), (19, (Value.int .i64 0)), (18, (bptr b299 0)), (17, (Value.int .i64 0)), (16, (bptr b250 0)), (14, (bptr b201 0)), (5, (bptr b4 0)), (1, vu), (2, vp)] a335 := hA342.add (slot_ev hs_13 rfl); clear hA342
   rw [hv_14] at hs_14
   have hA344 : Fr 229 [] [(22, (bptr b14_ 0)), (164, (Value.int .i64 0)), (163, (Value.agg #[(Value.int .i64 (stLo ([plan.getD k (0, 0, 0)]) (leastR R rs ([plan.getD k (0, 0, 0)])))), (Value.int .i64 (stHi ([plan.getD k (0, 0, 0)]) (mostR R rs ([plan.getD k (0, 0, 0)]))))])), (21, (Value.int .i64 (k : Int))), (20, (bptr b315 0)), (19, (Value.int .i64 0)), (18, (bptr b299 0)), (17, (Value.int .i64 0)), (16, (bptr b250 0)), (14, (bptr b201 0)), (5, (bptr b4 0)), (1, vu), (2, vp)] a335 := hA343.add (slot_ev hs_14 rfl); clear hA343
   clear hH339 hS338 hs_0 hs_1 hs_2 hs_3 hs_4 hs_5 hs_6 hs_7 hs_8 hs_9 hs_10 hs_11 hs_12 hs_13 hs_14
   clear hr_0
   clear hv_0
   clear hr_1
   clear hv_1
   clear hr_2
   clear hv_2
   clear hr_3
   clear hv_3
   clear hr_4
   clear hv_4
   clear hr_5
   clear hv_5
   clear hr_6
   clear hv_6
   clear hr_7
   clear hv_7
   clear hr_8
   clear hv_8
   clear hr_9
   clear hv_9
   clear hr_10
   clear hv_10
   clear hr_11
   clear hv_11
   clear hr_12
   clear hv_12
   clear hr_13
   clear hv_13
   clear hr_14
   clear hv_14
   refine sts hA344 (op_store hS341 rfl ty_42 (hA344.ev rfl) (hA344.ev rfl) (i := 3) rfl (vs := [(Value.int .i64 (stLo ([plan.getD k (0, 0, 0)]) (leastR R rs ([plan.getD k (0, 0, 0)])))), (Value.int .i64 (stHi ([plan.getD k (0, 0, 0)]) (mostR R rs ([plan.getD k (0, 0, 0)]))))]) rfl rfl rfl (Nat.le_of_ble_eq_true rfl)) rfl rfl ?_
   intro _ w345 hS346 hA347; clear hA344
   have hS348 : Sep NoB w w345 [(row u1_ 42 2 R.length (pairs R)), (runsR true (vs334 3) lv3_ rs), (row (vs334 9) 67 3 ([plan.getD k (0, 0, 0)].length) (trips ([plan.getD k (0, 0, 0)]))), (blk b14_ 42 [(Value.int .i64 (stLo ([plan.getD k (0, 0, 0)]) (leastR R rs ([plan.getD k (0, 0, 0)])))), (Value.int .i64 (stHi ([plan.getD k (0, 0, 0)]) (mostR R rs ([plan.getD k (0, 0, 0)]))))]), (blk b315 42 [(Value.int .i64 ((sumP R rs plan k).1)), (Value.int .i64 ((sumP R rs plan k).2))]), (blk b299 42 [(Value.int .i64 (stLo (hotF plan R.length kk) (leastR R rs (hotF plan R.length kk)))), (Value.int .i64 (stHi (hotF plan R.length kk) (mostR R rs (hotF plan R.length kk))))]), (row v284 67 3 ((hotF plan R.length kk).length) (trips (hotF plan R.length kk))), (runsR true v274 lv275 rs), (row u266 42 2 R.length (pairs R)), (blk b250 42 [(Value.int .i64 (stLo (longF plan kk y) (leastR R rs (longF plan kk y)))), (Value.int .i64 (stHi (longF plan kk y) (mostR R rs (longF plan kk y))))]), (row v235 67 3 ((longF plan kk y).length) (trips (longF plan kk y))), (runsR true v225 lv226 rs), (row u217 42 2 R.length (pairs R)), (blk b201 42 [(Value.int .i64 (stLo plan (leastR R rs plan))), (Value.int .i64 (stHi plan (mostR R rs plan)))]), (row v186 67 3 plan.length (trips plan)), (runsR true v176 lv177 rs), (row u168 42 2 R.length (pairs R)), (row v71 56 3 ((hotF plan R.length kk).length) (trips (hotF plan R.length kk))), (row v57 56 3 ((longF plan kk y).length) (trips (longF plan kk y))), (blk b4 24 [vr]), (sl vr 2 R.length (pairs R)), (runsR false vu lv rs), (sl vp 3 plan.length (trips plan))] := hS346; clear hS346 hS341
   refine st hA347 (op_assign rfl (hA347.ev rfl)) rfl rfl (by decide) fun a349 hA350 => ?_; clear hA347 a335
   refine wl_nil ?_
   refine then_n ?_
   refine c_seq ?_
   refine c_seq ?_
   refine c_region ?_
   refine st hA350 (op_move rfl (hA350.ev rfl)) rfl rfl (by decide) fun a351 hA352 => ?_; clear hA350 a349
   refine st hA352 (op_neq rfl (hA352.ev rfl) (evc _ _)) rfl rfl (by decide) fun a353 hA354 => ?_; clear hA352 a351
   refine wl_nil ?_
   refine then_n ?_
   refine c_false hA354 rfl ?_
   refine c_skip ?_
   refine then_n ?_
   refine c_region ?_
   refine st hA354 (op_field rfl fd_42_0 (hA354.ev rfl)) rfl rfl (by decide) fun a355 hA356 => ?_; clear hA354 a353
   refine st hA356 (op_load1 rfl ty_3 (hA356.ev rfl) (hS348.bk 4 rfl) rfl) rfl rfl (by decide) fun a357 hA358 => ?_; clear hA356 a355
   refine st hA358 (op_field rfl fd_42_0 (hA358.ev rfl)) rfl rfl (by decide) fun a359 hA360 => ?_; clear hA358 a357
   refine st hA360 (op_load1 rfl ty_3 (hA360.ev rfl) (hS348.bk 3 rfl) rfl) rfl rfl (by decide) fun a361 hA362 => ?_; clear hA360 a359
   refine st hA362 (op_add rfl (hA362.ev rfl) (hA362.ev rfl) (by omega) (by omega)) rfl rfl (by decide) fun a363 hA364 => ?_; clear hA362 a361
   refine st hA364 (op_field rfl fd_42_1 (hA364.ev rfl)) rfl rfl (by decide) fun a365 hA366 => ?_; clear hA364 a363
   refine st hA366 (op_load1 rfl ty_3 (hA366.ev rfl) (hS348.bk 4 rfl) rfl) rfl rfl (by decide) fun a367 hA368 => ?_; clear hA366 a365
   refine st hA368 (op_field rfl fd_42_1 (hA368.ev rfl)) rfl rfl (by decide) fun a369 hA370 => ?_; clear hA368 a367
   refine st hA370 (op_load1 rfl ty_3 (hA370.ev rfl) (hS348.bk 3 rfl) rfl) rfl rfl (by decide) fun a371 hA372 => ?_; clear hA370 a369
   refine st hA372 (op_add rfl (hA372.ev rfl) (hA372.ev rfl) (by omega) (by omega)) rfl rfl (by decide) fun a373 hA374 => ?_; clear hA372 a371
   refine st hA374 (op_build rfl (pv2 (hA374.ev rfl) (hA374.ev rfl)) (bd_42_0i_1i _ _)) rfl rfl (by decide) fun a375 hA376 => ?_; clear hA374 a373
   refine sts hA376 (op_store hS348 rfl ty_42 (hA376.ev rfl) (hA376.ev rfl) (i := 4) rfl (vs := [(Value.int .i64 (((sumP R rs plan k).1) + (stLo ([plan.getD k (0, 0, 0)]) (leastR R rs ([plan.getD k (0, 0, 0)]))))), (Value.int .i64 (((sumP R rs plan k).2) + (stHi ([plan.getD k (0, 0, 0)]) (mostR R rs ([plan.getD k (0, 0, 0)])))))]) rfl rfl rfl (Nat.le_of_ble_eq_true rfl)) rfl rfl ?_
   intro _ w377 hS378 hA379; clear hA376
   have hS380 : Sep NoB w w377 [(row u1_ 42 2 R.length (pairs R)), (runsR true (vs334 3) lv3_ rs), (row (vs334 9) 67 3 ([plan.getD k (0, 0, 0)].length) (trips ([plan.getD k (0, 0, 0)]))), (blk b14_ 42 [(Value.int .i64 (stLo ([plan.getD k (0, 0, 0)]) (leastR R rs ([plan.getD k (0, 0, 0)])))), (Value.int .i64 (stHi ([plan.getD k (0, 0, 0)]) (mostR R rs ([plan.getD k (0, 0, 0)]))))]), (blk b315 42 [(Value.int .i64 (((sumP R rs plan k).1) + (stLo ([plan.getD k (0, 0, 0)]) (leastR R rs ([plan.getD k (0, 0, 0)]))))), (Value.int .i64 (((sumP R rs plan k).2) + (stHi ([plan.getD k (0, 0, 0)]) (mostR R rs ([plan.getD k (0, 0, 0)])))))]), (blk b299 42 [(Value.int .i64 (stLo (hotF plan R.length kk) (leastR R rs (hotF plan R.length kk)))), (Value.int .i64 (stHi (hotF plan R.length kk) (mostR R rs (hotF plan R.length kk))))]), (row v284 67 3 ((hotF plan R.length kk).length) (trips (hotF plan R.length kk))), (runsR true v274 lv275 rs), (row u266 42 2 R.length (pairs R)), (blk b250 42 [(Value.int .i64 (stLo (longF plan kk y) (leastR R rs (longF plan kk y)))), (Value.int .i64 (stHi (longF plan kk y) (mostR R rs (longF plan kk y))))]), (row v235 67 3 ((longF plan kk y).length) (trips (longF plan kk y))), (runsR true v225 lv226 rs), (row u217 42 2 R.length (pairs R)), (blk b201 42 [(Value.int .i64 (stLo plan (leastR R rs plan))), (Value.int .i64 (stHi plan (mostR R rs plan)))]), (row v186 67 3 plan.length (trips plan)), (runsR true v176 lv177 rs), (row u168 42 2 R.length (pairs R)), (row v71 56 3 ((hotF plan R.length kk).length) (trips (hotF plan R.length kk))), (row v57 56 3 ((longF plan kk y).length) (trips (longF plan kk y))), (blk b4 24 [vr]), (sl vr 2 R.length (pairs R)), (runsR false vu lv rs), (sl vp 3 plan.length (trips plan))] := hS378; clear hS378 hS348
   refine wl_nil ?_
   refine blk_n ?_
   refine then_n ?_
   have hA381 := hA379.as [(21, (Value.int .i64 (k : Int))), (20, (bptr b315 0)), (19, (Value.int .i64 0)), (18, (bptr b299 0)), (17, (Value.int .i64 0)), (16, (bptr b250 0)), (14, (bptr b201 0)), (5, (bptr b4 0)), (1, vu), (2, vp)] rfl; clear hA379
   refine c_region ?_
   refine st hA381 (op_move rfl (hA381.ev rfl)) rfl rfl (by decide) fun a382 hA383 => ?_; clear hA381 a375
   refine st hA383 (op_add rfl (hA383.ev rfl) (evc _ _) (by omega) (by omega)) rfl rfl (by decide) fun a384 hA385 => ?_; clear hA383 a382
   refine st hA385 (op_assign rfl (hA385.ev rfl)) rfl rfl (by decide) fun a386 hA387 => ?_; clear hA385 a384
   refine wl_nil ?_
   have hS388 : Sep NoB w w377 [(blk b315 42 [(Value.int .i64 (((sumP R rs plan k).1) + (stLo ([plan.getD k (0, 0, 0)]) (leastR R rs ([plan.getD k (0, 0, 0)]))))), (Value.int .i64 (((sumP R rs plan k).2) + (stHi ([plan.getD k (0, 0, 0)]) (mostR R rs ([plan.getD k (0, 0, 0)])))))]), (blk b299 42 [(Value.int .i64 (stLo (hotF plan R.length kk) (leastR R rs (hotF plan R.length kk)))), (Value.int .i64 (stHi (hotF plan R.length kk) (mostR R rs (hotF plan R.length kk))))]), (row v284 67 3 ((hotF plan R.length kk).length) (trips (hotF plan R.length kk))), (runsR true v274 lv275 rs), (row u266 42 2 R.length (pairs R)), (blk b250 42 [(Value.int .i64 (stLo (longF plan kk y) (leastR R rs (longF plan kk y)))), (Value.int .i64 (stHi (longF plan kk y) (mostR R rs (longF plan kk y))))]), (row v235 67 3 ((longF plan kk y).length) (trips (longF plan kk y))), (runsR true v225 lv226 rs), (row u217 42 2 R.length (pairs R)), (blk b201 42 [(Value.int .i64 (stLo plan (leastR R rs plan))), (Value.int .i64 (stHi plan (mostR R rs plan)))]), (row v186 67 3 plan.length (trips plan)), (runsR true v176 lv177 rs), (row u168 42 2 R.length (pairs R)), (row v71 56 3 ((hotF plan R.length kk).length) (trips (hotF plan R.length kk))), (row v57 56 3 ((longF plan kk y).length) (trips (longF plan kk y))), (blk b4 24 [vr]), (sl vr 2 R.length (pairs R)), (runsR false vu lv rs), (sl vp 3 plan.length (trips plan))] := hS380.keep [4, 5, 6, 7, 8, 9, 10, 11, 12, 13, 14, 15, 16, 17, 18, 19, 20, 21, 22] (by decide) _ rfl rfl; clear hS380
   exact then_n ⟨k + 1, ⟨hA387.as _ rfl, hS388, by omega⟩, by omega⟩
  ·skip
   intro a389 w390 vs334 rsf394 hA391 hH393 hrq hS392; clear hA333 hS323
   obtain ⟨hs_0, hy_0⟩ := hH393 0 (by decide) (by decide)
   obtain ⟨hv_0, hr_0⟩ := hy_0
   obtain ⟨hs_1, hy_1⟩ := hH393 1 (by decide) (by decide)
   obtain ⟨u1_, hv_1, hr_1⟩ := hy_1
   obtain ⟨hs_2, hy_2⟩ := hH393 2 (by decide) (by decide)
   obtain ⟨hv_2, hr_2⟩ := hy_2
   obtain ⟨hs_3, hy_3⟩ := hH393 3 (by decide) (by decide)
   obtain ⟨lv3_, hv_3, hr_3⟩ := hy_3
   obtain ⟨hs_4, hy_4⟩ := hH393 4 (by decide) (by decide)
   obtain ⟨hv_4, hr_4⟩ := hy_4
   obtain ⟨hs_5, hy_5⟩ := hH393 5 (by decide) (by decide)
   obtain ⟨hv_5, hr_5⟩ := hy_5
   obtain ⟨hs_6, hy_6⟩ := hH393 6 (by decide) (by decide)
   obtain ⟨hv_6, hr_6⟩ := hy_6
   obtain ⟨hs_7, hy_7⟩ := hH393 7 (by decide) (by decide)
   obtain ⟨hv_7, hr_7⟩ := hy_7
   obtain ⟨hs_8, hy_8⟩ := hH393 8 (by decide) (by decide)
   obtain ⟨hv_8, hr_8⟩ := hy_8
   obtain ⟨hs_9, hy_9⟩ := hH393 9 (by decide) (by decide)
   obtain ⟨hv_9, hr_9⟩ := hy_9
   obtain ⟨hs_10, hy_10⟩ := hH393 10 (by decide) (by decide)
   obtain ⟨hv_10, hr_10⟩ := hy_10
   obtain ⟨hs_11, hy_11⟩ := hH393 11 (by decide) (by decide)
   obtain ⟨hv_11, hr_11⟩ := hy_11
   obtain ⟨hs_12, hy_12⟩ := hH393 12 (by decide) (by decide)
   obtain ⟨hv_12, hr_12⟩ := hy_12
   obtain ⟨hs_14, hy_14⟩ := hH393 14 (by decide) (by decide)
   obtain ⟨b14_, hv_14, hr_14⟩ := hy_14
   have hS395 : Sep NoB w w390 [(row u1_ 42 2 R.length (pairs R)), (runsR true (vs334 3) lv3_ rs), (row (vs334 9) 67 3 ([plan.getD k (0, 0, 0)].length) (trips ([plan.getD k (0, 0, 0)]))), (blk b14_ 42 [(Value.int .i64 0), (Value.int .i64 0)]), (blk b315 42 [(Value.int .i64 ((sumP R rs plan k).1)), (Value.int .i64 ((sumP R rs plan k).2))]), (blk b299 42 [(Value.int .i64 (stLo (hotF plan R.length kk) (leastR R rs (hotF plan R.length kk)))), (Value.int .i64 (stHi (hotF plan R.length kk) (mostR R rs (hotF plan R.length kk))))]), (row v284 67 3 ((hotF plan R.length kk).length) (trips (hotF plan R.length kk))), (runsR true v274 lv275 rs), (row u266 42 2 R.length (pairs R)), (blk b250 42 [(Value.int .i64 (stLo (longF plan kk y) (leastR R rs (longF plan kk y)))), (Value.int .i64 (stHi (longF plan kk y) (mostR R rs (longF plan kk y))))]), (row v235 67 3 ((longF plan kk y).length) (trips (longF plan kk y))), (runsR true v225 lv226 rs), (row u217 42 2 R.length (pairs R)), (blk b201 42 [(Value.int .i64 (stLo plan (leastR R rs plan))), (Value.int .i64 (stHi plan (mostR R rs plan)))]), (row v186 67 3 plan.length (trips plan)), (runsR true v176 lv177 rs), (row u168 42 2 R.length (pairs R)), (row v71 56 3 ((hotF plan R.length kk).length) (trips (hotF plan R.length kk))), (row v57 56 3 ((longF plan kk y).length) (trips (longF plan kk y))), (blk b4 24 [vr]), (sl vr 2 R.length (pairs R)), (runsR false vu lv rs), (sl vp 3 plan.length (trips plan))] := by rw [show catR rsf394 0 15 = ([(row u1_ 42 2 R.length (pairs R)), (runsR true (vs334 3) lv3_ rs), (row (vs334 9) 67 3 ([plan.getD k (0, 0, 0)].length) (trips ([plan.getD k (0, 0, 0)]))), (blk b14_ 42 [(Value.int .i64 0), (Value.int .i64 0)])] : List Res) by (try simp only [catR, hr_0, hr_1, hr_2, hr_3, hr_4, hr_5, hr_6, hr_7, hr_8, hr_9, hr_10, hr_11, hr_12, hr_14, hrq]); (try rfl)] at hS392; exact hS392
   rw [hv_11] at hs_11
   have hA396 : Fr 229 [] [(151, (Value.tuple #[(Value.agg #[(Value.int .i64 (stLo ([plan.getD k (0, 0, 0)]) (leastR R rs ([plan.getD k (0, 0, 0)])))), (Value.int .i64 (stHi ([plan.getD k (0, 0, 0)]) (mostR R rs ([plan.getD k (0, 0, 0)]))))]), (Value.int .i64 0)])), (21, (Value.int .i64 (k : Int))), (20, (bptr b315 0)), (19, (Value.int .i64 0)), (18, (bptr b299 0)), (17, (Value.int .i64 0)), (16, (bptr b250 0)), (14, (bptr b201 0)), (5, (bptr b4 0)), (1, vu), (2, vp)] a389 := hA391.add (slot_ev hs_11 rfl); clear hA391
   rw [hv_12] at hs_12
   have hA397 : Fr 229 [] [(163, (Value.agg #[(Value.int .i64 (stLo ([plan.getD k (0, 0, 0)]) (leastR R rs ([plan.getD k (0, 0, 0)])))), (Value.int .i64 (stHi ([plan.getD k (0, 0, 0)]) (mostR R rs ([plan.getD k (0, 0, 0)]))))])), (151, (Value.tuple #[(Value.agg #[(Value.int .i64 (stLo ([plan.getD k (0, 0, 0)]) (leastR R rs ([plan.getD k (0, 0, 0)])))), (Value.int .i64 (stHi ([plan.getD k (0, 0, 0)]) (mostR R rs ([plan.getD k (0, 0, 0)]))))]), (Value.int .i64 0)])), (21, (Value.int .i64 (k : Int))), (20, (bptr b315 0)), (19, (Value.int .i64 0)), (18, (bptr b299 0)), (17, (Value.int .i64 0)), (16, (bptr b250 0)), (14, (bptr b201 0)), (5, (bptr b4 0)), (1, vu), (2, vp)] a389 := hA396.add (slot_ev hs_12 rfl); clear hA396
   rw [hv_14] at hs_14
   have hA398 : Fr 229 [] [(22, (bptr b14_ 0)), (163, (Value.agg #[(Value.int .i64 (stLo ([plan.getD k (0, 0, 0)]) (leastR R rs ([plan.getD k (0, 0, 0)])))), (Value.int .i64 (stHi ([plan.getD k (0, 0, 0)]) (mostR R rs ([plan.getD k (0, 0, 0)]))))])), (151, (Value.tuple #[(Value.agg #[(Value.int .i64 (stLo ([plan.getD k (0, 0, 0)]) (leastR R rs ([plan.getD k (0, 0, 0)])))), (Value.int .i64 (stHi ([plan.getD k (0, 0, 0)]) (mostR R rs ([plan.getD k (0, 0, 0)]))))]), (Value.int .i64 0)])), (21, (Value.int .i64 (k : Int))), (20, (bptr b315 0)), (19, (Value.int .i64 0)), (18, (bptr b299 0)), (17, (Value.int .i64 0)), (16, (bptr b250 0)), (14, (bptr b201 0)), (5, (bptr b4 0)), (1, vu), (2, vp)] a389 := hA397.add (slot_ev hs_14 rfl); clear hA397
   clear hH393 hS392 hs_0 hs_1 hs_2 hs_3 hs_4 hs_5 hs_6 hs_7 hs_8 hs_9 hs_10 hs_11 hs_12 hs_14 hrq
   clear hr_0
   clear hv_0
   clear hr_1
   clear hv_1
   clear hr_2
   clear hv_2
   clear hr_3
   clear hv_3
   clear hr_4
   clear hv_4
   clear hr_5
   clear hv_5
   clear hr_6
   clear hv_6
   clear hr_7
   clear hv_7
   clear hr_8
   clear hv_8
   clear hr_9
   clear hv_9
   clear hr_10
   clear hv_10
   clear hr_11
   clear hv_11
   clear hr_12
   clear hv_12
   clear hr_14
   clear hv_14
   refine sts hA398 (op_store hS395 rfl ty_42 (hA398.ev rfl) (hA398.ev rfl) (i := 3) rfl (vs := [(Value.int .i64 (stLo ([plan.getD k (0, 0, 0)]) (leastR R rs ([plan.getD k (0, 0, 0)])))), (Value.int .i64 (stHi ([plan.getD k (0, 0, 0)]) (mostR R rs ([plan.getD k (0, 0, 0)]))))]) rfl rfl rfl (Nat.le_of_ble_eq_true rfl)) rfl rfl ?_
   intro _ w399 hS400 hA401; clear hA398
   have hS402 : Sep NoB w w399 [(row u1_ 42 2 R.length (pairs R)), (runsR true (vs334 3) lv3_ rs), (row (vs334 9) 67 3 ([plan.getD k (0, 0, 0)].length) (trips ([plan.getD k (0, 0, 0)]))), (blk b14_ 42 [(Value.int .i64 (stLo ([plan.getD k (0, 0, 0)]) (leastR R rs ([plan.getD k (0, 0, 0)])))), (Value.int .i64 (stHi ([plan.getD k (0, 0, 0)]) (mostR R rs ([plan.getD k (0, 0, 0)]))))]), (blk b315 42 [(Value.int .i64 ((sumP R rs plan k).1)), (Value.int .i64 ((sumP R rs plan k).2))]), (blk b299 42 [(Value.int .i64 (stLo (hotF plan R.length kk) (leastR R rs (hotF plan R.length kk)))), (Value.int .i64 (stHi (hotF plan R.length kk) (mostR R rs (hotF plan R.length kk))))]), (row v284 67 3 ((hotF plan R.length kk).length) (trips (hotF plan R.length kk))), (runsR true v274 lv275 rs), (row u266 42 2 R.length (pairs R)), (blk b250 42 [(Value.int .i64 (stLo (longF plan kk y) (leastR R rs (longF plan kk y)))), (Value.int .i64 (stHi (longF plan kk y) (mostR R rs (longF plan kk y))))]), (row v235 67 3 ((longF plan kk y).length) (trips (longF plan kk y))), (runsR true v225 lv226 rs), (row u217 42 2 R.length (pairs R)), (blk b201 42 [(Value.int .i64 (stLo plan (leastR R rs plan))), (Value.int .i64 (stHi plan (mostR R rs plan)))]), (row v186 67 3 plan.length (trips plan)), (runsR true v176 lv177 rs), (row u168 42 2 R.length (pairs R)), (row v71 56 3 ((hotF plan R.length kk).length) (trips (hotF plan R.length kk))), (row v57 56 3 ((longF plan kk y).length) (trips (longF plan kk y))), (blk b4 24 [vr]), (sl vr 2 R.length (pairs R)), (runsR false vu lv rs), (sl vp 3 plan.length (trips plan))] := hS400; clear hS400 hS395
   refine st hA401 (op_extract rfl (hA401.ev rfl) rfl) rfl rfl (by decide) fun a403 hA404 => ?_; clear hA401 a389
   refine st hA404 (op_assign rfl (hA404.ev rfl)) rfl rfl (by decide) fun a405 hA406 => ?_; clear hA404 a403
   refine wl_nil ?_
   refine then_n ?_
   refine c_seq ?_
   refine c_seq ?_
   refine c_region ?_
   refine st hA406 (op_move rfl (hA406.ev rfl)) rfl rfl (by decide) fun a407 hA408 => ?_; clear hA406 a405
   refine st hA408 (op_neq rfl (hA408.ev rfl) (evc _ _)) rfl rfl (by decide) fun a409 hA410 => ?_; clear hA408 a407
   refine wl_nil ?_
   refine then_n ?_
   refine c_false hA410 rfl ?_
   refine c_skip ?_
   refine then_n ?_
   have hA411 := hA410.as [(22, (bptr b14_ 0)), (21, (Value.int .i64 (k : Int))), (20, (bptr b315 0)), (19, (Value.int .i64 0)), (18, (bptr b299 0)), (17, (Value.int .i64 0)), (16, (bptr b250 0)), (14, (bptr b201 0)), (5, (bptr b4 0)), (1, vu), (2, vp)] rfl; clear hA410
   refine c_region ?_
   refine st hA411 (op_field rfl fd_42_0 (hA411.ev rfl)) rfl rfl (by decide) fun a412 hA413 => ?_; clear hA411 a409
   refine st hA413 (op_load1 rfl ty_3 (hA413.ev rfl) (hS402.bk 4 rfl) rfl) rfl rfl (by decide) fun a414 hA415 => ?_; clear hA413 a412
   refine st hA415 (op_field rfl fd_42_0 (hA415.ev rfl)) rfl rfl (by decide) fun a416 hA417 => ?_; clear hA415 a414
   refine st hA417 (op_load1 rfl ty_3 (hA417.ev rfl) (hS402.bk 3 rfl) rfl) rfl rfl (by decide) fun a418 hA419 => ?_; clear hA417 a416
   refine st hA419 (op_add rfl (hA419.ev rfl) (hA419.ev rfl) (by omega) (by omega)) rfl rfl (by decide) fun a420 hA421 => ?_; clear hA419 a418
   refine st hA421 (op_field rfl fd_42_1 (hA421.ev rfl)) rfl rfl (by decide) fun a422 hA423 => ?_; clear hA421 a420
   refine st hA423 (op_load1 rfl ty_3 (hA423.ev rfl) (hS402.bk 4 rfl) rfl) rfl rfl (by decide) fun a424 hA425 => ?_; clear hA423 a422
   refine st hA425 (op_field rfl fd_42_1 (hA425.ev rfl)) rfl rfl (by decide) fun a426 hA427 => ?_; clear hA425 a424
   refine st hA427 (op_load1 rfl ty_3 (hA427.ev rfl) (hS402.bk 3 rfl) rfl) rfl rfl (by decide) fun a428 hA429 => ?_; clear hA427 a426
   refine st hA429 (op_add rfl (hA429.ev rfl) (hA429.ev rfl) (by omega) (by omega)) rfl rfl (by decide) fun a430 hA431 => ?_; clear hA429 a428
   refine st hA431 (op_build rfl (pv2 (hA431.ev rfl) (hA431.ev rfl)) (bd_42_0i_1i _ _)) rfl rfl (by decide) fun a432 hA433 => ?_; clear hA431 a430
   refine sts hA433 (op_store hS402 rfl ty_42 (hA433.ev rfl) (hA433.ev rfl) (i := 4) rfl (vs := [(Value.int .i64 (((sumP R rs plan k).1) + (stLo ([plan.getD k (0, 0, 0)]) (leastR R rs ([plan.getD k (0, 0, 0)]))))), (Value.int .i64 (((sumP R rs plan k).2) + (stHi ([plan.getD k (0, 0, 0)]) (mostR R rs ([plan.getD k (0, 0, 0)])))))]) rfl rfl rfl (Nat.le_of_ble_eq_true rfl)) rfl rfl ?_
   intro _ w434 hS435 hA436; clear hA433
   have hS437 : Sep NoB w w434 [(row u1_ 42 2 R.length (pairs R)), (runsR true (vs334 3) lv3_ rs), (row (vs334 9) 67 3 ([plan.getD k (0, 0, 0)].length) (trips ([plan.getD k (0, 0, 0)]))), (blk b14_ 42 [(Value.int .i64 (stLo ([plan.getD k (0, 0, 0)]) (leastR R rs ([plan.getD k (0, 0, 0)])))), (Value.int .i64 (stHi ([plan.getD k (0, 0, 0)]) (mostR R rs ([plan.getD k (0, 0, 0)]))))]), (blk b315 42 [(Value.int .i64 (((sumP R rs plan k).1) + (stLo ([plan.getD k (0, 0, 0)]) (leastR R rs ([plan.getD k (0, 0, 0)]))))), (Value.int .i64 (((sumP R rs plan k).2) + (stHi ([plan.getD k (0, 0, 0)]) (mostR R rs ([plan.getD k (0, 0, 0)])))))]), (blk b299 42 [(Value.int .i64 (stLo (hotF plan R.length kk) (leastR R rs (hotF plan R.length kk)))), (Value.int .i64 (stHi (hotF plan R.length kk) (mostR R rs (hotF plan R.length kk))))]), (row v284 67 3 ((hotF plan R.length kk).length) (trips (hotF plan R.length kk))), (runsR true v274 lv275 rs), (row u266 42 2 R.length (pairs R)), (blk b250 42 [(Value.int .i64 (stLo (longF plan kk y) (leastR R rs (longF plan kk y)))), (Value.int .i64 (stHi (longF plan kk y) (mostR R rs (longF plan kk y))))]), (row v235 67 3 ((longF plan kk y).length) (trips (longF plan kk y))), (runsR true v225 lv226 rs), (row u217 42 2 R.length (pairs R)), (blk b201 42 [(Value.int .i64 (stLo plan (leastR R rs plan))), (Value.int .i64 (stHi plan (mostR R rs plan)))]), (row v186 67 3 plan.length (trips plan)), (runsR true v176 lv177 rs), (row u168 42 2 R.length (pairs R)), (row v71 56 3 ((hotF plan R.length kk).length) (trips (hotF plan R.length kk))), (row v57 56 3 ((longF plan kk y).length) (trips (longF plan kk y))), (blk b4 24 [vr]), (sl vr 2 R.length (pairs R)), (runsR false vu lv rs), (sl vp 3 plan.length (trips plan))] := hS435; clear hS435 hS402
   refine wl_nil ?_
   refine blk_n ?_
   refine then_n ?_
   have hA438 := hA436.as [(21, (Value.int .i64 (k : Int))), (20, (bptr b315 0)), (19, (Value.int .i64 0)), (18, (bptr b299 0)), (17, (Value.int .i64 0)), (16, (bptr b250 0)), (14, (bptr b201 0)), (5, (bptr b4 0)), (1, vu), (2, vp)] rfl; clear hA436
   refine c_region ?_
   refine st hA438 (op_move rfl (hA438.ev rfl)) rfl rfl (by decide) fun a439 hA440 => ?_; clear hA438 a432
   refine st hA440 (op_add rfl (hA440.ev rfl) (evc _ _) (by omega) (by omega)) rfl rfl (by decide) fun a441 hA442 => ?_; clear hA440 a439
   refine st hA442 (op_assign rfl (hA442.ev rfl)) rfl rfl (by decide) fun a443 hA444 => ?_; clear hA442 a441
   refine wl_nil ?_
   have hS445 : Sep NoB w w434 [(blk b315 42 [(Value.int .i64 (((sumP R rs plan k).1) + (stLo ([plan.getD k (0, 0, 0)]) (leastR R rs ([plan.getD k (0, 0, 0)]))))), (Value.int .i64 (((sumP R rs plan k).2) + (stHi ([plan.getD k (0, 0, 0)]) (mostR R rs ([plan.getD k (0, 0, 0)])))))]), (blk b299 42 [(Value.int .i64 (stLo (hotF plan R.length kk) (leastR R rs (hotF plan R.length kk)))), (Value.int .i64 (stHi (hotF plan R.length kk) (mostR R rs (hotF plan R.length kk))))]), (row v284 67 3 ((hotF plan R.length kk).length) (trips (hotF plan R.length kk))), (runsR true v274 lv275 rs), (row u266 42 2 R.length (pairs R)), (blk b250 42 [(Value.int .i64 (stLo (longF plan kk y) (leastR R rs (longF plan kk y)))), (Value.int .i64 (stHi (longF plan kk y) (mostR R rs (longF plan kk y))))]), (row v235 67 3 ((longF plan kk y).length) (trips (longF plan kk y))), (runsR true v225 lv226 rs), (row u217 42 2 R.length (pairs R)), (blk b201 42 [(Value.int .i64 (stLo plan (leastR R rs plan))), (Value.int .i64 (stHi plan (mostR R rs plan)))]), (row v186 67 3 plan.length (trips plan)), (runsR true v176 lv177 rs), (row u168 42 2 R.length (pairs R)), (row v71 56 3 ((hotF plan R.length kk).length) (trips (hotF plan R.length kk))), (row v57 56 3 ((longF plan kk y).length) (trips (longF plan kk y))), (blk b4 24 [vr]), (sl vr 2 R.length (pairs R)), (runsR false vu lv rs), (sl vp 3 plan.length (trips plan))] := hS437.keep [4, 5, 6, 7, 8, 9, 10, 11, 12, 13, 14, 15, 16, 17, 18, 19, 20, 21, 22] (by decide) _ rfl rfl; clear hS437
   exact then_n ⟨k + 1, ⟨hA444.as _ rfl, hS445, by omega⟩, by omega⟩
 ·skip
  rw [decide_eq_false hb332] at hA331
  refine c_false hA331 rfl ?_
  refine c_exit ?_
  refine then_exit ?_
  refine then_exit ?_
  refine blk_hit ?_
  refine then_n ?_
  refine c_seq ?_
  have hA446 := hA331.as [(20, (bptr b315 0)), (19, (Value.int .i64 0)), (18, (bptr b299 0)), (17, (Value.int .i64 0)), (16, (bptr b250 0)), (14, (bptr b201 0))] rfl; clear hA331
  refine c_region ?_
  refine st hA446 (op_move rfl (hA446.ev rfl)) rfl rfl (by decide) fun a447 hA448 => ?_; clear hA446 a330
  refine st hA448 (op_eql rfl (hA448.ev rfl) (evc _ _)) rfl rfl (by decide) fun a449 hA450 => ?_; clear hA448 a447
  refine st hA450 (op_move rfl (hA450.ev rfl)) rfl rfl (by decide) fun a451 hA452 => ?_; clear hA450 a449
  refine stg hA452 (op_move rfl (hA452.ev rfl)) rfl rfl rfl rfl (by decide) fun a453 hA454 => ?_; clear hA452 a451
  refine stg hA454 (op_eql rfl (hA454.ev rfl) (evc _ _)) rfl rfl rfl rfl (by decide) fun a455 hA456 => ?_; clear hA454 a453
  refine st hA456 (op_pick_t rfl (hA456.ev rfl) (hA456.ev rfl)) rfl rfl (by decide) fun a457 hA458 => ?_; clear hA456 a455
  refine st hA458 (op_move rfl (hA458.ev rfl)) rfl rfl (by decide) fun a459 hA460 => ?_; clear hA458 a457
  refine stg hA460 (op_field rfl fd_42_0 (hA460.ev rfl)) rfl rfl rfl rfl (by decide) fun a461 hA462 => ?_; clear hA460 a459
  refine stg hA462 (op_load1 rfl ty_3 (hA462.ev rfl) (hS323.bk 5 rfl) rfl) rfl rfl rfl rfl (by decide) fun a463 hA464 => ?_; clear hA462 a461
  refine stg hA464 (op_field rfl fd_42_0 (hA464.ev rfl)) rfl rfl rfl rfl (by decide) fun a465 hA466 => ?_; clear hA464 a463
  refine stg hA466 (op_load1 rfl ty_3 (hA466.ev rfl) (hS323.bk 9 rfl) rfl) rfl rfl rfl rfl (by decide) fun a467 hA468 => ?_; clear hA466 a465
  refine stg hA468 (op_geq rfl (hA468.ev rfl) (hA468.ev rfl)) rfl rfl rfl rfl (by decide) fun a469 hA470 => ?_; clear hA468 a467
  have hd471 : (stLo plan (leastR R rs plan)) ≤ (stLo (longF plan kk y) (leastR R rs (longF plan kk y))) := (long_ge hR hb_kk hs hy hal).1
  rw [decide_eq_true hd471] at hA470
  refine st hA470 (op_pick_t rfl (hA470.ev rfl) (hA470.ev rfl)) rfl rfl (by decide) fun a472 hA473 => ?_; clear hA470 a469
  refine st hA473 (op_move rfl (hA473.ev rfl)) rfl rfl (by decide) fun a474 hA475 => ?_; clear hA473 a472
  refine stg hA475 (op_field rfl fd_42_1 (hA475.ev rfl)) rfl rfl rfl rfl (by decide) fun a476 hA477 => ?_; clear hA475 a474
  refine stg hA477 (op_load1 rfl ty_3 (hA477.ev rfl) (hS323.bk 5 rfl) rfl) rfl rfl rfl rfl (by decide) fun a478 hA479 => ?_; clear hA477 a476
  refine stg hA479 (op_field rfl fd_42_1 (hA479.ev rfl)) rfl rfl rfl rfl (by decide) fun a480 hA481 => ?_; clear hA479 a478
  refine stg hA481 (op_load1 rfl ty_3 (hA481.ev rfl) (hS323.bk 9 rfl) rfl) rfl rfl rfl rfl (by decide) fun a482 hA483 => ?_; clear hA481 a480
  refine stg hA483 (op_geq rfl (hA483.ev rfl) (hA483.ev rfl)) rfl rfl rfl rfl (by decide) fun a484 hA485 => ?_; clear hA483 a482
  have hd486 : (stHi plan (mostR R rs plan)) ≤ (stHi (longF plan kk y) (mostR R rs (longF plan kk y))) := (long_ge hR hb_kk hs hy hal).2
  rw [decide_eq_true hd486] at hA485
  refine st hA485 (op_pick_t rfl (hA485.ev rfl) (hA485.ev rfl)) rfl rfl (by decide) fun a487 hA488 => ?_; clear hA485 a484
  refine st hA488 (op_move rfl (hA488.ev rfl)) rfl rfl (by decide) fun a489 hA490 => ?_; clear hA488 a487
  refine stg hA490 (op_field rfl fd_42_0 (hA490.ev rfl)) rfl rfl rfl rfl (by decide) fun a491 hA492 => ?_; clear hA490 a489
  refine stg hA492 (op_load1 rfl ty_3 (hA492.ev rfl) (hS323.bk 1 rfl) rfl) rfl rfl rfl rfl (by decide) fun a493 hA494 => ?_; clear hA492 a491
  refine stg hA494 (op_field rfl fd_42_0 (hA494.ev rfl)) rfl rfl rfl rfl (by decide) fun a495 hA496 => ?_; clear hA494 a493
  refine stg hA496 (op_load1 rfl ty_3 (hA496.ev rfl) (hS323.bk 9 rfl) rfl) rfl rfl rfl rfl (by decide) fun a497 hA498 => ?_; clear hA496 a495
  refine stg hA498 (op_geq rfl (hA498.ev rfl) (hA498.ev rfl)) rfl rfl rfl rfl (by decide) fun a499 hA500 => ?_; clear hA498 a497
  have hd501 : (stLo plan (leastR R rs plan)) ≤ (stLo (hotF plan R.length kk) (leastR R rs (hotF plan R.length kk))) := (hot_ge hR hb_kk hs hV hal).1
  rw [decide_eq_true hd501] at hA500
  refine st hA500 (op_pick_t rfl (hA500.ev rfl) (hA500.ev rfl)) rfl rfl (by decide) fun a502 hA503 => ?_; clear hA500 a499
  refine st hA503 (op_move rfl (hA503.ev rfl)) rfl rfl (by decide) fun a504 hA505 => ?_; clear hA503 a502
  refine stg hA505 (op_field rfl fd_42_1 (hA505.ev rfl)) rfl rfl rfl rfl (by decide) fun a506 hA507 => ?_; clear hA505 a504
  refine stg hA507 (op_load1 rfl ty_3 (hA507.ev rfl) (hS323.bk 1 rfl) rfl) rfl rfl rfl rfl (by decide) fun a508 hA509 => ?_; clear hA507 a506
  refine stg hA509 (op_field rfl fd_42_1 (hA509.ev rfl)) rfl rfl rfl rfl (by decide) fun a510 hA511 => ?_; clear hA509 a508
  refine stg hA511 (op_load1 rfl ty_3 (hA511.ev rfl) (hS323.bk 9 rfl) rfl) rfl rfl rfl rfl (by decide) fun a512 hA513 => ?_; clear hA511 a510
  refine stg hA513 (op_geq rfl (hA513.ev rfl) (hA513.ev rfl)) rfl rfl rfl rfl (by decide) fun a514 hA515 => ?_; clear hA513 a512
  have hd516 : (stHi plan (mostR R rs plan)) ≤ (stHi (hotF plan R.length kk) (mostR R rs (hotF plan R.length kk))) := (hot_ge hR hb_kk hs hV hal).2
  rw [decide_eq_true hd516] at hA515
  refine st hA515 (op_pick_t rfl (hA515.ev rfl) (hA515.ev rfl)) rfl rfl (by decide) fun a517 hA518 => ?_; clear hA515 a514
  refine st hA518 (op_move rfl (hA518.ev rfl)) rfl rfl (by decide) fun a519 hA520 => ?_; clear hA518 a517
  refine stg hA520 (op_field rfl fd_42_0 (hA520.ev rfl)) rfl rfl rfl rfl (by decide) fun a521 hA522 => ?_; clear hA520 a519
  refine stg hA522 (op_load1 rfl ty_3 (hA522.ev rfl) (hS323.bk 9 rfl) rfl) rfl rfl rfl rfl (by decide) fun a523 hA524 => ?_; clear hA522 a521
  refine stg hA524 (op_field rfl fd_42_0 (hA524.ev rfl)) rfl rfl rfl rfl (by decide) fun a525 hA526 => ?_; clear hA524 a523
  refine stg hA526 (op_load1 rfl ty_3 (hA526.ev rfl) (hS323.bk 0 rfl) rfl) rfl rfl rfl rfl (by decide) fun a527 hA528 => ?_; clear hA526 a525
  refine stg hA528 (op_geq rfl (hA528.ev rfl) (hA528.ev rfl)) rfl rfl rfl rfl (by decide) fun a529 hA530 => ?_; clear hA528 a527
  have hd531 : ((sumP R rs plan k).1) ≤ (stLo plan (leastR R rs plan)) := (sum_ends hal (k := k) (by omega)).1
  rw [decide_eq_true hd531] at hA530
  refine st hA530 (op_pick_t rfl (hA530.ev rfl) (hA530.ev rfl)) rfl rfl (by decide) fun a532 hA533 => ?_; clear hA530 a529
  refine st hA533 (op_move rfl (hA533.ev rfl)) rfl rfl (by decide) fun a534 hA535 => ?_; clear hA533 a532
  refine stg hA535 (op_field rfl fd_42_1 (hA535.ev rfl)) rfl rfl rfl rfl (by decide) fun a536 hA537 => ?_; clear hA535 a534
  refine stg hA537 (op_load1 rfl ty_3 (hA537.ev rfl) (hS323.bk 9 rfl) rfl) rfl rfl rfl rfl (by decide) fun a538 hA539 => ?_; clear hA537 a536
  refine stg hA539 (op_field rfl fd_42_1 (hA539.ev rfl)) rfl rfl rfl rfl (by decide) fun a540 hA541 => ?_; clear hA539 a538
  refine stg hA541 (op_load1 rfl ty_3 (hA541.ev rfl) (hS323.bk 0 rfl) rfl) rfl rfl rfl rfl (by decide) fun a542 hA543 => ?_; clear hA541 a540
  refine stg hA543 (op_leq rfl (hA543.ev rfl) (hA543.ev rfl)) rfl rfl rfl rfl (by decide) fun a544 hA545 => ?_; clear hA543 a542
  have hd546 : (stHi plan (mostR R rs plan)) ≤ ((sumP R rs plan k).2) := (sum_ends hal (k := k) (by omega)).2
  rw [decide_eq_true hd546] at hA545
  refine st hA545 (op_pick_t rfl (hA545.ev rfl) (hA545.ev rfl)) rfl rfl (by decide) fun a547 hA548 => ?_; clear hA545 a544
  refine st hA548 (op_move rfl (hA548.ev rfl)) rfl rfl (by decide) fun a549 hA550 => ?_; clear hA548 a547
  refine stwg hA550 (op_call rfl en_17 ev0 (awake_ok _)) rfl rfl rfl rfl (by decide) ?_
  rintro a551 _ w553 ⟨rfl, hE554⟩ hA552; have hS555 := hS323.step hE554; clear hE554 hA550 hS323 a549
  refine st hA552 (op_pick_t rfl (hA552.ev rfl) (hA552.ev rfl)) rfl rfl (by decide) fun a556 hA557 => ?_; clear hA552 a551
  refine st hA557 (op_assign rfl (hA557.ev rfl)) rfl rfl (by decide) fun a558 hA559 => ?_; clear hA557 a556
  refine wl_nil ?_
  refine then_n ?_
  refine c_ret ?_
  refine fin_run hA559 (.inl rfl) (run_results1 hA559 rfl (.tmp rfl)) ?_
  exact ⟨rfl, hS555.ext⟩
theorem CreepLonger_ok (w : World) (R : List (Int × Int)) (vr : Value) (hm : SlAt w vr 2 R.length (pairs R)) (rs : List RunD) (lv : List Value) (vu : Value) (hx : RunsAt w vu lv rs) (plan : List Seg) (vp : Value) (hp : SlAt w vp 3 plan.length (trips plan)) (wh : Int) (hB : 0 ≤ wh ∧ wh ≤ 255) (y : Int) (hy : 0 ≤ y ∧ y ≤ 65535) : Calls Try.prog 7 #[.agg #[vr], vu, vp, .int .u8 wh, .int .u16 y] w (Ret fun v w' => v = .bool true ∧ Ext NoB w w') := by
 rcases Bool.eq_false_or_eq_true (readyB R rs plan) with hf | hf
 ·by_cases h0 : plan.length = 0
  ·exact CreepLonger_z w R vr hm rs lv vu hx plan vp hp wh y hB hy hf h0
  ·rcases poss_09 (ready_is hf).2.1 with hc | hc
   ·exact CreepLonger_c w R vr hm rs lv vu hx plan vp hp wh y hB hy hf (by omega) hc
   ·exact CreepLonger_b w R vr hm rs lv vu hx plan vp hp wh y hB hy hf (by omega) hc
 ·exact CreepLonger_a w R vr hm rs lv vu hx plan vp hp wh y hB hy hf
end Go.Proofs.Ytkkglkdnnfegkaa
