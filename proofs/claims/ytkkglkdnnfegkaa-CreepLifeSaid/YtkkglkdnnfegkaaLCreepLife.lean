/-
  Walks through the functions of the seat, printed by a program of ours (gowalk), a theorem a function: what the call returns and what it leaves in memory.
-/
import Derived.Test.YtkkglkdnnfegkaaBd
import Derived.Test.YtkkglkdnnfegkaaEnga
set_option linter.unusedSimpArgs false
set_option linter.unusedVariables false
namespace Go.Proofs.Ytkkglkdnnfegkaa
open Go.RowKit Go.Shelf Go.Eng
set_option maxHeartbeats 4000000 in
theorem CreepLife_a (w : World) (R : List (Int × Int)) (vr : Value) (hm : SlAt w vr 2 R.length (pairs R)) (rs : List RunD) (lv : List Value) (vu : Value) (hx : RunsAt w vu lv rs) (bd s : Int) (hB : 0 ≤ bd ∧ bd ≤ 255) (hS_ : 0 ≤ s ∧ s ≤ 4294967295) (hf : readyB R rs [] = false) :
  Calls Try.prog 8 #[(Value.agg #[vr]), vu, (Value.int .u8 bd), (Value.int .u32 s)] w (Ret fun v w' => v = .bool true ∧ Ext NoB w w') := by
 refine calls_enter Try.func8 rfl fun a0 hA0 => ?_
 replace hA0 : Fr 124 [] [(0, (Value.agg #[vr])), (1, vu), (2, (Value.int .u8 bd)), (3, (Value.int .u32 s))] a0 := hA0
 have hS0 : Sep NoB w w [(sl vr 2 R.length (pairs R)), (runsR false vu lv rs)] := sep_ro ⟨rfl, hm, rfl, hx, trivial⟩
 refine c_seq ?_
 refine c_region ?_
 refine stw hA0 (op_box hS0 rfl (hA0.ev rfl) (cs := [vr]) rfl) rfl rfl (by decide) ?_
 rintro a1 _ w3 ⟨b4, rfl, hS5⟩ hA2; clear hA0 hS0 a0
 refine st hA2 (op_assign rfl (evc _ _)) rfl rfl (by decide) fun a6 hA7 => ?_; clear hA2 a1
 refine wl_nil ?_
 refine then_n ?_
 refine c_seq ?_
 refine c_seq ?_
 refine c_region ?_
 refine st hA7 (op_loadA rfl ty_24 (hA7.ev rfl) (hS5.bk 0 rfl) (l := [vr]) rfl rfl) rfl rfl (by decide) fun a8 hA9 => ?_; clear hA7 a6
 refine st hA9 (op_move rfl (hA9.ev rfl)) rfl rfl (by decide) fun a10 hA11 => ?_; clear hA9 a8
 refine stw hA11 (op_call rfl en_27 (ev3 (hA11.ev rfl) (hA11.ev rfl) (evc _ _)) (ready_ok _ R _ (hS5.sk 1 rfl) rs _ _ (runs_at (hS5.ok 2 _ rfl)) ([]) _ (slAt_nil _ 3))) rfl rfl (by decide) ?_
 rintro a12 _ w14 ⟨rfl, hE15⟩ hA13; have hS16 := hS5.step hE15; clear hE15 hA11 hS5 a10
 rw [hf] at hA13
 refine st hA13 (op_not rfl (hA13.ev rfl)) rfl rfl (by decide) fun a17 hA18 => ?_; clear hA13 a12
 refine wl_nil ?_
 refine then_n ?_
 refine c_true hA18 rfl ?_
 refine c_seq ?_
 have hA19 := hA18.as [] rfl; clear hA18
 refine c_region ?_
 refine stw hA19 (op_call rfl en_17 ev0 (awake_ok _)) rfl rfl (by decide) ?_
 rintro a20 _ w22 ⟨rfl, hE23⟩ hA21; have hS24 := hS16.step hE23; clear hE23 hA19 hS16 a17
 refine st hA21 (op_assign rfl (hA21.ev rfl)) rfl rfl (by decide) fun a25 hA26 => ?_; clear hA21 a20
 refine wl_nil ?_
 refine then_n ?_
 refine c_ret ?_
 refine then_ret ?_
 refine fin_run hA26 (.inl rfl) (run_results1 hA26 rfl (.tmp rfl)) ?_
 exact ⟨rfl, hS24.ext⟩
set_option maxHeartbeats 4000000 in
theorem CreepLife_b (w : World) (R : List (Int × Int)) (vr : Value) (hm : SlAt w vr 2 R.length (pairs R)) (rs : List RunD) (lv : List Value) (vu : Value) (hx : RunsAt w vu lv rs) (bd s : Int) (hB : 0 ≤ bd ∧ bd ≤ 255) (hS_ : 0 ≤ s ∧ s ≤ 4294967295) (hf : readyB R rs [] = true) (hc : possF R rs = 9) :
  Calls Try.prog 8 #[(Value.agg #[vr]), vu, (Value.int .u8 bd), (Value.int .u32 s)] w (Ret fun v w' => v = .bool true ∧ Ext NoB w w') := by
 refine calls_enter Try.func8 rfl fun a0 hA0 => ?_
 replace hA0 : Fr 124 [] [(0, (Value.agg #[vr])), (1, vu), (2, (Value.int .u8 bd)), (3, (Value.int .u32 s))] a0 := hA0
 have hrd := ready_is hf; have hth := hrd.1; have he := hrd.2.1; have h6 := hth.mat; have h9 := hth.runs; have h12 := hth.plan; have hp8 := hrd.2.2.1; have hsb := hrd.2.2.2; have hcm := check_mat (enter_mat he); have hR := hcm.1; have hR1 := hcm.2.1; have hR3 := hR.1; have hV := enter_runs he; have hrt := ratesF_len R rs; have hle := allowed_le (rs := rs) hR; have hl9 : ∀ b : Nat, lifeE R rs (b : Int) s = 9 := fun b => (life_p (by rw [hc]; decide)).trans hc; have hlz : ∀ b : Nat, lifeE R rs (b : Int) s ≠ 0 := fun b => by rw [hl9]; decide
 have hS0 : Sep NoB w w [(sl vr 2 R.length (pairs R)), (runsR false vu lv rs)] := sep_ro ⟨rfl, hm, rfl, hx, trivial⟩
 refine c_seq ?_
 refine c_region ?_
 refine stw hA0 (op_box hS0 rfl (hA0.ev rfl) (cs := [vr]) rfl) rfl rfl (by decide) ?_
 rintro a1 _ w3 ⟨b4, rfl, hS5⟩ hA2; clear hA0 hS0 a0
 refine st hA2 (op_assign rfl (evc _ _)) rfl rfl (by decide) fun a6 hA7 => ?_; clear hA2 a1
 refine wl_nil ?_
 refine then_n ?_
 refine c_seq ?_
 refine c_seq ?_
 refine c_region ?_
 refine st hA7 (op_loadA rfl ty_24 (hA7.ev rfl) (hS5.bk 0 rfl) (l := [vr]) rfl rfl) rfl rfl (by decide) fun a8 hA9 => ?_; clear hA7 a6
 refine st hA9 (op_move rfl (hA9.ev rfl)) rfl rfl (by decide) fun a10 hA11 => ?_; clear hA9 a8
 refine stw hA11 (op_call rfl en_27 (ev3 (hA11.ev rfl) (hA11.ev rfl) (evc _ _)) (ready_ok _ R _ (hS5.sk 1 rfl) rs _ _ (runs_at (hS5.ok 2 _ rfl)) ([]) _ (slAt_nil _ 3))) rfl rfl (by decide) ?_
 rintro a12 _ w14 ⟨rfl, hE15⟩ hA13; have hS16 := hS5.step hE15; clear hE15 hA11 hS5 a10
 rw [hf] at hA13
 refine st hA13 (op_not rfl (hA13.ev rfl)) rfl rfl (by decide) fun a17 hA18 => ?_; clear hA13 a12
 refine wl_nil ?_
 refine then_n ?_
 refine c_false hA18 rfl ?_
 refine c_skip ?_
 refine then_n ?_
 refine c_seq ?_
 have hA19 := hA18.as [(4, (bptr b4 0)), (1, vu), (2, (Value.int .u8 bd)), (3, (Value.int .u32 s))] rfl; clear hA18
 refine c_region ?_
 refine st hA19 (op_move rfl (hA19.ev rfl)) rfl rfl (by decide) fun a20 hA21 => ?_; clear hA19 a17
 refine st hA21 (op_conv un_5 un_3 rfl (hA21.ev rfl) (v := bd) (wrap_i64 (by omega) (by omega))) rfl rfl (by decide) fun a22 hA23 => ?_; clear hA21 a20
 refine st hA23 (op_field rfl fd_24_0 (hA23.ev rfl)) rfl rfl (by decide) fun a24 hA25 => ?_; clear hA23 a22
 refine st hA25 (op_load1 rfl ty_22 (hA25.ev rfl) (hS16.bk 0 rfl) rfl) rfl rfl (by decide) fun a26 hA27 => ?_; clear hA25 a24
 refine st hA27 (op_lenS rfl un_22 (hA27.ev rfl) (hS16.sk 1 rfl)) rfl rfl (by decide) fun a28 hA29 => ?_; clear hA27 a26
 refine st hA29 (op_rem rfl (hA29.ev rfl) (hA29.ev rfl) (by omega)) rfl rfl (by decide) fun a30 hA31 => ?_; clear hA29 a28
 refine st hA31 (op_assign rfl (hA31.ev rfl)) rfl rfl (by decide) fun a32 hA33 => ?_; clear hA31 a30
 refine wl_nil ?_
 refine then_n ?_
 refine c_seq ?_
 have hA34 := hA33.as [(9, (Value.int .i64 ((bd).tmod (R.length : Int)))), (4, (bptr b4 0)), (1, vu), (3, (Value.int .u32 s))] rfl; clear hA33
 obtain ⟨b, hz_b, hb_b⟩ := rem_nat (n := bd) (m := R.length) hB.1 (by omega); rw [hz_b] at hA34
 refine c_region ?_
 refine st hA34 (op_loadA rfl ty_24 (hA34.ev rfl) (hS16.bk 0 rfl) (l := [vr]) rfl rfl) rfl rfl (by decide) fun a35 hA36 => ?_; clear hA34 a32
 refine stw hA36 (op_call rfl en_19 (ev1 (hA36.ev rfl)) (Material_ok _ R _ (hS16.sk 1 rfl) hth.mat)) rfl rfl (by decide) ?_
 rintro a37 _ w39 ⟨u42, rfl, hT40⟩ hA38; have hS41 := hS16.callS hT40 rfl; clear hT40 hA36 hS16 a35
 refine st hA38 (op_move rfl (hA38.ev rfl)) rfl rfl (by decide) fun a43 hA44 => ?_; clear hA38 a37
 refine stw hA44 (op_call rfl en_20 (ev1 (hA44.ev rfl)) (Runs_ok _ rs _ _ (runs_at (hS41.ok 3 _ rfl)) hth.runs hth.segs)) rfl rfl (by decide) ?_
 rintro a45 v50 w47 ⟨lv51, hT48⟩ hA46; have hS49 := hS41.callS hT48 rfl; clear hT48 hA44 hS41 a43
 refine st hA46 (op_move rfl (hA46.ev rfl)) rfl rfl (by decide) fun a52 hA53 => ?_; clear hA46 a45
 refine st hA53 (op_move rfl (hA53.ev rfl)) rfl rfl (by decide) fun a54 hA55 => ?_; clear hA53 a52
 refine st hA55 (op_conv un_61 un_3 rfl (hA55.ev rfl) (v := s) (wrap_i64 (by omega) (by omega))) rfl rfl (by decide) fun a56 hA57 => ?_; clear hA55 a54
 refine stw hA57 (op_call rfl en_23 (ev4 (hA57.ev rfl) (hA57.ev rfl) (hA57.ev rfl) (hA57.ev rfl)) (life_no R rs lv51 u42 v50 _ (SlAt.of_row (hS49.ok_row 1 rfl)) (runs_at (hS49.ok 0 _ rfl)) (by omega) (by omega) (b : Int) s (hlz b))) rfl rfl (by decide) ?_
 rintro a58 _ w60 ⟨rfl, hE61⟩ hA59; have hS62 := hS49.step hE61; clear hE61 hA57 hS49 a56
 refine st hA59 (op_move rfl (hA59.ev rfl)) rfl rfl (by decide) fun a63 hA64 => ?_; clear hA59 a58
 refine st hA64 (op_extract rfl (hA64.ev rfl) rfl) rfl rfl (by decide) fun a65 hA66 => ?_; clear hA64 a63
 refine st hA66 (op_extract rfl (hA66.ev rfl) rfl) rfl rfl (by decide) fun a67 hA68 => ?_; clear hA66 a65
 refine stw hA68 (op_alloc hS62 rfl ze_42 (cs := [(Value.int .i64 0), (Value.int .i64 0)]) rfl) rfl rfl (by decide) ?_
 rintro a69 _ w71 ⟨b72, rfl, hS73⟩ hA70; clear hA68 hS62 a67
 refine sts hA70 (op_store hS73 rfl ty_42 (hA70.ev rfl) (hA70.ev rfl) (i := 0) rfl (vs := [(Value.int .i64 0), (Value.int .i64 0)]) rfl rfl rfl (Nat.le_of_ble_eq_true rfl)) rfl rfl ?_
 intro _ w74 hS75 hA76; clear hA70
 have hS77 : Sep NoB w w74 [(blk b72 42 [(Value.int .i64 0), (Value.int .i64 0)]), (runsR true v50 lv51 rs), (row u42 42 2 R.length (pairs R)), (blk b4 24 [vr]), (sl vr 2 R.length (pairs R)), (runsR false vu lv rs)] := hS75; clear hS75 hS73
 refine st hA76 (op_assign rfl (hA76.ev rfl)) rfl rfl (by decide) fun a78 hA79 => ?_; clear hA76 a69
 refine wl_nil ?_
 refine then_n ?_
 refine c_seq ?_
 refine c_seq ?_
 have hA80 := hA79.as [(11, (Value.int .i64 (lifeE R rs (b : Int) s))), (10, (bptr b72 0)), (9, (Value.int .i64 (b : Int))), (4, (bptr b4 0)), (1, vu), (3, (Value.int .u32 s))] rfl; clear hA79
 refine c_region ?_
 refine st hA80 (op_move rfl (hA80.ev rfl)) rfl rfl (by decide) fun a81 hA82 => ?_; clear hA80 a78
 refine st hA82 (op_neq rfl (hA82.ev rfl) (evc _ _)) rfl rfl (by decide) fun a83 hA84 => ?_; clear hA82 a81
 have hd85 : ¬ ((lifeE R rs (b : Int) s) = 0) := (hlz b)
 rw [decide_eq_false hd85] at hA84
 refine wl_nil ?_
 refine then_n ?_
 refine c_true hA84 rfl ?_
 refine c_seq ?_
 have hA86 := hA84.as [(11, (Value.int .i64 (lifeE R rs (b : Int) s)))] rfl; clear hA84
 refine c_region ?_
 refine st hA86 (op_move rfl (hA86.ev rfl)) rfl rfl (by decide) fun a87 hA88 => ?_; clear hA86 a83
 refine st hA88 (op_eql rfl (hA88.ev rfl) (evc _ _)) rfl rfl (by decide) fun a89 hA90 => ?_; clear hA88 a87
 have hd91 : (lifeE R rs (b : Int) s) = 9 := (hl9 b)
 rw [decide_eq_true hd91] at hA90
 refine st hA90 (op_move rfl (hA90.ev rfl)) rfl rfl (by decide) fun a92 hA93 => ?_; clear hA90 a89
 refine stwg hA93 (op_call rfl en_17 ev0 (awake_ok _)) rfl rfl rfl rfl (by decide) ?_
 rintro a94 _ w96 ⟨rfl, hE97⟩ hA95; have hS98 := hS77.step hE97; clear hE97 hA93 hS77 a92
 refine st hA95 (op_pick_t rfl (hA95.ev rfl) (hA95.ev rfl)) rfl rfl (by decide) fun a99 hA100 => ?_; clear hA95 a94
 refine st hA100 (op_assign rfl (hA100.ev rfl)) rfl rfl (by decide) fun a101 hA102 => ?_; clear hA100 a99
 refine wl_nil ?_
 refine then_n ?_
 refine c_ret ?_
 refine then_ret ?_
 refine fin_run hA102 (.inl rfl) (run_results1 hA102 rfl (.tmp rfl)) ?_
 exact ⟨rfl, hS98.ext⟩
set_option maxHeartbeats 4000000 in
theorem CreepLife_c (w : World) (R : List (Int × Int)) (vr : Value) (hm : SlAt w vr 2 R.length (pairs R)) (rs : List RunD) (lv : List Value) (vu : Value) (hx : RunsAt w vu lv rs) (bd s : Int) (hB : 0 ≤ bd ∧ bd ≤ 255) (hS_ : 0 ≤ s ∧ s ≤ 4294967295) (hf : readyB R rs [] = true) (hc : possF R rs = 0) :
  Calls Try.prog 8 #[(Value.agg #[vr]), vu, (Value.int .u8 bd), (Value.int .u32 s)] w (Ret fun v w' => v = .bool true ∧ Ext NoB w w') := by
 refine calls_enter Try.func8 rfl fun a0 hA0 => ?_
 replace hA0 : Fr 124 [] [(0, (Value.agg #[vr])), (1, vu), (2, (Value.int .u8 bd)), (3, (Value.int .u32 s))] a0 := hA0
 have hrd := ready_is hf; have hth := hrd.1; have he := hrd.2.1; have h6 := hth.mat; have h9 := hth.runs; have h12 := hth.plan; have hp8 := hrd.2.2.1; have hsb := hrd.2.2.2; have hcm := check_mat (enter_mat he); have hR := hcm.1; have hR1 := hcm.2.1; have hR3 := hR.1; have hV := enter_runs he; have hrt := ratesF_len R rs; have hle := allowed_le (rs := rs) hR; have hal := (poss_is hc).2
 have hS0 : Sep NoB w w [(sl vr 2 R.length (pairs R)), (runsR false vu lv rs)] := sep_ro ⟨rfl, hm, rfl, hx, trivial⟩
 refine c_seq ?_
 refine c_region ?_
 refine stw hA0 (op_box hS0 rfl (hA0.ev rfl) (cs := [vr]) rfl) rfl rfl (by decide) ?_
 rintro a1 _ w3 ⟨b4, rfl, hS5⟩ hA2; clear hA0 hS0 a0
 refine st hA2 (op_assign rfl (evc _ _)) rfl rfl (by decide) fun a6 hA7 => ?_; clear hA2 a1
 refine wl_nil ?_
 refine then_n ?_
 refine c_seq ?_
 refine c_seq ?_
 refine c_region ?_
 refine st hA7 (op_loadA rfl ty_24 (hA7.ev rfl) (hS5.bk 0 rfl) (l := [vr]) rfl rfl) rfl rfl (by decide) fun a8 hA9 => ?_; clear hA7 a6
 refine st hA9 (op_move rfl (hA9.ev rfl)) rfl rfl (by decide) fun a10 hA11 => ?_; clear hA9 a8
 refine stw hA11 (op_call rfl en_27 (ev3 (hA11.ev rfl) (hA11.ev rfl) (evc _ _)) (ready_ok _ R _ (hS5.sk 1 rfl) rs _ _ (runs_at (hS5.ok 2 _ rfl)) ([]) _ (slAt_nil _ 3))) rfl rfl (by decide) ?_
 rintro a12 _ w14 ⟨rfl, hE15⟩ hA13; have hS16 := hS5.step hE15; clear hE15 hA11 hS5 a10
 rw [hf] at hA13
 refine st hA13 (op_not rfl (hA13.ev rfl)) rfl rfl (by decide) fun a17 hA18 => ?_; clear hA13 a12
 refine wl_nil ?_
 refine then_n ?_
 refine c_false hA18 rfl ?_
 refine c_skip ?_
 refine then_n ?_
 refine c_seq ?_
 have hA19 := hA18.as [(4, (bptr b4 0)), (1, vu), (2, (Value.int .u8 bd)), (3, (Value.int .u32 s))] rfl; clear hA18
 refine c_region ?_
 refine st hA19 (op_move rfl (hA19.ev rfl)) rfl rfl (by decide) fun a20 hA21 => ?_; clear hA19 a17
 refine st hA21 (op_conv un_5 un_3 rfl (hA21.ev rfl) (v := bd) (wrap_i64 (by omega) (by omega))) rfl rfl (by decide) fun a22 hA23 => ?_; clear hA21 a20
 refine st hA23 (op_field rfl fd_24_0 (hA23.ev rfl)) rfl rfl (by decide) fun a24 hA25 => ?_; clear hA23 a22
 refine st hA25 (op_load1 rfl ty_22 (hA25.ev rfl) (hS16.bk 0 rfl) rfl) rfl rfl (by decide) fun a26 hA27 => ?_; clear hA25 a24
 refine st hA27 (op_lenS rfl un_22 (hA27.ev rfl) (hS16.sk 1 rfl)) rfl rfl (by decide) fun a28 hA29 => ?_; clear hA27 a26
 refine st hA29 (op_rem rfl (hA29.ev rfl) (hA29.ev rfl) (by omega)) rfl rfl (by decide) fun a30 hA31 => ?_; clear hA29 a28
 refine st hA31 (op_assign rfl (hA31.ev rfl)) rfl rfl (by decide) fun a32 hA33 => ?_; clear hA31 a30
 refine wl_nil ?_
 refine then_n ?_
 refine c_seq ?_
 have hA34 := hA33.as [(9, (Value.int .i64 ((bd).tmod (R.length : Int)))), (4, (bptr b4 0)), (1, vu), (3, (Value.int .u32 s))] rfl; clear hA33
 obtain ⟨b, hz_b, hb_b⟩ := rem_nat (n := bd) (m := R.length) hB.1 (by omega); rw [hz_b] at hA34
 have hbd := life_bd (rs := rs) (b := b) hR hS_
 refine c_region ?_
 refine st hA34 (op_loadA rfl ty_24 (hA34.ev rfl) (hS16.bk 0 rfl) (l := [vr]) rfl rfl) rfl rfl (by decide) fun a35 hA36 => ?_; clear hA34 a32
 refine stw hA36 (op_call rfl en_19 (ev1 (hA36.ev rfl)) (Material_ok _ R _ (hS16.sk 1 rfl) hth.mat)) rfl rfl (by decide) ?_
 rintro a37 _ w39 ⟨u42, rfl, hT40⟩ hA38; have hS41 := hS16.callS hT40 rfl; clear hT40 hA36 hS16 a35
 refine st hA38 (op_move rfl (hA38.ev rfl)) rfl rfl (by decide) fun a43 hA44 => ?_; clear hA38 a37
 refine stw hA44 (op_call rfl en_20 (ev1 (hA44.ev rfl)) (Runs_ok _ rs _ _ (runs_at (hS41.ok 3 _ rfl)) hth.runs hth.segs)) rfl rfl (by decide) ?_
 rintro a45 v50 w47 ⟨lv51, hT48⟩ hA46; have hS49 := hS41.callS hT48 rfl; clear hT48 hA44 hS41 a43
 refine st hA46 (op_move rfl (hA46.ev rfl)) rfl rfl (by decide) fun a52 hA53 => ?_; clear hA46 a45
 refine st hA53 (op_move rfl (hA53.ev rfl)) rfl rfl (by decide) fun a54 hA55 => ?_; clear hA53 a52
 refine st hA55 (op_conv un_61 un_3 rfl (hA55.ev rfl) (v := s) (wrap_i64 (by omega) (by omega))) rfl rfl (by decide) fun a56 hA57 => ?_; clear hA55 a54
 refine stw hA57 (op_call rfl en_23 (ev4 (hA57.ev rfl) (hA57.ev rfl) (hA57.ev rfl) (hA57.ev rfl)) (life_fine R rs lv51 u42 v50 _ (SlAt.of_row (hS49.ok_row 1 rfl)) (runs_at (hS49.ok 0 _ rfl)) (by omega) (by omega) (b : Int) s (life_0 hc (by omega)))) rfl rfl (by decide) ?_
 rintro a58 _ w60 ⟨rfl, hE61⟩ hA59; have hS62 := hS49.step hE61; clear hE61 hA57 hS49 a56
 simp only [Int.toNat_natCast] at hA59
 refine st hA59 (op_move rfl (hA59.ev rfl)) rfl rfl (by decide) fun a63 hA64 => ?_; clear hA59 a58
 refine st hA64 (op_extract rfl (hA64.ev rfl) rfl) rfl rfl (by decide) fun a65 hA66 => ?_; clear hA64 a63
 refine st hA66 (op_extract rfl (hA66.ev rfl) rfl) rfl rfl (by decide) fun a67 hA68 => ?_; clear hA66 a65
 refine stw hA68 (op_alloc hS62 rfl ze_42 (cs := [(Value.int .i64 0), (Value.int .i64 0)]) rfl) rfl rfl (by decide) ?_
 rintro a69 _ w71 ⟨b72, rfl, hS73⟩ hA70; clear hA68 hS62 a67
 refine sts hA70 (op_store hS73 rfl ty_42 (hA70.ev rfl) (hA70.ev rfl) (i := 0) rfl (vs := [(Value.int .i64 ((lifeR (allowedF R rs) b s).1)), (Value.int .i64 ((lifeR (allowedF R rs) b s).2))]) rfl rfl rfl (Nat.le_of_ble_eq_true rfl)) rfl rfl ?_
 intro _ w74 hS75 hA76; clear hA70
 have hS77 : Sep NoB w w74 [(blk b72 42 [(Value.int .i64 ((lifeR (allowedF R rs) b s).1)), (Value.int .i64 ((lifeR (allowedF R rs) b s).2))]), (runsR true v50 lv51 rs), (row u42 42 2 R.length (pairs R)), (blk b4 24 [vr]), (sl vr 2 R.length (pairs R)), (runsR false vu lv rs)] := hS75; clear hS75 hS73
 refine st hA76 (op_assign rfl (hA76.ev rfl)) rfl rfl (by decide) fun a78 hA79 => ?_; clear hA76 a69
 refine wl_nil ?_
 refine then_n ?_
 refine c_seq ?_
 refine c_seq ?_
 have hA80 := hA79.as [(11, (Value.int .i64 0)), (10, (bptr b72 0)), (9, (Value.int .i64 (b : Int))), (4, (bptr b4 0)), (1, vu), (3, (Value.int .u32 s))] rfl; clear hA79
 refine c_region ?_
 refine st hA80 (op_move rfl (hA80.ev rfl)) rfl rfl (by decide) fun a81 hA82 => ?_; clear hA80 a78
 refine st hA82 (op_neq rfl (hA82.ev rfl) (evc _ _)) rfl rfl (by decide) fun a83 hA84 => ?_; clear hA82 a81
 refine wl_nil ?_
 refine then_n ?_
 refine c_false hA84 rfl ?_
 refine c_skip ?_
 refine then_n ?_
 refine c_seq ?_
 refine c_seq ?_
 refine c_region ?_
 refine st hA84 (op_field rfl fd_42_1 (hA84.ev rfl)) rfl rfl (by decide) fun a85 hA86 => ?_; clear hA84 a83
 refine st hA86 (op_load1 rfl ty_3 (hA86.ev rfl) (hS77.bk 0 rfl) rfl) rfl rfl (by decide) fun a87 hA88 => ?_; clear hA86 a85
 refine st hA88 (op_neq rfl (hA88.ev rfl) (evc _ _)) rfl rfl (by decide) fun a89 hA90 => ?_; clear hA88 a87
 refine st hA90 (op_move rfl (hA90.ev rfl)) rfl rfl (by decide) fun a91 hA92 => ?_; clear hA90 a89
 by_cases hb93 : ((lifeR (allowedF R rs) b s).2) = (-1)
 ·skip
  rw [decide_eq_true hb93] at hA92
  refine skp hA92 rfl rfl rfl rfl rfl (by decide) fun a94 hA95 => ?_; clear hA92 a91
  refine skp hA95 rfl rfl rfl rfl rfl (by decide) fun a96 hA97 => ?_; clear hA95 a94
  refine skp hA97 rfl rfl rfl rfl rfl (by decide) fun a98 hA99 => ?_; clear hA97 a96
  refine st hA99 (op_pick_f rfl (hA99.ev rfl) (evc _ _)) rfl rfl (by decide) fun a100 hA101 => ?_; clear hA99 a98
  refine wl_nil ?_
  refine then_n ?_
  refine c_false hA101 rfl ?_
  refine c_skip ?_
  refine then_n ?_
  refine c_seq ?_
  refine c_seq ?_
  have hA102 := hA101.as [(10, (bptr b72 0)), (9, (Value.int .i64 (b : Int))), (4, (bptr b4 0)), (1, vu), (3, (Value.int .u32 s))] rfl; clear hA101
  refine c_region ?_
  refine st hA102 (op_field rfl fd_42_0 (hA102.ev rfl)) rfl rfl (by decide) fun a103 hA104 => ?_; clear hA102 a100
  refine st hA104 (op_load1 rfl ty_3 (hA104.ev rfl) (hS77.bk 0 rfl) rfl) rfl rfl (by decide) fun a105 hA106 => ?_; clear hA104 a103
  refine st hA106 (op_sub rfl (hA106.ev rfl) (evc _ _) (by omega) (by omega)) rfl rfl (by decide) fun a107 hA108 => ?_; clear hA106 a105
  refine st hA108 (op_assign rfl (hA108.ev rfl)) rfl rfl (by decide) fun a109 hA110 => ?_; clear hA108 a107
  refine wl_nil ?_
  refine then_n ?_
  refine c_seq ?_
  refine c_region ?_
  refine st hA110 (op_move rfl (hA110.ev rfl)) rfl rfl (by decide) fun a111 hA112 => ?_; clear hA110 a109
  refine st hA112 (op_geq rfl (hA112.ev rfl) (evc _ _)) rfl rfl (by decide) fun a113 hA114 => ?_; clear hA112 a111
  refine st hA114 (op_move rfl (hA114.ev rfl)) rfl rfl (by decide) fun a115 hA116 => ?_; clear hA114 a113
  by_cases hb117 : 0 ≤ (((lifeR (allowedF R rs) b s).1) - 1)
  ·skip
   rw [decide_eq_true hb117] at hA116
   refine stg hA116 (op_move rfl (hA116.ev rfl)) rfl rfl rfl rfl (by decide) fun a118 hA119 => ?_; clear hA116 a115
   refine stg hA119 (op_leq rfl (hA119.ev rfl) (evc _ _)) rfl rfl rfl rfl (by decide) fun a120 hA121 => ?_; clear hA119 a118
   refine st hA121 (op_pick_t rfl (hA121.ev rfl) (hA121.ev rfl)) rfl rfl (by decide) fun a122 hA123 => ?_; clear hA121 a120
   refine wl_nil ?_
   refine then_n ?_
   by_cases hb124 : (((lifeR (allowedF R rs) b s).1) - 1) ≤ 1000000
   ·skip
    rw [decide_eq_true hb124] at hA123
    refine c_true hA123 rfl ?_
    refine c_seq ?_
    have hA125 := hA123.as [(14, (Value.int .i64 (((lifeR (allowedF R rs) b s).1) - 1))), (9, (Value.int .i64 (b : Int))), (4, (bptr b4 0)), (1, vu), (3, (Value.int .u32 s))] rfl; clear hA123
    refine c_region ?_
    refine st hA125 (op_loadA rfl ty_24 (hA125.ev rfl) (hS77.bk 3 rfl) (l := [vr]) rfl rfl) rfl rfl (by decide) fun a126 hA127 => ?_; clear hA125 a122
    refine stw hA127 (op_call rfl en_19 (ev1 (hA127.ev rfl)) (Material_ok _ R _ (hS77.sk 4 rfl) hth.mat)) rfl rfl (by decide) ?_
    rintro a128 _ w130 ⟨u133, rfl, hT131⟩ hA129; have hS132 := hS77.callS hT131 rfl; clear hT131 hA127 hS77 a126
    refine st hA129 (op_move rfl (hA129.ev rfl)) rfl rfl (by decide) fun a134 hA135 => ?_; clear hA129 a128
    refine stw hA135 (op_call rfl en_20 (ev1 (hA135.ev rfl)) (Runs_ok _ rs _ _ (runs_at (hS132.ok 6 _ rfl)) hth.runs hth.segs)) rfl rfl (by decide) ?_
    rintro a136 v141 w138 ⟨lv142, hT139⟩ hA137; have hS140 := hS132.callS hT139 rfl; clear hT139 hA135 hS132 a134
    refine st hA137 (op_move rfl (hA137.ev rfl)) rfl rfl (by decide) fun a143 hA144 => ?_; clear hA137 a136
    refine st hA144 (op_move rfl (hA144.ev rfl)) rfl rfl (by decide) fun a145 hA146 => ?_; clear hA144 a143
    refine st hA146 (op_move rfl (hA146.ev rfl)) rfl rfl (by decide) fun a147 hA148 => ?_; clear hA146 a145
    refine stw hA148 (op_call rfl en_31 (ev2 (hA148.ev rfl) (hA148.ev rfl)) (between_ok _ _ _)) rfl rfl (by decide) ?_
    rintro a149 _ w151 ⟨rfl, hE152⟩ hA150; have hS153 := hS140.step hE152; clear hE152 hA148 hS140 a147
    refine st hA150 (op_build rfl (pv2 (hA150.ev rfl) (hA150.ev rfl)) (bd_67_0i_1iia _ _ _)) rfl rfl (by decide) fun a154 hA155 => ?_; clear hA150 a149
    refine stw hA155 (op_buildSlice hS153 rfl (pv1 (hA155.ev rfl)) un_58 ty_67 ze_67 (by decide) (cs := [(Value.int .i64 (b : Int)), (Value.int .i64 (((lifeR (allowedF R rs) b s).1) - 1)), (Value.int .i64 (((lifeR (allowedF R rs) b s).1) - 1))]) (bs_67_1_0iiia _ _ _)) rfl rfl (by decide) ?_
    rintro a156 _ w158 ⟨b159, rfl, hS160⟩ hA157; clear hA155 hS153 a154
    refine stw hA157 (op_call rfl en_28 (ev3 (hA157.ev rfl) (hA157.ev rfl) (hA157.ev rfl)) (stretch_fine R rs lv142 u133 v141 _ (SlAt.of_row (hS160.ok_row 2 rfl)) (runs_at (hS160.ok 1 _ rfl)) (by omega) (by omega) ([((b : Int), ((lifeR (allowedF R rs) b s).1) - 1, ((lifeR (allowedF R rs) b s).1) - 1)]) (Value.slice (some ⟨b159, 0, none⟩) 1 1) (SlAt.of_blk (hS160.bk 0 rfl) rfl (Nat.le_of_ble_eq_true rfl)) (by simp) (plan1 hc hb_b (by omega) (by omega)))) rfl rfl (by decide) ?_
    rintro a161 _ w163 ⟨rfl, hE164⟩ hA162; have hS165 := hS160.step hE164; clear hE164 hA157 hS160 a156
    refine st hA162 (op_move rfl (hA162.ev rfl)) rfl rfl (by decide) fun a166 hA167 => ?_; clear hA162 a161
    refine st hA167 (op_extract rfl (hA167.ev rfl) rfl) rfl rfl (by decide) fun a168 hA169 => ?_; clear hA167 a166
    refine st hA169 (op_extract rfl (hA169.ev rfl) rfl) rfl rfl (by decide) fun a170 hA171 => ?_; clear hA169 a168
    refine stw hA171 (op_alloc hS165 rfl ze_42 (cs := [(Value.int .i64 0), (Value.int .i64 0)]) rfl) rfl rfl (by decide) ?_
    rintro a172 _ w174 ⟨b175, rfl, hS176⟩ hA173; clear hA171 hS165 a170
    refine sts hA173 (op_store hS176 rfl ty_42 (hA173.ev rfl) (hA173.ev rfl) (i := 0) rfl (vs := [(Value.int .i64 (stLo ([((b : Int), ((lifeR (allowedF R rs) b s).1) - 1, ((lifeR (allowedF R rs) b s).1) - 1)]) (leastR R rs ([((b : Int), ((lifeR (allowedF R rs) b s).1) - 1, ((lifeR (allowedF R rs) b s).1) - 1)])))), (Value.int .i64 (stHi ([((b : Int), ((lifeR (allowedF R rs) b s).1) - 1, ((lifeR (allowedF R rs) b s).1) - 1)]) (mostR R rs ([((b : Int), ((lifeR (allowedF R rs) b s).1) - 1, ((lifeR (allowedF R rs) b s).1) - 1)]))))]) rfl rfl rfl (Nat.le_of_ble_eq_true rfl)) rfl rfl ?_
    intro _ w177 hS178 hA179; clear hA173
    have hS180 : Sep NoB w w177 [(blk b175 42 [(Value.int .i64 (stLo ([((b : Int), ((lifeR (allowedF R rs) b s).1) - 1, ((lifeR (allowedF R rs) b s).1) - 1)]) (leastR R rs ([((b : Int), ((lifeR (allowedF R rs) b s).1) - 1, ((lifeR (allowedF R rs) b s).1) - 1)])))), (Value.int .i64 (stHi ([((b : Int), ((lifeR (allowedF R rs) b s).1) - 1, ((lifeR (allowedF R rs) b s).1) - 1)]) (mostR R rs ([((b : Int), ((lifeR (allowedF R rs) b s).1) - 1, ((lifeR (allowedF R rs) b s).1) - 1)]))))]), (blk b159 67 [(Value.int .i64 (b : Int)), (Value.int .i64 (((lifeR (allowedF R rs) b s).1) - 1)), (Value.int .i64 (((lifeR (allowedF R rs) b s).1) - 1))]), (runsR true v141 lv142 rs), (row u133 42 2 R.length (pairs R)), (blk b72 42 [(Value.int .i64 ((lifeR (allowedF R rs) b s).1)), (Value.int .i64 ((lifeR (allowedF R rs) b s).2))]), (runsR true v50 lv51 rs), (row u42 42 2 R.length (pairs R)), (blk b4 24 [vr]), (sl vr 2 R.length (pairs R)), (runsR false vu lv rs)] := hS178; clear hS178 hS176
    refine st hA179 (op_assign rfl (hA179.ev rfl)) rfl rfl (by decide) fun a181 hA182 => ?_; clear hA179 a172
    refine wl_nil ?_
    refine then_n ?_
    refine c_seq ?_
    have hA183 := hA182.as [(16, (Value.int .i64 0)), (15, (bptr b175 0)), (3, (Value.int .u32 s))] rfl; clear hA182
    refine c_region ?_
    refine st hA183 (op_move rfl (hA183.ev rfl)) rfl rfl (by decide) fun a184 hA185 => ?_; clear hA183 a181
    refine st hA185 (op_neq rfl (hA185.ev rfl) (evc _ _)) rfl rfl (by decide) fun a186 hA187 => ?_; clear hA185 a184
    refine st hA187 (op_move rfl (hA187.ev rfl)) rfl rfl (by decide) fun a188 hA189 => ?_; clear hA187 a186
    refine stg hA189 (op_field rfl fd_42_1 (hA189.ev rfl)) rfl rfl rfl rfl (by decide) fun a190 hA191 => ?_; clear hA189 a188
    refine stg hA191 (op_load1 rfl ty_3 (hA191.ev rfl) (hS180.bk 0 rfl) rfl) rfl rfl rfl rfl (by decide) fun a192 hA193 => ?_; clear hA191 a190
    refine stg hA193 (op_move rfl (hA193.ev rfl)) rfl rfl rfl rfl (by decide) fun a194 hA195 => ?_; clear hA193 a192
    refine stg hA195 (op_conv un_61 un_3 rfl (hA195.ev rfl) (v := s) (wrap_i64 (by omega) (by omega))) rfl rfl rfl rfl (by decide) fun a196 hA197 => ?_; clear hA195 a194
    refine stg hA197 (op_geq rfl (hA197.ev rfl) (hA197.ev rfl)) rfl rfl rfl rfl (by decide) fun a198 hA199 => ?_; clear hA197 a196
    have hd200 : ¬ (s ≤ (stHi ([((b : Int), ((lifeR (allowedF R rs) b s).1) - 1, ((lifeR (allowedF R rs) b s).1) - 1)]) (mostR R rs ([((b : Int), ((lifeR (allowedF R rs) b s).1) - 1, ((lifeR (allowedF R rs) b s).1) - 1)])))) := (by have hz_ := life_lo (rs := rs) (b := b) hR hal hS_ (by omega); omega)
    rw [decide_eq_false hd200] at hA199
    refine st hA199 (op_pick_f rfl (hA199.ev rfl) (hA199.ev rfl)) rfl rfl (by decide) fun a201 hA202 => ?_; clear hA199 a198
    refine wl_nil ?_
    refine then_n ?_
    refine c_false hA202 rfl ?_
    refine c_skip ?_
    refine then_n ?_
    refine c_seq ?_
    have hA203 := hA202.as [] rfl; clear hA202
    refine c_region ?_
    refine stw hA203 (op_call rfl en_17 ev0 (awake_ok _)) rfl rfl (by decide) ?_
    rintro a204 _ w206 ⟨rfl, hE207⟩ hA205; have hS208 := hS180.step hE207; clear hE207 hA203 hS180 a201
    refine st hA205 (op_assign rfl (hA205.ev rfl)) rfl rfl (by decide) fun a209 hA210 => ?_; clear hA205 a204
    refine wl_nil ?_
    refine then_n ?_
    refine c_ret ?_
    refine fin_run hA210 (.inl rfl) (run_results1 hA210 rfl (.tmp rfl)) ?_
    exact ⟨rfl, hS208.ext⟩
   ·skip
    rw [decide_eq_false hb124] at hA123
    refine c_false hA123 rfl ?_
    refine c_skip ?_
    refine then_n ?_
    refine c_seq ?_
    have hA211 := hA123.as [] rfl; clear hA123
    refine c_region ?_
    refine stw hA211 (op_call rfl en_17 ev0 (awake_ok _)) rfl rfl (by decide) ?_
    rintro a212 _ w214 ⟨rfl, hE215⟩ hA213; have hS216 := hS77.step hE215; clear hE215 hA211 hS77 a122
    refine st hA213 (op_assign rfl (hA213.ev rfl)) rfl rfl (by decide) fun a217 hA218 => ?_; clear hA213 a212
    refine wl_nil ?_
    refine then_n ?_
    refine c_ret ?_
    refine fin_run hA218 (.inl rfl) (run_results1 hA218 rfl (.tmp rfl)) ?_
    exact ⟨rfl, hS216.ext⟩
  ·skip
   rw [decide_eq_false hb117] at hA116
   refine skp hA116 rfl rfl rfl rfl rfl (by decide) fun a219 hA220 => ?_; clear hA116 a115
   refine skp hA220 rfl rfl rfl rfl rfl (by decide) fun a221 hA222 => ?_; clear hA220 a219
   refine st hA222 (op_pick_f rfl (hA222.ev rfl) (evc _ _)) rfl rfl (by decide) fun a223 hA224 => ?_; clear hA222 a221
   refine wl_nil ?_
   refine then_n ?_
   refine c_false hA224 rfl ?_
   refine c_skip ?_
   refine then_n ?_
   refine c_seq ?_
   have hA225 := hA224.as [] rfl; clear hA224
   refine c_region ?_
   refine stw hA225 (op_call rfl en_17 ev0 (awake_ok _)) rfl rfl (by decide) ?_
   rintro a226 _ w228 ⟨rfl, hE229⟩ hA227; have hS230 := hS77.step hE229; clear hE229 hA225 hS77 a223
   refine st hA227 (op_assign rfl (hA227.ev rfl)) rfl rfl (by decide) fun a231 hA232 => ?_; clear hA227 a226
   refine wl_nil ?_
   refine then_n ?_
   refine c_ret ?_
   refine fin_run hA232 (.inl rfl) (run_results1 hA232 rfl (.tmp rfl)) ?_
   exact ⟨rfl, hS230.ext⟩
 ·skip
  rw [decide_eq_false hb93] at hA92
  refine stg hA92 (op_field rfl fd_42_1 (hA92.ev rfl)) rfl rfl rfl rfl (by decide) fun a233 hA234 => ?_; clear hA92 a91
  refine stg hA234 (op_load1 rfl ty_3 (hA234.ev rfl) (hS77.bk 0 rfl) rfl) rfl rfl rfl rfl (by decide) fun a235 hA236 => ?_; clear hA234 a233
  refine stg hA236 (op_leq rfl (hA236.ev rfl) (evc _ _)) rfl rfl rfl rfl (by decide) fun a237 hA238 => ?_; clear hA236 a235
  refine st hA238 (op_pick_t rfl (hA238.ev rfl) (hA238.ev rfl)) rfl rfl (by decide) fun a239 hA240 => ?_; clear hA238 a237
  refine wl_nil ?_
  refine then_n ?_
  by_cases hb241 : ((lifeR (allowedF R rs) b s).2) ≤ 1000000
  ·skip
   rw [decide_eq_true hb241] at hA240
   refine c_true hA240 rfl ?_
   refine c_seq ?_
   have hA242 := hA240.as [(10, (bptr b72 0)), (9, (Value.int .i64 (b : Int))), (4, (bptr b4 0)), (1, vu), (3, (Value.int .u32 s))] rfl; clear hA240
   have hA243 := hA242.as [(10, (bptr b72 0)), (9, (Value.int .i64 (b : Int))), (4, (bptr b4 0)), (1, vu), (3, (Value.int .u32 s))] rfl; clear hA242
   refine c_drawF mixed hA243 hS77 17 15 rfl rfl [[], [0], [], [2], [], [], [5], [], [7], [6, 8], [4, 9], [10], [1, 3, 11], [12], [13], [13], []] [(fun (vs244 : Nat → Value) (v_ : Value) (rs_ : List Res) => v_ = (Value.agg #[vr]) ∧ rs_ = []), (fun (vs244 : Nat → Value) (v_ : Value) (rs_ : List Res) => ∃ (u1_ : Value), v_ = (Value.agg #[u1_]) ∧ rs_ = [(row u1_ 42 2 R.length (pairs R))]), (fun (vs244 : Nat → Value) (v_ : Value) (rs_ : List Res) => v_ = vu ∧ rs_ = []), (fun (vs244 : Nat → Value) (v_ : Value) (rs_ : List Res) => ∃ (lv3_ : List Value), True ∧ rs_ = [(runsR true v_ lv3_ rs)]), (fun (vs244 : Nat → Value) (v_ : Value) (rs_ : List Res) => v_ = (Value.int .i64 (b : Int)) ∧ rs_ = []), (fun (vs244 : Nat → Value) (v_ : Value) (rs_ : List Res) => v_ = (bptr b72 1) ∧ rs_ = []), (fun (vs244 : Nat → Value) (v_ : Value) (rs_ : List Res) => v_ = (Value.int .i64 ((lifeR (allowedF R rs) b s).2)) ∧ rs_ = []), (fun (vs244 : Nat → Value) (v_ : Value) (rs_ : List Res) => v_ = (bptr b72 1) ∧ rs_ = []), (fun (vs244 : Nat → Value) (v_ : Value) (rs_ : List Res) => v_ = (Value.int .i64 ((lifeR (allowedF R rs) b s).2)) ∧ rs_ = []), (fun (vs244 : Nat → Value) (v_ : Value) (rs_ : List Res) => v_ = (Value.agg #[(Value.int .i64 ((lifeR (allowedF R rs) b s).2)), (Value.int .i64 ((lifeR (allowedF R rs) b s).2))]) ∧ rs_ = []), (fun (vs244 : Nat → Value) (v_ : Value) (rs_ : List Res) => v_ = (Value.agg #[(Value.int .i64 (b : Int)), (Value.int .i64 ((lifeR (allowedF R rs) b s).2)), (Value.int .i64 ((lifeR (allowedF R rs) b s).2))]) ∧ rs_ = []), (fun (vs244 : Nat → Value) (v_ : Value) (rs_ : List Res) => True ∧ rs_ = [(row v_ 67 3 1 [(Value.int .i64 (b : Int)), (Value.int .i64 ((lifeR (allowedF R rs) b s).2)), (Value.int .i64 ((lifeR (allowedF R rs) b s).2))])]), (fun (vs244 : Nat → Value) (v_ : Value) (rs_ : List Res) => v_ = (Value.tuple #[(Value.agg #[(Value.int .i64 (stLo ([((b : Int), (lifeR (allowedF R rs) b s).2, (lifeR (allowedF R rs) b s).2)]) (leastR R rs ([((b : Int), (lifeR (allowedF R rs) b s).2, (lifeR (allowedF R rs) b s).2)])))), (Value.int .i64 (stHi ([((b : Int), (lifeR (allowedF R rs) b s).2, (lifeR (allowedF R rs) b s).2)]) (mostR R rs ([((b : Int), (lifeR (allowedF R rs) b s).2, (lifeR (allowedF R rs) b s).2)]))))]), (Value.int .i64 0)]) ∧ rs_ = []), (fun (vs244 : Nat → Value) (v_ : Value) (rs_ : List Res) => v_ = (Value.tuple #[(Value.agg #[(Value.int .i64 (stLo ([((b : Int), (lifeR (allowedF R rs) b s).2, (lifeR (allowedF R rs) b s).2)]) (leastR R rs ([((b : Int), (lifeR (allowedF R rs) b s).2, (lifeR (allowedF R rs) b s).2)])))), (Value.int .i64 (stHi ([((b : Int), (lifeR (allowedF R rs) b s).2, (lifeR (allowedF R rs) b s).2)]) (mostR R rs ([((b : Int), (lifeR (allowedF R rs) b s).2, (lifeR (allowedF R rs) b s).2)]))))]), (Value.int .i64 0)]) ∧ rs_ = []), (fun (vs244 : Nat → Value) (v_ : Value) (rs_ : List Res) => v_ = (Value.agg #[(Value.int .i64 (stLo ([((b : Int), (lifeR (allowedF R rs) b s).2, (lifeR (allowedF R rs) b s).2)]) (leastR R rs ([((b : Int), (lifeR (allowedF R rs) b s).2, (lifeR (allowedF R rs) b s).2)])))), (Value.int .i64 (stHi ([((b : Int), (lifeR (allowedF R rs) b s).2, (lifeR (allowedF R rs) b s).2)]) (mostR R rs ([((b : Int), (lifeR (allowedF R rs) b s).2, (lifeR (allowedF R rs) b s).2)]))))]) ∧ rs_ = []), (fun (vs244 : Nat → Value) (v_ : Value) (rs_ : List Res) => v_ = (Value.int .i64 0) ∧ rs_ = []), (fun (vs244 : Nat → Value) (v_ : Value) (rs_ : List Res) => ∃ (b16_ : Nat), v_ = (bptr b16_ 0) ∧ rs_ = [(blk b16_ 42 [(Value.int .i64 0), (Value.int .i64 0)])])] (by decide +kernel) (by decide +kernel) (by decide +kernel) rfl rfl ⟨(fun _ _ _ _ _ h_ => h_), (fun _ _ _ _ _ h_ => h_), (fun _ _ _ _ _ h_ => h_), (fun _ _ _ _ _ h_ => h_), (fun _ _ _ _ _ h_ => h_), (fun _ _ _ _ _ h_ => h_), (fun _ _ _ _ _ h_ => h_), (fun _ _ _ _ _ h_ => h_), (fun _ _ _ _ _ h_ => h_), (fun _ _ _ _ _ h_ => h_), (fun _ _ _ _ _ h_ => h_), (fun _ _ _ _ _ h_ => h_), (fun _ _ _ _ _ h_ => h_), (fun _ _ _ _ _ h_ => h_), (fun _ _ _ _ _ h_ => h_), (fun _ _ _ _ _ h_ => h_), (fun _ _ _ _ _ h_ => h_), trivial⟩ ?_ ?_ ?_
   ·skip
    refine ⟨fun a w vs244 hA hS hd => ?_, ?_⟩
    ·skip
     exact opG_of rfl (vv (op_loadA rfl ty_24 (hA.ev rfl) (hS.bk 3 rfl) (l := [vr]) rfl rfl) (And.intro rfl rfl))
    refine ⟨fun a w vs244 hA hS hd => ?_, ?_⟩
    ·skip
     obtain ⟨e0, rs0, hy0, hp0⟩ := hd 0 (by decide)
     obtain ⟨hv0, hr0⟩ := hy0; subst hr0
     rw [hv0] at e0
     exact opG_of rfl (vn (op_call rfl en_19 (ev1 (tmp_ev (slot_ev e0 rfl))) (Material_ok _ R _ (hS.sk 4 rfl) hth.mat)) (fun v w' h => by obtain ⟨u, rfl, hT⟩ := h; exact ⟨_, ⟨u, rfl, rfl⟩, hT, rfl⟩))
    refine ⟨fun a w vs244 hA hS hd => ?_, ?_⟩
    ·skip
     exact opG_of rfl (vv (op_move rfl (hA.ev rfl)) (And.intro rfl rfl))
    refine ⟨fun a w vs244 hA hS hd => ?_, ?_⟩
    ·skip
     obtain ⟨e2, rs2, hy2, hp2⟩ := hd 2 (by decide)
     obtain ⟨hv2, hr2⟩ := hy2; subst hr2
     rw [hv2] at e2
     exact opG_of rfl (vn (op_call rfl en_20 (ev1 (tmp_ev (slot_ev e2 rfl))) (Runs_ok _ rs _ _ (runs_at (hS.ok 5 _ rfl)) hth.runs hth.segs)) (fun v w' h => by obtain ⟨lv, hT⟩ := h; exact ⟨_, ⟨lv, trivial, rfl⟩, hT, rfl⟩))
    refine ⟨fun a w vs244 hA hS hd => ?_, ?_⟩
    ·skip
     exact opG_of rfl (vv (op_move rfl (hA.ev rfl)) (And.intro rfl rfl))
    refine ⟨fun a w vs244 hA hS hd => ?_, ?_⟩
    ·skip
     exact opG_of rfl (vv (op_field rfl fd_42_1 (hA.ev rfl)) (And.intro rfl rfl))
    refine ⟨fun a w vs244 hA hS hd => ?_, ?_⟩
    ·skip
     obtain ⟨e5, rs5, hy5, hp5⟩ := hd 5 (by decide)
     obtain ⟨hv5, hr5⟩ := hy5; subst hr5
     rw [hv5] at e5
     exact opG_of rfl (vv (op_load1 rfl ty_3 (tmp_ev (slot_ev e5 rfl)) (hS.bk 0 rfl) rfl) (And.intro rfl rfl))
    refine ⟨fun a w vs244 hA hS hd => ?_, ?_⟩
    ·skip
     exact opG_of rfl (vv (op_field rfl fd_42_1 (hA.ev rfl)) (And.intro rfl rfl))
    refine ⟨fun a w vs244 hA hS hd => ?_, ?_⟩
    ·skip
     obtain ⟨e7, rs7, hy7, hp7⟩ := hd 7 (by decide)
     obtain ⟨hv7, hr7⟩ := hy7; subst hr7
     rw [hv7] at e7
     exact opG_of rfl (vv (op_load1 rfl ty_3 (tmp_ev (slot_ev e7 rfl)) (hS.bk 0 rfl) rfl) (And.intro rfl rfl))
    refine ⟨fun a w vs244 hA hS hd => ?_, ?_⟩
    ·skip
     obtain ⟨e6, rs6, hy6, hp6⟩ := hd 6 (by decide)
     obtain ⟨hv6, hr6⟩ := hy6; subst hr6
     rw [hv6] at e6
     obtain ⟨e8, rs8, hy8, hp8⟩ := hd 8 (by decide)
     obtain ⟨hv8, hr8⟩ := hy8; subst hr8
     rw [hv8] at e8
     exact opG_of rfl (vx (op_call rfl en_31 (ev2 (tmp_ev (slot_ev e6 rfl)) (tmp_ev (slot_ev e8 rfl))) (between_ok _ _ _)) (And.intro rfl rfl))
    refine ⟨fun a w vs244 hA hS hd => ?_, ?_⟩
    ·skip
     obtain ⟨e4, rs4, hy4, hp4⟩ := hd 4 (by decide)
     obtain ⟨hv4, hr4⟩ := hy4; subst hr4
     rw [hv4] at e4
     obtain ⟨e9, rs9, hy9, hp9⟩ := hd 9 (by decide)
     obtain ⟨hv9, hr9⟩ := hy9; subst hr9
     rw [hv9] at e9
     exact opG_of rfl (vv (op_build rfl (pv2 (tmp_ev (slot_ev e4 rfl)) (tmp_ev (slot_ev e9 rfl))) (bd_67_0i_1iia _ _ _)) (And.intro rfl rfl))
    refine ⟨fun a w vs244 hA hS hd => ?_, ?_⟩
    ·skip
     obtain ⟨e10, rs10, hy10, hp10⟩ := hd 10 (by decide)
     obtain ⟨hv10, hr10⟩ := hy10; subst hr10
     rw [hv10] at e10
     exact opG_of rfl (vblt rfl (pv1 (tmp_ev (slot_ev e10 rfl))) un_58 ty_67 ze_67 (by decide) (cs := [(Value.int .i64 (b : Int)), (Value.int .i64 ((lifeR (allowedF R rs) b s).2)), (Value.int .i64 ((lifeR (allowedF R rs) b s).2))]) (bs_67_1_0iiia _ _ _) rfl (by decide) (fun _ => And.intro trivial rfl))
    refine ⟨fun a w vs244 hA hS hd => ?_, ?_⟩
    ·skip
     obtain ⟨e1, rs1, hy1, hp1⟩ := hd 1 (by decide)
     obtain ⟨u1_, hv1, hr1⟩ := hy1; subst hr1
     rw [hv1] at e1
     have hp1_0 := hp1 _ (List.mem_of_getElem? (i := 0) rfl)
     obtain ⟨e3, rs3, hy3, hp3⟩ := hd 3 (by decide)
     obtain ⟨lv3_, hv3, hr3⟩ := hy3; subst hr3
     have hp3_0 := hp3 _ (List.mem_of_getElem? (i := 0) rfl)
     obtain ⟨e11, rs11, hy11, hp11⟩ := hd 11 (by decide)
     obtain ⟨hv11, hr11⟩ := hy11; subst hr11
     have hp11_0 := hp11 _ (List.mem_of_getElem? (i := 0) rfl)
     exact opG_of rfl (vn (op_call rfl en_28 (ev3 (tmp_ev (slot_ev e1 rfl)) (tmp_ev (slot_ev e3 rfl)) (tmp_ev (slot_ev e11 rfl))) (stretch_fine R rs lv3_ u1_ (vs244 3) _ (SlAt.of_row hp1_0) (runs_at hp3_0) (by omega) (by omega) ([((b : Int), (lifeR (allowedF R rs) b s).2, (lifeR (allowedF R rs) b s).2)]) (vs244 11) (SlAt.of_row hp11_0) (by simp) (plan1 hc hb_b (by omega) (by omega)))) (fun v w' h => by obtain ⟨rfl, hE⟩ := h; exact ⟨[], ⟨rfl, rfl⟩, (Sep.start NoB _).step hE, rfl⟩))
    refine ⟨fun a w vs244 hA hS hd => ?_, ?_⟩
    ·skip
     obtain ⟨e12, rs12, hy12, hp12⟩ := hd 12 (by decide)
     obtain ⟨hv12, hr12⟩ := hy12; subst hr12
     rw [hv12] at e12
     exact opG_of rfl (vv (op_move rfl (tmp_ev (slot_ev e12 rfl))) (And.intro rfl rfl))
    refine ⟨fun a w vs244 hA hS hd => ?_, ?_⟩
    ·skip
     obtain ⟨e13, rs13, hy13, hp13⟩ := hd 13 (by decide)
     obtain ⟨hv13, hr13⟩ := hy13; subst hr13
     rw [hv13] at e13
     exact opG_of rfl (vv (op_extract rfl (tmp_ev (slot_ev e13 rfl)) rfl) (And.intro rfl rfl))
    refine ⟨fun a w vs244 hA hS hd => ?_, ?_⟩
    ·skip
     obtain ⟨e13, rs13, hy13, hp13⟩ := hd 13 (by decide)
     obtain ⟨hv13, hr13⟩ := hy13; subst hr13
     rw [hv13] at e13
     exact opG_of rfl (vv (op_extract rfl (tmp_ev (slot_ev e13 rfl)) rfl) (And.intro rfl rfl))
    refine ⟨fun a w vs244 hA hS hd => ?_, ?_⟩
    ·skip
     exact opG_of rfl (valloc rfl ze_42 (cs := [(Value.int .i64 0), (Value.int .i64 0)]) rfl (fun b_ => ⟨b_, rfl, rfl⟩))
    trivial
   ·skip
    intro a245 w246 vs244 rsf250 hA247 hH249 hS248; clear hA243 hS77
    obtain ⟨hs_0, hy_0⟩ := hH249 0 (by decide)
    obtain ⟨hv_0, hr_0⟩ := hy_0
    obtain ⟨hs_1, hy_1⟩ := hH249 1 (by decide)
    obtain ⟨u1_, hv_1, hr_1⟩ := hy_1
    obtain ⟨hs_2, hy_2⟩ := hH249 2 (by decide)
    obtain ⟨hv_2, hr_2⟩ := hy_2
    obtain ⟨hs_3, hy_3⟩ := hH249 3 (by decide)
    obtain ⟨lv3_, hv_3, hr_3⟩ := hy_3
    obtain ⟨hs_4, hy_4⟩ := hH249 4 (by decide)
    obtain ⟨hv_4, hr_4⟩ := hy_4
    obtain ⟨hs_5, hy_5⟩ := hH249 5 (by decide)
    obtain ⟨hv_5, hr_5⟩ := hy_5
    obtain ⟨hs_6, hy_6⟩ := hH249 6 (by decide)
    obtain ⟨hv_6, hr_6⟩ := hy_6
    obtain ⟨hs_7, hy_7⟩ := hH249 7 (by decide)
    obtain ⟨hv_7, hr_7⟩ := hy_7
    obtain ⟨hs_8, hy_8⟩ := hH249 8 (by decide)
    obtain ⟨hv_8, hr_8⟩ := hy_8
    obtain ⟨hs_9, hy_9⟩ := hH249 9 (by decide)
    obtain ⟨hv_9, hr_9⟩ := hy_9
    obtain ⟨hs_10, hy_10⟩ := hH249 10 (by decide)
    obtain ⟨hv_10, hr_10⟩ := hy_10
    obtain ⟨hs_11, hy_11⟩ := hH249 11 (by decide)
    obtain ⟨hv_11, hr_11⟩ := hy_11
    obtain ⟨hs_12, hy_12⟩ := hH249 12 (by decide)
    obtain ⟨hv_12, hr_12⟩ := hy_12
    obtain ⟨hs_13, hy_13⟩ := hH249 13 (by decide)
    obtain ⟨hv_13, hr_13⟩ := hy_13
    obtain ⟨hs_14, hy_14⟩ := hH249 14 (by decide)
    obtain ⟨hv_14, hr_14⟩ := hy_14
    obtain ⟨hs_15, hy_15⟩ := hH249 15 (by decide)
    obtain ⟨hv_15, hr_15⟩ := hy_15
    obtain ⟨hs_16, hy_16⟩ := hH249 16 (by decide)
    obtain ⟨b16_, hv_16, hr_16⟩ := hy_16
    have hS251 : Sep NoB w w246 [(row u1_ 42 2 R.length (pairs R)), (runsR true (vs244 3) lv3_ rs), (row (vs244 11) 67 3 1 [(Value.int .i64 (b : Int)), (Value.int .i64 ((lifeR (allowedF R rs) b s).2)), (Value.int .i64 ((lifeR (allowedF R rs) b s).2))]), (blk b16_ 42 [(Value.int .i64 0), (Value.int .i64 0)]), (blk b72 42 [(Value.int .i64 ((lifeR (allowedF R rs) b s).1)), (Value.int .i64 ((lifeR (allowedF R rs) b s).2))]), (runsR true v50 lv51 rs), (row u42 42 2 R.length (pairs R)), (blk b4 24 [vr]), (sl vr 2 R.length (pairs R)), (runsR false vu lv rs)] := by rw [show catR rsf250 0 17 = ([(row u1_ 42 2 R.length (pairs R)), (runsR true (vs244 3) lv3_ rs), (row (vs244 11) 67 3 1 [(Value.int .i64 (b : Int)), (Value.int .i64 ((lifeR (allowedF R rs) b s).2)), (Value.int .i64 ((lifeR (allowedF R rs) b s).2))]), (blk b16_ 42 [(Value.int .i64 0), (Value.int .i64 0)])] : List Res) by (try simp only [catR, hr_0, hr_1, hr_2, hr_3, hr_4, hr_5, hr_6, hr_7, hr_8, hr_9, hr_10, hr_11, hr_12, hr_13, hr_14, hr_15, hr_16]); (try rfl)] at hS248; exact hS248
    rw [hv_14] at hs_14
    have hA252 : Fr 124 [] [(68, (Value.agg #[(Value.int .i64 (stLo ([((b : Int), (lifeR (allowedF R rs) b s).2, (lifeR (allowedF R rs) b s).2)]) (leastR R rs ([((b : Int), (lifeR (allowedF R rs) b s).2, (lifeR (allowedF R rs) b s).2)])))), (Value.int .i64 (stHi ([((b : Int), (lifeR (allowedF R rs) b s).2, (lifeR (allowedF R rs) b s).2)]) (mostR R rs ([((b : Int), (lifeR (allowedF R rs) b s).2, (lifeR (allowedF R rs) b s).2)]))))])), (10, (bptr b72 0)), (9, (Value.int .i64 (b : Int))), (4, (bptr b4 0)), (1, vu), (3, (Value.int .u32 s))] a245 := hA247.add (slot_ev hs_14 rfl); clear hA247
    rw [hv_15] at hs_15
    have hA253 : Fr 124 [] [(69, (Value.int .i64 0)), (68, (Value.agg #[(Value.int .i64 (stLo ([((b : Int), (lifeR (allowedF R rs) b s).2, (lifeR (allowedF R rs) b s).2)]) (leastR R rs ([((b : Int), (lifeR (allowedF R rs) b s).2, (lifeR (allowedF R rs) b s).2)])))), (Value.int .i64 (stHi ([((b : Int), (lifeR (allowedF R rs) b s).2, (lifeR (allowedF R rs) b s).2)]) (mostR R rs ([((b : Int), (lifeR (allowedF R rs) b s).2, (lifeR (allowedF R rs) b s).2)]))))])), (10, (bptr b72 0)), (9, (Value.int .i64 (b : Int))), (4, (bptr b4 0)), (1, vu), (3, (Value.int .u32 s))] a245 := hA252.add (slot_ev hs_15 rfl); clear hA252
    rw [hv_16] at hs_16
    have hA254 : Fr 124 [] [(12, (bptr b16_ 0)), (69, (Value.int .i64 0)), (68, (Value.agg #[(Value.int .i64 (stLo ([((b : Int), (lifeR (allowedF R rs) b s).2, (lifeR (allowedF R rs) b s).2)]) (leastR R rs ([((b : Int), (lifeR (allowedF R rs) b s).2, (lifeR (allowedF R rs) b s).2)])))), (Value.int .i64 (stHi ([((b : Int), (lifeR (allowedF R rs) b s).2, (lifeR (allowedF R rs) b s).2)]) (mostR R rs ([((b : Int), (lifeR (allowedF R rs) b s).2, (lifeR (allowedF R rs) b s).2)]))))])), (10, (bptr b72 0)), (9, (Value.int .i64 (b : Int))), (4, (bptr b4 0)), (1, vu), (3, (Value.int .u32 s))] a245 := hA253.add (slot_ev hs_16 rfl); clear hA253
    clear hH249 hS248 hs_0 hs_1 hs_2 hs_3 hs_4 hs_5 hs_6 hs_7 hs_8 hs_9 hs_10 hs_11 hs_12 hs_13 hs_14 hs_15 hs_16
    clear hr_0
    clear hv_0
    clear hr_1
    clear hv_1
    clear hr_2
    clear hv_2
    clear hr_3
    clear hv_3
    clear hr_4
    clear hv_4
    clear hr_5
    clear hv_5
    clear hr_6
    clear hv_6
    clear hr_7
    clear hv_7
    clear hr_8
    clear hv_8
    clear hr_9
    clear hv_9
    clear hr_10
    clear hv_10
    clear hr_11
    clear hv_11
    clear hr_12
    clear hv_12
    clear hr_13
    clear hv_13
    clear hr_14
    clear hv_14
    clear hr_15
    clear hv_15
    clear hr_16
    clear hv_16
    refine sts hA254 (op_store hS251 rfl ty_42 (hA254.ev rfl) (hA254.ev rfl) (i := 3) rfl (vs := [(Value.int .i64 (stLo ([((b : Int), (lifeR (allowedF R rs) b s).2, (lifeR (allowedF R rs) b s).2)]) (leastR R rs ([((b : Int), (lifeR (allowedF R rs) b s).2, (lifeR (allowedF R rs) b s).2)])))), (Value.int .i64 (stHi ([((b : Int), (lifeR (allowedF R rs) b s).2, (lifeR (allowedF R rs) b s).2)]) (mostR R rs ([((b : Int), (lifeR (allowedF R rs) b s).2, (lifeR (allowedF R rs) b s).2)]))))]) rfl rfl rfl (Nat.le_of_ble_eq_true rfl)) rfl rfl ?_
    intro _ w255 hS256 hA257; clear hA254
    have hS258 : Sep NoB w w255 [(row u1_ 42 2 R.length (pairs R)), (runsR true (vs244 3) lv3_ rs), (row (vs244 11) 67 3 1 [(Value.int .i64 (b : Int)), (Value.int .i64 ((lifeR (allowedF R rs) b s).2)), (Value.int .i64 ((lifeR (allowedF R rs) b s).2))]), (blk b16_ 42 [(Value.int .i64 (stLo ([((b : Int), (lifeR (allowedF R rs) b s).2, (lifeR (allowedF R rs) b s).2)]) (leastR R rs ([((b : Int), (lifeR (allowedF R rs) b s).2, (lifeR (allowedF R rs) b s).2)])))), (Value.int .i64 (stHi ([((b : Int), (lifeR (allowedF R rs) b s).2, (lifeR (allowedF R rs) b s).2)]) (mostR R rs ([((b : Int), (lifeR (allowedF R rs) b s).2, (lifeR (allowedF R rs) b s).2)]))))]), (blk b72 42 [(Value.int .i64 ((lifeR (allowedF R rs) b s).1)), (Value.int .i64 ((lifeR (allowedF R rs) b s).2))]), (runsR true v50 lv51 rs), (row u42 42 2 R.length (pairs R)), (blk b4 24 [vr]), (sl vr 2 R.length (pairs R)), (runsR false vu lv rs)] := hS256; clear hS256 hS251
    refine st hA257 (op_assign rfl (hA257.ev rfl)) rfl rfl (by decide) fun a259 hA260 => ?_; clear hA257 a245
    refine wl_nil ?_
    refine then_n ?_
    refine c_seq ?_
    refine c_region ?_
    refine st hA260 (op_move rfl (hA260.ev rfl)) rfl rfl (by decide) fun a261 hA262 => ?_; clear hA260 a259
    refine st hA262 (op_neq rfl (hA262.ev rfl) (evc _ _)) rfl rfl (by decide) fun a263 hA264 => ?_; clear hA262 a261
    refine st hA264 (op_move rfl (hA264.ev rfl)) rfl rfl (by decide) fun a265 hA266 => ?_; clear hA264 a263
    refine stg hA266 (op_field rfl fd_42_0 (hA266.ev rfl)) rfl rfl rfl rfl (by decide) fun a267 hA268 => ?_; clear hA266 a265
    refine stg hA268 (op_load1 rfl ty_3 (hA268.ev rfl) (hS258.bk 3 rfl) rfl) rfl rfl rfl rfl (by decide) fun a269 hA270 => ?_; clear hA268 a267
    refine stg hA270 (op_move rfl (hA270.ev rfl)) rfl rfl rfl rfl (by decide) fun a271 hA272 => ?_; clear hA270 a269
    refine stg hA272 (op_conv un_61 un_3 rfl (hA272.ev rfl) (v := s) (wrap_i64 (by omega) (by omega))) rfl rfl rfl rfl (by decide) fun a273 hA274 => ?_; clear hA272 a271
    refine stg hA274 (op_lss rfl (hA274.ev rfl) (hA274.ev rfl)) rfl rfl rfl rfl (by decide) fun a275 hA276 => ?_; clear hA274 a273
    have hd277 : ¬ ((stLo ([((b : Int), (lifeR (allowedF R rs) b s).2, (lifeR (allowedF R rs) b s).2)]) (leastR R rs ([((b : Int), (lifeR (allowedF R rs) b s).2, (lifeR (allowedF R rs) b s).2)]))) < s) := (by have hz_ := life_hi (rs := rs) (b := b) hR hal hS_ (by assumption); omega)
    rw [decide_eq_false hd277] at hA276
    refine st hA276 (op_pick_f rfl (hA276.ev rfl) (hA276.ev rfl)) rfl rfl (by decide) fun a278 hA279 => ?_; clear hA276 a275
    refine st hA279 (op_move rfl (hA279.ev rfl)) rfl rfl (by decide) fun a280 hA281 => ?_; clear hA279 a278
    refine stg hA281 (op_field rfl fd_42_0 (hA281.ev rfl)) rfl rfl rfl rfl (by decide) fun a282 hA283 => ?_; clear hA281 a280
    refine stg hA283 (op_load1 rfl ty_3 (hA283.ev rfl) (hS258.bk 4 rfl) rfl) rfl rfl rfl rfl (by decide) fun a284 hA285 => ?_; clear hA283 a282
    refine stg hA285 (op_lss rfl (hA285.ev rfl) (evc _ _)) rfl rfl rfl rfl (by decide) fun a286 hA287 => ?_; clear hA285 a284
    have hd288 : ¬ (((lifeR (allowedF R rs) b s).1) < 0) := (by omega)
    rw [decide_eq_false hd288] at hA287
    refine st hA287 (op_pick_f rfl (hA287.ev rfl) (hA287.ev rfl)) rfl rfl (by decide) fun a289 hA290 => ?_; clear hA287 a286
    refine st hA290 (op_move rfl (hA290.ev rfl)) rfl rfl (by decide) fun a291 hA292 => ?_; clear hA290 a289
    refine stg hA292 (op_field rfl fd_42_0 (hA292.ev rfl)) rfl rfl rfl rfl (by decide) fun a293 hA294 => ?_; clear hA292 a291
    refine stg hA294 (op_load1 rfl ty_3 (hA294.ev rfl) (hS258.bk 4 rfl) rfl) rfl rfl rfl rfl (by decide) fun a295 hA296 => ?_; clear hA294 a293
    refine stg hA296 (op_field rfl fd_42_1 (hA296.ev rfl)) rfl rfl rfl rfl (by decide) fun a297 hA298 => ?_; clear hA296 a295
    refine stg hA298 (op_load1 rfl ty_3 (hA298.ev rfl) (hS258.bk 4 rfl) rfl) rfl rfl rfl rfl (by decide) fun a299 hA300 => ?_; clear hA298 a297
    refine stg hA300 (op_gtr rfl (hA300.ev rfl) (hA300.ev rfl)) rfl rfl rfl rfl (by decide) fun a301 hA302 => ?_; clear hA300 a299
    have hd303 : ¬ (((lifeR (allowedF R rs) b s).2) < ((lifeR (allowedF R rs) b s).1)) := (by omega)
    rw [decide_eq_false hd303] at hA302
    refine st hA302 (op_pick_f rfl (hA302.ev rfl) (hA302.ev rfl)) rfl rfl (by decide) fun a304 hA305 => ?_; clear hA302 a301
    refine wl_nil ?_
    refine then_n ?_
    refine c_false hA305 rfl ?_
    refine c_skip ?_
    refine then_n ?_
    refine c_seq ?_
    refine c_seq ?_
    have hA306 := hA305.as [(10, (bptr b72 0)), (9, (Value.int .i64 (b : Int))), (4, (bptr b4 0)), (1, vu), (3, (Value.int .u32 s))] rfl; clear hA305
    refine c_region ?_
    refine st hA306 (op_field rfl fd_42_0 (hA306.ev rfl)) rfl rfl (by decide) fun a307 hA308 => ?_; clear hA306 a304
    refine st hA308 (op_load1 rfl ty_3 (hA308.ev rfl) (hS258.bk 4 rfl) rfl) rfl rfl (by decide) fun a309 hA310 => ?_; clear hA308 a307
    refine st hA310 (op_sub rfl (hA310.ev rfl) (evc _ _) (by omega) (by omega)) rfl rfl (by decide) fun a311 hA312 => ?_; clear hA310 a309
    refine st hA312 (op_assign rfl (hA312.ev rfl)) rfl rfl (by decide) fun a313 hA314 => ?_; clear hA312 a311
    refine wl_nil ?_
    refine then_n ?_
    refine c_seq ?_
    refine c_region ?_
    refine st hA314 (op_move rfl (hA314.ev rfl)) rfl rfl (by decide) fun a315 hA316 => ?_; clear hA314 a313
    refine st hA316 (op_geq rfl (hA316.ev rfl) (evc _ _)) rfl rfl (by decide) fun a317 hA318 => ?_; clear hA316 a315
    refine st hA318 (op_move rfl (hA318.ev rfl)) rfl rfl (by decide) fun a319 hA320 => ?_; clear hA318 a317
    by_cases hb321 : 0 ≤ (((lifeR (allowedF R rs) b s).1) - 1)
    ·skip
     rw [decide_eq_true hb321] at hA320
     refine stg hA320 (op_move rfl (hA320.ev rfl)) rfl rfl rfl rfl (by decide) fun a322 hA323 => ?_; clear hA320 a319
     refine stg hA323 (op_leq rfl (hA323.ev rfl) (evc _ _)) rfl rfl rfl rfl (by decide) fun a324 hA325 => ?_; clear hA323 a322
     refine st hA325 (op_pick_t rfl (hA325.ev rfl) (hA325.ev rfl)) rfl rfl (by decide) fun a326 hA327 => ?_; clear hA325 a324
     refine wl_nil ?_
     refine then_n ?_
     by_cases hb328 : (((lifeR (allowedF R rs) b s).1) - 1) ≤ 1000000
     ·skip
      rw [decide_eq_true hb328] at hA327
      refine c_true hA327 rfl ?_
      refine c_seq ?_
      have hA329 := hA327.as [(14, (Value.int .i64 (((lifeR (allowedF R rs) b s).1) - 1))), (9, (Value.int .i64 (b : Int))), (4, (bptr b4 0)), (1, vu), (3, (Value.int .u32 s))] rfl; clear hA327
      refine c_region ?_
      refine st hA329 (op_loadA rfl ty_24 (hA329.ev rfl) (hS258.bk 7 rfl) (l := [vr]) rfl rfl) rfl rfl (by decide) fun a330 hA331 => ?_; clear hA329 a326
      refine stw hA331 (op_call rfl en_19 (ev1 (hA331.ev rfl)) (Material_ok _ R _ (hS258.sk 8 rfl) hth.mat)) rfl rfl (by decide) ?_
      rintro a332 _ w334 ⟨u337, rfl, hT335⟩ hA333; have hS336 := hS258.callS hT335 rfl; clear hT335 hA331 hS258 a330
      refine st hA333 (op_move rfl (hA333.ev rfl)) rfl rfl (by decide) fun a338 hA339 => ?_; clear hA333 a332
      refine stw hA339 (op_call rfl en_20 (ev1 (hA339.ev rfl)) (Runs_ok _ rs _ _ (runs_at (hS336.ok 10 _ rfl)) hth.runs hth.segs)) rfl rfl (by decide) ?_
      rintro a340 v345 w342 ⟨lv346, hT343⟩ hA341; have hS344 := hS336.callS hT343 rfl; clear hT343 hA339 hS336 a338
      refine st hA341 (op_move rfl (hA341.ev rfl)) rfl rfl (by decide) fun a347 hA348 => ?_; clear hA341 a340
      refine st hA348 (op_move rfl (hA348.ev rfl)) rfl rfl (by decide) fun a349 hA350 => ?_; clear hA348 a347
      refine st hA350 (op_move rfl (hA350.ev rfl)) rfl rfl (by decide) fun a351 hA352 => ?_; clear hA350 a349
      refine stw hA352 (op_call rfl en_31 (ev2 (hA352.ev rfl) (hA352.ev rfl)) (between_ok _ _ _)) rfl rfl (by decide) ?_
      rintro a353 _ w355 ⟨rfl, hE356⟩ hA354; have hS357 := hS344.step hE356; clear hE356 hA352 hS344 a351
      refine st hA354 (op_build rfl (pv2 (hA354.ev rfl) (hA354.ev rfl)) (bd_67_0i_1iia _ _ _)) rfl rfl (by decide) fun a358 hA359 => ?_; clear hA354 a353
      refine stw hA359 (op_buildSlice hS357 rfl (pv1 (hA359.ev rfl)) un_58 ty_67 ze_67 (by decide) (cs := [(Value.int .i64 (b : Int)), (Value.int .i64 (((lifeR (allowedF R rs) b s).1) - 1)), (Value.int .i64 (((lifeR (allowedF R rs) b s).1) - 1))]) (bs_67_1_0iiia _ _ _)) rfl rfl (by decide) ?_
      rintro a360 _ w362 ⟨b363, rfl, hS364⟩ hA361; clear hA359 hS357 a358
      refine stw hA361 (op_call rfl en_28 (ev3 (hA361.ev rfl) (hA361.ev rfl) (hA361.ev rfl)) (stretch_fine R rs lv346 u337 v345 _ (SlAt.of_row (hS364.ok_row 2 rfl)) (runs_at (hS364.ok 1 _ rfl)) (by omega) (by omega) ([((b : Int), ((lifeR (allowedF R rs) b s).1) - 1, ((lifeR (allowedF R rs) b s).1) - 1)]) (Value.slice (some ⟨b363, 0, none⟩) 1 1) (SlAt.of_blk (hS364.bk 0 rfl) rfl (Nat.le_of_ble_eq_true rfl)) (by simp) (plan1 hc hb_b (by omega) (by omega)))) rfl rfl (by decide) ?_
      rintro a365 _ w367 ⟨rfl, hE368⟩ hA366; have hS369 := hS364.step hE368; clear hE368 hA361 hS364 a360
      refine st hA366 (op_move rfl (hA366.ev rfl)) rfl rfl (by decide) fun a370 hA371 => ?_; clear hA366 a365
      refine st hA371 (op_extract rfl (hA371.ev rfl) rfl) rfl rfl (by decide) fun a372 hA373 => ?_; clear hA371 a370
      refine st hA373 (op_extract rfl (hA373.ev rfl) rfl) rfl rfl (by decide) fun a374 hA375 => ?_; clear hA373 a372
      refine stw hA375 (op_alloc hS369 rfl ze_42 (cs := [(Value.int .i64 0), (Value.int .i64 0)]) rfl) rfl rfl (by decide) ?_
      rintro a376 _ w378 ⟨b379, rfl, hS380⟩ hA377; clear hA375 hS369 a374
      refine sts hA377 (op_store hS380 rfl ty_42 (hA377.ev rfl) (hA377.ev rfl) (i := 0) rfl (vs := [(Value.int .i64 (stLo ([((b : Int), ((lifeR (allowedF R rs) b s).1) - 1, ((lifeR (allowedF R rs) b s).1) - 1)]) (leastR R rs ([((b : Int), ((lifeR (allowedF R rs) b s).1) - 1, ((lifeR (allowedF R rs) b s).1) - 1)])))), (Value.int .i64 (stHi ([((b : Int), ((lifeR (allowedF R rs) b s).1) - 1, ((lifeR (allowedF R rs) b s).1) - 1)]) (mostR R rs ([((b : Int), ((lifeR (allowedF R rs) b s).1) - 1, ((lifeR (allowedF R rs) b s).1) - 1)]))))]) rfl rfl rfl (Nat.le_of_ble_eq_true rfl)) rfl rfl ?_
      intro _ w381 hS382 hA383; clear hA377
      have hS384 : Sep NoB w w381 [(blk b379 42 [(Value.int .i64 (stLo ([((b : Int), ((lifeR (allowedF R rs) b s).1) - 1, ((lifeR (allowedF R rs) b s).1) - 1)]) (leastR R rs ([((b : Int), ((lifeR (allowedF R rs) b s).1) - 1, ((lifeR (allowedF R rs) b s).1) - 1)])))), (Value.int .i64 (stHi ([((b : Int), ((lifeR (allowedF R rs) b s).1) - 1, ((lifeR (allowedF R rs) b s).1) - 1)]) (mostR R rs ([((b : Int), ((lifeR (allowedF R rs) b s).1) - 1, ((lifeR (allowedF R rs) b s).1) - 1)]))))]), (blk b363 67 [(Value.int .i64 (b : Int)), (Value.int .i64 (((lifeR (allowedF R rs) b s).1) - 1)), (Value.int .i64 (((lifeR (allowedF R rs) b s).1) - 1))]), (runsR true v345 lv346 rs), (row u337 42 2 R.length (pairs R)), (row u1_ 42 2 R.length (pairs R)), (runsR true (vs244 3) lv3_ rs), (row (vs244 11) 67 3 1 [(Value.int .i64 (b : Int)), (Value.int .i64 ((lifeR (allowedF R rs) b s).2)), (Value.int .i64 ((lifeR (allowedF R rs) b s).2))]), (blk b16_ 42 [(Value.int .i64 (stLo ([((b : Int), (lifeR (allowedF R rs) b s).2, (lifeR (allowedF R rs) b s).2)]) (leastR R rs ([((b : Int), (lifeR (allowedF R rs) b s).2, (lifeR (allowedF R rs) b s).2)])))), (Value.int .i64 (stHi ([((b : Int), (lifeR (allowedF R rs) b s).2, (lifeR (allowedF R rs) b s).2)]) (mostR R rs ([((b : Int), (lifeR (allowedF R rs) b s).2, (lifeR (allowedF R rs) b s).2)]))))]), (blk b72 42 [(Value.int .i64 ((lifeR (allowedF R rs) b s).1)), (Value.int .i64 ((lifeR (allowedF R rs) b s).2))]), (runsR true v50 lv51 rs), (row u42 42 2 R.length (pairs R)), (blk b4 24 [vr]), (sl vr 2 R.length (pairs R)), (runsR false vu lv rs)] := hS382; clear hS382 hS380
      refine st hA383 (op_assign rfl (hA383.ev rfl)) rfl rfl (by decide) fun a385 hA386 => ?_; clear hA383 a376
      refine wl_nil ?_
      refine then_n ?_
      refine c_seq ?_
      have hA387 := hA386.as [(16, (Value.int .i64 0)), (15, (bptr b379 0)), (3, (Value.int .u32 s))] rfl; clear hA386
      refine c_region ?_
      refine st hA387 (op_move rfl (hA387.ev rfl)) rfl rfl (by decide) fun a388 hA389 => ?_; clear hA387 a385
      refine st hA389 (op_neq rfl (hA389.ev rfl) (evc _ _)) rfl rfl (by decide) fun a390 hA391 => ?_; clear hA389 a388
      refine st hA391 (op_move rfl (hA391.ev rfl)) rfl rfl (by decide) fun a392 hA393 => ?_; clear hA391 a390
      refine stg hA393 (op_field rfl fd_42_1 (hA393.ev rfl)) rfl rfl rfl rfl (by decide) fun a394 hA395 => ?_; clear hA393 a392
      refine stg hA395 (op_load1 rfl ty_3 (hA395.ev rfl) (hS384.bk 0 rfl) rfl) rfl rfl rfl rfl (by decide) fun a396 hA397 => ?_; clear hA395 a394
      refine stg hA397 (op_move rfl (hA397.ev rfl)) rfl rfl rfl rfl (by decide) fun a398 hA399 => ?_; clear hA397 a396
      refine stg hA399 (op_conv un_61 un_3 rfl (hA399.ev rfl) (v := s) (wrap_i64 (by omega) (by omega))) rfl rfl rfl rfl (by decide) fun a400 hA401 => ?_; clear hA399 a398
      refine stg hA401 (op_geq rfl (hA401.ev rfl) (hA401.ev rfl)) rfl rfl rfl rfl (by decide) fun a402 hA403 => ?_; clear hA401 a400
      have hd404 : ¬ (s ≤ (stHi ([((b : Int), ((lifeR (allowedF R rs) b s).1) - 1, ((lifeR (allowedF R rs) b s).1) - 1)]) (mostR R rs ([((b : Int), ((lifeR (allowedF R rs) b s).1) - 1, ((lifeR (allowedF R rs) b s).1) - 1)])))) := (by have hz_ := life_lo (rs := rs) (b := b) hR hal hS_ (by omega); omega)
      rw [decide_eq_false hd404] at hA403
      refine st hA403 (op_pick_f rfl (hA403.ev rfl) (hA403.ev rfl)) rfl rfl (by decide) fun a405 hA406 => ?_; clear hA403 a402
      refine wl_nil ?_
      refine then_n ?_
      refine c_false hA406 rfl ?_
      refine c_skip ?_
      refine then_n ?_
      refine c_seq ?_
      have hA407 := hA406.as [] rfl; clear hA406
      refine c_region ?_
      refine stw hA407 (op_call rfl en_17 ev0 (awake_ok _)) rfl rfl (by decide) ?_
      rintro a408 _ w410 ⟨rfl, hE411⟩ hA409; have hS412 := hS384.step hE411; clear hE411 hA407 hS384 a405
      refine st hA409 (op_assign rfl (hA409.ev rfl)) rfl rfl (by decide) fun a413 hA414 => ?_; clear hA409 a408
      refine wl_nil ?_
      refine then_n ?_
      refine c_ret ?_
      refine fin_run hA414 (.inl rfl) (run_results1 hA414 rfl (.tmp rfl)) ?_
      exact ⟨rfl, hS412.ext⟩
     ·skip
      rw [decide_eq_false hb328] at hA327
      refine c_false hA327 rfl ?_
      refine c_skip ?_
      refine then_n ?_
      refine c_seq ?_
      have hA415 := hA327.as [] rfl; clear hA327
      refine c_region ?_
      refine stw hA415 (op_call rfl en_17 ev0 (awake_ok _)) rfl rfl (by decide) ?_
      rintro a416 _ w418 ⟨rfl, hE419⟩ hA417; have hS420 := hS258.step hE419; clear hE419 hA415 hS258 a326
      refine st hA417 (op_assign rfl (hA417.ev rfl)) rfl rfl (by decide) fun a421 hA422 => ?_; clear hA417 a416
      refine wl_nil ?_
      refine then_n ?_
      refine c_ret ?_
      refine fin_run hA422 (.inl rfl) (run_results1 hA422 rfl (.tmp rfl)) ?_
      exact ⟨rfl, hS420.ext⟩
    ·skip
     rw [decide_eq_false hb321] at hA320
     refine skp hA320 rfl rfl rfl rfl rfl (by decide) fun a423 hA424 => ?_; clear hA320 a319
     refine skp hA424 rfl rfl rfl rfl rfl (by decide) fun a425 hA426 => ?_; clear hA424 a423
     refine st hA426 (op_pick_f rfl (hA426.ev rfl) (evc _ _)) rfl rfl (by decide) fun a427 hA428 => ?_; clear hA426 a425
     refine wl_nil ?_
     refine then_n ?_
     refine c_false hA428 rfl ?_
     refine c_skip ?_
     refine then_n ?_
     refine c_seq ?_
     have hA429 := hA428.as [] rfl; clear hA428
     refine c_region ?_
     refine stw hA429 (op_call rfl en_17 ev0 (awake_ok _)) rfl rfl (by decide) ?_
     rintro a430 _ w432 ⟨rfl, hE433⟩ hA431; have hS434 := hS258.step hE433; clear hE433 hA429 hS258 a427
     refine st hA431 (op_assign rfl (hA431.ev rfl)) rfl rfl (by decide) fun a435 hA436 => ?_; clear hA431 a430
     refine wl_nil ?_
     refine then_n ?_
     refine c_ret ?_
     refine fin_run hA436 (.inl rfl) (run_results1 hA436 rfl (.tmp rfl)) ?_
     exact ⟨rfl, hS434.ext⟩
   ·skip
    intro a437 w438 vs244 rsf442 hA439 hH441 hrq hS440; clear hA243 hS77
    obtain ⟨hs_0, hy_0⟩ := hH441 0 (by decide) (by decide)
    obtain ⟨hv_0, hr_0⟩ := hy_0
    obtain ⟨hs_1, hy_1⟩ := hH441 1 (by decide) (by decide)
    obtain ⟨u1_, hv_1, hr_1⟩ := hy_1
    obtain ⟨hs_2, hy_2⟩ := hH441 2 (by decide) (by decide)
    obtain ⟨hv_2, hr_2⟩ := hy_2
    obtain ⟨hs_3, hy_3⟩ := hH441 3 (by decide) (by decide)
    obtain ⟨lv3_, hv_3, hr_3⟩ := hy_3
    obtain ⟨hs_4, hy_4⟩ := hH441 4 (by decide) (by decide)
    obtain ⟨hv_4, hr_4⟩ := hy_4
    obtain ⟨hs_5, hy_5⟩ := hH441 5 (by decide) (by decide)
    obtain ⟨hv_5, hr_5⟩ := hy_5
    obtain ⟨hs_6, hy_6⟩ := hH441 6 (by decide) (by decide)
    obtain ⟨hv_6, hr_6⟩ := hy_6
    obtain ⟨hs_7, hy_7⟩ := hH441 7 (by decide) (by decide)
    obtain ⟨hv_7, hr_7⟩ := hy_7
    obtain ⟨hs_8, hy_8⟩ := hH441 8 (by decide) (by decide)
    obtain ⟨hv_8, hr_8⟩ := hy_8
    obtain ⟨hs_9, hy_9⟩ := hH441 9 (by decide) (by decide)
    obtain ⟨hv_9, hr_9⟩ := hy_9
    obtain ⟨hs_10, hy_10⟩ := hH441 10 (by decide) (by decide)
    obtain ⟨hv_10, hr_10⟩ := hy_10
    obtain ⟨hs_11, hy_11⟩ := hH441 11 (by decide) (by decide)
    obtain ⟨hv_11, hr_11⟩ := hy_11
    obtain ⟨hs_12, hy_12⟩ := hH441 12 (by decide) (by decide)
    obtain ⟨hv_12, hr_12⟩ := hy_12
    obtain ⟨hs_13, hy_13⟩ := hH441 13 (by decide) (by decide)
    obtain ⟨hv_13, hr_13⟩ := hy_13
    obtain ⟨hs_14, hy_14⟩ := hH441 14 (by decide) (by decide)
    obtain ⟨hv_14, hr_14⟩ := hy_14
    obtain ⟨hs_16, hy_16⟩ := hH441 16 (by decide) (by decide)
    obtain ⟨b16_, hv_16, hr_16⟩ := hy_16
    have hS443 : Sep NoB w w438 [(row u1_ 42 2 R.length (pairs R)), (runsR true (vs244 3) lv3_ rs), (row (vs244 11) 67 3 1 [(Value.int .i64 (b : Int)), (Value.int .i64 ((lifeR (allowedF R rs) b s).2)), (Value.int .i64 ((lifeR (allowedF R rs) b s).2))]), (blk b16_ 42 [(Value.int .i64 0), (Value.int .i64 0)]), (blk b72 42 [(Value.int .i64 ((lifeR (allowedF R rs) b s).1)), (Value.int .i64 ((lifeR (allowedF R rs) b s).2))]), (runsR true v50 lv51 rs), (row u42 42 2 R.length (pairs R)), (blk b4 24 [vr]), (sl vr 2 R.length (pairs R)), (runsR false vu lv rs)] := by rw [show catR rsf442 0 17 = ([(row u1_ 42 2 R.length (pairs R)), (runsR true (vs244 3) lv3_ rs), (row (vs244 11) 67 3 1 [(Value.int .i64 (b : Int)), (Value.int .i64 ((lifeR (allowedF R rs) b s).2)), (Value.int .i64 ((lifeR (allowedF R rs) b s).2))]), (blk b16_ 42 [(Value.int .i64 0), (Value.int .i64 0)])] : List Res) by (try simp only [catR, hr_0, hr_1, hr_2, hr_3, hr_4, hr_5, hr_6, hr_7, hr_8, hr_9, hr_10, hr_11, hr_12, hr_13, hr_14, hr_16, hrq]); (try rfl)] at hS440; exact hS440
    rw [hv_13] at hs_13
    have hA444 : Fr 124 [] [(54, (Value.tuple #[(Value.agg #[(Value.int .i64 (stLo ([((b : Int), (lifeR (allowedF R rs) b s).2, (lifeR (allowedF R rs) b s).2)]) (leastR R rs ([((b : Int), (lifeR (allowedF R rs) b s).2, (lifeR (allowedF R rs) b s).2)])))), (Value.int .i64 (stHi ([((b : Int), (lifeR (allowedF R rs) b s).2, (lifeR (allowedF R rs) b s).2)]) (mostR R rs ([((b : Int), (lifeR (allowedF R rs) b s).2, (lifeR (allowedF R rs) b s).2)]))))]), (Value.int .i64 0)])), (10, (bptr b72 0)), (9, (Value.int .i64 (b : Int))), (4, (bptr b4 0)), (1, vu), (3, (Value.int .u32 s))] a437 := hA439.add (slot_ev hs_13 rfl); clear hA439
    rw [hv_14] at hs_14
    have hA445 : Fr 124 [] [(68, (Value.agg #[(Value.int .i64 (stLo ([((b : Int), (lifeR (allowedF R rs) b s).2, (lifeR (allowedF R rs) b s).2)]) (leastR R rs ([((b : Int), (lifeR (allowedF R rs) b s).2, (lifeR (allowedF R rs) b s).2)])))), (Value.int .i64 (stHi ([((b : Int), (lifeR (allowedF R rs) b s).2, (lifeR (allowedF R rs) b s).2)]) (mostR R rs ([((b : Int), (lifeR (allowedF R rs) b s).2, (lifeR (allowedF R rs) b s).2)]))))])), (54, (Value.tuple #[(Value.agg #[(Value.int .i64 (stLo ([((b : Int), (lifeR (allowedF R rs) b s).2, (lifeR (allowedF R rs) b s).2)]) (leastR R rs ([((b : Int), (lifeR (allowedF R rs) b s).2, (lifeR (allowedF R rs) b s).2)])))), (Value.int .i64 (stHi ([((b : Int), (lifeR (allowedF R rs) b s).2, (lifeR (allowedF R rs) b s).2)]) (mostR R rs ([((b : Int), (lifeR (allowedF R rs) b s).2, (lifeR (allowedF R rs) b s).2)]))))]), (Value.int .i64 0)])), (10, (bptr b72 0)), (9, (Value.int .i64 (b : Int))), (4, (bptr b4 0)), (1, vu), (3, (Value.int .u32 s))] a437 := hA444.add (slot_ev hs_14 rfl); clear hA444
    rw [hv_16] at hs_16
    have hA446 : Fr 124 [] [(12, (bptr b16_ 0)), (68, (Value.agg #[(Value.int .i64 (stLo ([((b : Int), (lifeR (allowedF R rs) b s).2, (lifeR (allowedF R rs) b s).2)]) (leastR R rs ([((b : Int), (lifeR (allowedF R rs) b s).2, (lifeR (allowedF R rs) b s).2)])))), (Value.int .i64 (stHi ([((b : Int), (lifeR (allowedF R rs) b s).2, (lifeR (allowedF R rs) b s).2)]) (mostR R rs ([((b : Int), (lifeR (allowedF R rs) b s).2, (lifeR (allowedF R rs) b s).2)]))))])), (54, (Value.tuple #[(Value.agg #[(Value.int .i64 (stLo ([((b : Int), (lifeR (allowedF R rs) b s).2, (lifeR (allowedF R rs) b s).2)]) (leastR R rs ([((b : Int), (lifeR (allowedF R rs) b s).2, (lifeR (allowedF R rs) b s).2)])))), (Value.int .i64 (stHi ([((b : Int), (lifeR (allowedF R rs) b s).2, (lifeR (allowedF R rs) b s).2)]) (mostR R rs ([((b : Int), (lifeR (allowedF R rs) b s).2, (lifeR (allowedF R rs) b s).2)]))))]), (Value.int .i64 0)])), (10, (bptr b72 0)), (9, (Value.int .i64 (b : Int))), (4, (bptr b4 0)), (1, vu), (3, (Value.int .u32 s))] a437 := hA445.add (slot_ev hs_16 rfl); clear hA445
    clear hH441 hS440 hs_0 hs_1 hs_2 hs_3 hs_4 hs_5 hs_6 hs_7 hs_8 hs_9 hs_10 hs_11 hs_12 hs_13 hs_14 hs_16 hrq
    clear hr_0
    clear hv_0
    clear hr_1
    clear hv_1
    clear hr_2
    clear hv_2
    clear hr_3
    clear hv_3
    clear hr_4
    clear hv_4
    clear hr_5
    clear hv_5
    clear hr_6
    clear hv_6
    clear hr_7
    clear hv_7
    clear hr_8
    clear hv_8
    clear hr_9
    clear hv_9
    clear hr_10
    clear hv_10
    clear hr_11
    clear hv_11
    clear hr_12
    clear hv_12
    clear hr_13
    clear hv_13
    clear hr_14
    clear hv_14
    clear hr_16
    clear hv_16
    refine sts hA446 (op_store hS443 rfl ty_42 (hA446.ev rfl) (hA446.ev rfl) (i := 3) rfl (vs := [(Value.int .i64 (stLo ([((b : Int), (lifeR (allowedF R rs) b s).2, (lifeR (allowedF R rs) b s).2)]) (leastR R rs ([((b : Int), (lifeR (allowedF R rs) b s).2, (lifeR (allowedF R rs) b s).2)])))), (Value.int .i64 (stHi ([((b : Int), (lifeR (allowedF R rs) b s).2, (lifeR (allowedF R rs) b s).2)]) (mostR R rs ([((b : Int), (lifeR (allowedF R rs) b s).2, (lifeR (allowedF R rs) b s).2)]))))]) rfl rfl rfl (Nat.le_of_ble_eq_true rfl)) rfl rfl ?_
    intro _ w447 hS448 hA449; clear hA446
    have hS450 : Sep NoB w w447 [(row u1_ 42 2 R.length (pairs R)), (runsR true (vs244 3) lv3_ rs), (row (vs244 11) 67 3 1 [(Value.int .i64 (b : Int)), (Value.int .i64 ((lifeR (allowedF R rs) b s).2)), (Value.int .i64 ((lifeR (allowedF R rs) b s).2))]), (blk b16_ 42 [(Value.int .i64 (stLo ([((b : Int), (lifeR (allowedF R rs) b s).2, (lifeR (allowedF R rs) b s).2)]) (leastR R rs ([((b : Int), (lifeR (allowedF R rs) b s).2, (lifeR (allowedF R rs) b s).2)])))), (Value.int .i64 (stHi ([((b : Int), (lifeR (allowedF R rs) b s).2, (lifeR (allowedF R rs) b s).2)]) (mostR R rs ([((b : Int), (lifeR (allowedF R rs) b s).2, (lifeR (allowedF R rs) b s).2)]))))]), (blk b72 42 [(Value.int .i64 ((lifeR (allowedF R rs) b s).1)), (Value.int .i64 ((lifeR (allowedF R rs) b s).2))]), (runsR true v50 lv51 rs), (row u42 42 2 R.length (pairs R)), (blk b4 24 [vr]), (sl vr 2 R.length (pairs R)), (runsR false vu lv rs)] := hS448; clear hS448 hS443
    refine st hA449 (op_extract rfl (hA449.ev rfl) rfl) rfl rfl (by decide) fun a451 hA452 => ?_; clear hA449 a437
    refine st hA452 (op_assign rfl (hA452.ev rfl)) rfl rfl (by decide) fun a453 hA454 => ?_; clear hA452 a451
    refine wl_nil ?_
    refine then_n ?_
    refine c_seq ?_
    refine c_region ?_
    refine st hA454 (op_move rfl (hA454.ev rfl)) rfl rfl (by decide) fun a455 hA456 => ?_; clear hA454 a453
    refine st hA456 (op_neq rfl (hA456.ev rfl) (evc _ _)) rfl rfl (by decide) fun a457 hA458 => ?_; clear hA456 a455
    refine st hA458 (op_move rfl (hA458.ev rfl)) rfl rfl (by decide) fun a459 hA460 => ?_; clear hA458 a457
    refine stg hA460 (op_field rfl fd_42_0 (hA460.ev rfl)) rfl rfl rfl rfl (by decide) fun a461 hA462 => ?_; clear hA460 a459
    refine stg hA462 (op_load1 rfl ty_3 (hA462.ev rfl) (hS450.bk 3 rfl) rfl) rfl rfl rfl rfl (by decide) fun a463 hA464 => ?_; clear hA462 a461
    refine stg hA464 (op_move rfl (hA464.ev rfl)) rfl rfl rfl rfl (by decide) fun a465 hA466 => ?_; clear hA464 a463
    refine stg hA466 (op_conv un_61 un_3 rfl (hA466.ev rfl) (v := s) (wrap_i64 (by omega) (by omega))) rfl rfl rfl rfl (by decide) fun a467 hA468 => ?_; clear hA466 a465
    refine stg hA468 (op_lss rfl (hA468.ev rfl) (hA468.ev rfl)) rfl rfl rfl rfl (by decide) fun a469 hA470 => ?_; clear hA468 a467
    have hd471 : ¬ ((stLo ([((b : Int), (lifeR (allowedF R rs) b s).2, (lifeR (allowedF R rs) b s).2)]) (leastR R rs ([((b : Int), (lifeR (allowedF R rs) b s).2, (lifeR (allowedF R rs) b s).2)]))) < s) := (by have hz_ := life_hi (rs := rs) (b := b) hR hal hS_ (by assumption); omega)
    rw [decide_eq_false hd471] at hA470
    refine st hA470 (op_pick_f rfl (hA470.ev rfl) (hA470.ev rfl)) rfl rfl (by decide) fun a472 hA473 => ?_; clear hA470 a469
    refine st hA473 (op_move rfl (hA473.ev rfl)) rfl rfl (by decide) fun a474 hA475 => ?_; clear hA473 a472
    refine stg hA475 (op_field rfl fd_42_0 (hA475.ev rfl)) rfl rfl rfl rfl (by decide) fun a476 hA477 => ?_; clear hA475 a474
    refine stg hA477 (op_load1 rfl ty_3 (hA477.ev rfl) (hS450.bk 4 rfl) rfl) rfl rfl rfl rfl (by decide) fun a478 hA479 => ?_; clear hA477 a476
    refine stg hA479 (op_lss rfl (hA479.ev rfl) (evc _ _)) rfl rfl rfl rfl (by decide) fun a480 hA481 => ?_; clear hA479 a478
    have hd482 : ¬ (((lifeR (allowedF R rs) b s).1) < 0) := (by omega)
    rw [decide_eq_false hd482] at hA481
    refine st hA481 (op_pick_f rfl (hA481.ev rfl) (hA481.ev rfl)) rfl rfl (by decide) fun a483 hA484 => ?_; clear hA481 a480
    refine st hA484 (op_move rfl (hA484.ev rfl)) rfl rfl (by decide) fun a485 hA486 => ?_; clear hA484 a483
    refine stg hA486 (op_field rfl fd_42_0 (hA486.ev rfl)) rfl rfl rfl rfl (by decide) fun a487 hA488 => ?_; clear hA486 a485
    refine stg hA488 (op_load1 rfl ty_3 (hA488.ev rfl) (hS450.bk 4 rfl) rfl) rfl rfl rfl rfl (by decide) fun a489 hA490 => ?_; clear hA488 a487
    refine stg hA490 (op_field rfl fd_42_1 (hA490.ev rfl)) rfl rfl rfl rfl (by decide) fun a491 hA492 => ?_; clear hA490 a489
    refine stg hA492 (op_load1 rfl ty_3 (hA492.ev rfl) (hS450.bk 4 rfl) rfl) rfl rfl rfl rfl (by decide) fun a493 hA494 => ?_; clear hA492 a491
    refine stg hA494 (op_gtr rfl (hA494.ev rfl) (hA494.ev rfl)) rfl rfl rfl rfl (by decide) fun a495 hA496 => ?_; clear hA494 a493
    have hd497 : ¬ (((lifeR (allowedF R rs) b s).2) < ((lifeR (allowedF R rs) b s).1)) := (by omega)
    rw [decide_eq_false hd497] at hA496
    refine st hA496 (op_pick_f rfl (hA496.ev rfl) (hA496.ev rfl)) rfl rfl (by decide) fun a498 hA499 => ?_; clear hA496 a495
    refine wl_nil ?_
    refine then_n ?_
    refine c_false hA499 rfl ?_
    refine c_skip ?_
    refine then_n ?_
    refine c_seq ?_
    refine c_seq ?_
    have hA500 := hA499.as [(10, (bptr b72 0)), (9, (Value.int .i64 (b : Int))), (4, (bptr b4 0)), (1, vu), (3, (Value.int .u32 s))] rfl; clear hA499
    refine c_region ?_
    refine st hA500 (op_field rfl fd_42_0 (hA500.ev rfl)) rfl rfl (by decide) fun a501 hA502 => ?_; clear hA500 a498
    refine st hA502 (op_load1 rfl ty_3 (hA502.ev rfl) (hS450.bk 4 rfl) rfl) rfl rfl (by decide) fun a503 hA504 => ?_; clear hA502 a501
    refine st hA504 (op_sub rfl (hA504.ev rfl) (evc _ _) (by omega) (by omega)) rfl rfl (by decide) fun a505 hA506 => ?_; clear hA504 a503
    refine st hA506 (op_assign rfl (hA506.ev rfl)) rfl rfl (by decide) fun a507 hA508 => ?_; clear hA506 a505
    refine wl_nil ?_
    refine then_n ?_
    refine c_seq ?_
    refine c_region ?_
    refine st hA508 (op_move rfl (hA508.ev rfl)) rfl rfl (by decide) fun a509 hA510 => ?_; clear hA508 a507
    refine st hA510 (op_geq rfl (hA510.ev rfl) (evc _ _)) rfl rfl (by decide) fun a511 hA512 => ?_; clear hA510 a509
    refine st hA512 (op_move rfl (hA512.ev rfl)) rfl rfl (by decide) fun a513 hA514 => ?_; clear hA512 a511
    by_cases hb515 : 0 ≤ (((lifeR (allowedF R rs) b s).1) - 1)
    ·skip
     rw [decide_eq_true hb515] at hA514
     refine stg hA514 (op_move rfl (hA514.ev rfl)) rfl rfl rfl rfl (by decide) fun a516 hA517 => ?_; clear hA514 a513
     refine stg hA517 (op_leq rfl (hA517.ev rfl) (evc _ _)) rfl rfl rfl rfl (by decide) fun a518 hA519 => ?_; clear hA517 a516
     refine st hA519 (op_pick_t rfl (hA519.ev rfl) (hA519.ev rfl)) rfl rfl (by decide) fun a520 hA521 => ?_; clear hA519 a518
     refine wl_nil ?_
     refine then_n ?_
     by_cases hb522 : (((lifeR (allowedF R rs) b s).1) - 1) ≤ 1000000
     ·skip
      rw [decide_eq_true hb522] at hA521
      refine c_true hA521 rfl ?_
      refine c_seq ?_
      have hA523 := hA521.as [(14, (Value.int .i64 (((lifeR (allowedF R rs) b s).1) - 1))), (9, (Value.int .i64 (b : Int))), (4, (bptr b4 0)), (1, vu), (3, (Value.int .u32 s))] rfl; clear hA521
      refine c_region ?_
      refine st hA523 (op_loadA rfl ty_24 (hA523.ev rfl) (hS450.bk 7 rfl) (l := [vr]) rfl rfl) rfl rfl (by decide) fun a524 hA525 => ?_; clear hA523 a520
      refine stw hA525 (op_call rfl en_19 (ev1 (hA525.ev rfl)) (Material_ok _ R _ (hS450.sk 8 rfl) hth.mat)) rfl rfl (by decide) ?_
      rintro a526 _ w528 ⟨u531, rfl, hT529⟩ hA527; have hS530 := hS450.callS hT529 rfl; clear hT529 hA525 hS450 a524
      refine st hA527 (op_move rfl (hA527.ev rfl)) rfl rfl (by decide) fun a532 hA533 => ?_; clear hA527 a526
      refine stw hA533 (op_call rfl en_20 (ev1 (hA533.ev rfl)) (Runs_ok _ rs _ _ (runs_at (hS530.ok 10 _ rfl)) hth.runs hth.segs)) rfl rfl (by decide) ?_
      rintro a534 v539 w536 ⟨lv540, hT537⟩ hA535; have hS538 := hS530.callS hT537 rfl; clear hT537 hA533 hS530 a532
      refine st hA535 (op_move rfl (hA535.ev rfl)) rfl rfl (by decide) fun a541 hA542 => ?_; clear hA535 a534
      refine st hA542 (op_move rfl (hA542.ev rfl)) rfl rfl (by decide) fun a543 hA544 => ?_; clear hA542 a541
      refine st hA544 (op_move rfl (hA544.ev rfl)) rfl rfl (by decide) fun a545 hA546 => ?_; clear hA544 a543
      refine stw hA546 (op_call rfl en_31 (ev2 (hA546.ev rfl) (hA546.ev rfl)) (between_ok _ _ _)) rfl rfl (by decide) ?_
      rintro a547 _ w549 ⟨rfl, hE550⟩ hA548; have hS551 := hS538.step hE550; clear hE550 hA546 hS538 a545
      refine st hA548 (op_build rfl (pv2 (hA548.ev rfl) (hA548.ev rfl)) (bd_67_0i_1iia _ _ _)) rfl rfl (by decide) fun a552 hA553 => ?_; clear hA548 a547
      refine stw hA553 (op_buildSlice hS551 rfl (pv1 (hA553.ev rfl)) un_58 ty_67 ze_67 (by decide) (cs := [(Value.int .i64 (b : Int)), (Value.int .i64 (((lifeR (allowedF R rs) b s).1) - 1)), (Value.int .i64 (((lifeR (allowedF R rs) b s).1) - 1))]) (bs_67_1_0iiia _ _ _)) rfl rfl (by decide) ?_
      rintro a554 _ w556 ⟨b557, rfl, hS558⟩ hA555; clear hA553 hS551 a552
      refine stw hA555 (op_call rfl en_28 (ev3 (hA555.ev rfl) (hA555.ev rfl) (hA555.ev rfl)) (stretch_fine R rs lv540 u531 v539 _ (SlAt.of_row (hS558.ok_row 2 rfl)) (runs_at (hS558.ok 1 _ rfl)) (by omega) (by omega) ([((b : Int), ((lifeR (allowedF R rs) b s).1) - 1, ((lifeR (allowedF R rs) b s).1) - 1)]) (Value.slice (some ⟨b557, 0, none⟩) 1 1) (SlAt.of_blk (hS558.bk 0 rfl) rfl (Nat.le_of_ble_eq_true rfl)) (by simp) (plan1 hc hb_b (by omega) (by omega)))) rfl rfl (by decide) ?_
      rintro a559 _ w561 ⟨rfl, hE562⟩ hA560; have hS563 := hS558.step hE562; clear hE562 hA555 hS558 a554
      refine st hA560 (op_move rfl (hA560.ev rfl)) rfl rfl (by decide) fun a564 hA565 => ?_; clear hA560 a559
      refine st hA565 (op_extract rfl (hA565.ev rfl) rfl) rfl rfl (by decide) fun a566 hA567 => ?_; clear hA565 a564
      refine st hA567 (op_extract rfl (hA567.ev rfl) rfl) rfl rfl (by decide) fun a568 hA569 => ?_; clear hA567 a566
      refine stw hA569 (op_alloc hS563 rfl ze_42 (cs := [(Value.int .i64 0), (Value.int .i64 0)]) rfl) rfl rfl (by decide) ?_
      rintro a570 _ w572 ⟨b573, rfl, hS574⟩ hA571; clear hA569 hS563 a568
      refine sts hA571 (op_store hS574 rfl ty_42 (hA571.ev rfl) (hA571.ev rfl) (i := 0) rfl (vs := [(Value.int .i64 (stLo ([((b : Int), ((lifeR (allowedF R rs) b s).1) - 1, ((lifeR (allowedF R rs) b s).1) - 1)]) (leastR R rs ([((b : Int), ((lifeR (allowedF R rs) b s).1) - 1, ((lifeR (allowedF R rs) b s).1) - 1)])))), (Value.int .i64 (stHi ([((b : Int), ((lifeR (allowedF R rs) b s).1) - 1, ((lifeR (allowedF R rs) b s).1) - 1)]) (mostR R rs ([((b : Int), ((lifeR (allowedF R rs) b s).1) - 1, ((lifeR (allowedF R rs) b s).1) - 1)]))))]) rfl rfl rfl (Nat.le_of_ble_eq_true rfl)) rfl rfl ?_
      intro _ w575 hS576 hA577; clear hA571
      have hS578 : Sep NoB w w575 [(blk b573 42 [(Value.int .i64 (stLo ([((b : Int), ((lifeR (allowedF R rs) b s).1) - 1, ((lifeR (allowedF R rs) b s).1) - 1)]) (leastR R rs ([((b : Int), ((lifeR (allowedF R rs) b s).1) - 1, ((lifeR (allowedF R rs) b s).1) - 1)])))), (Value.int .i64 (stHi ([((b : Int), ((lifeR (allowedF R rs) b s).1) - 1, ((lifeR (allowedF R rs) b s).1) - 1)]) (mostR R rs ([((b : Int), ((lifeR (allowedF R rs) b s).1) - 1, ((lifeR (allowedF R rs) b s).1) - 1)]))))]), (blk b557 67 [(Value.int .i64 (b : Int)), (Value.int .i64 (((lifeR (allowedF R rs) b s).1) - 1)), (Value.int .i64 (((lifeR (allowedF R rs) b s).1) - 1))]), (runsR true v539 lv540 rs), (row u531 42 2 R.length (pairs R)), (row u1_ 42 2 R.length (pairs R)), (runsR true (vs244 3) lv3_ rs), (row (vs244 11) 67 3 1 [(Value.int .i64 (b : Int)), (Value.int .i64 ((lifeR (allowedF R rs) b s).2)), (Value.int .i64 ((lifeR (allowedF R rs) b s).2))]), (blk b16_ 42 [(Value.int .i64 (stLo ([((b : Int), (lifeR (allowedF R rs) b s).2, (lifeR (allowedF R rs) b s).2)]) (leastR R rs ([((b : Int), (lifeR (allowedF R rs) b s).2, (lifeR (allowedF R rs) b s).2)])))), (Value.int .i64 (stHi ([((b : Int), (lifeR (allowedF R rs) b s).2, (lifeR (allowedF R rs) b s).2)]) (mostR R rs ([((b : Int), (lifeR (allowedF R rs) b s).2, (lifeR (allowedF R rs) b s).2)]))))]), (blk b72 42 [(Value.int .i64 ((lifeR (allowedF R rs) b s).1)), (Value.int .i64 ((lifeR (allowedF R rs) b s).2))]), (runsR true v50 lv51 rs), (row u42 42 2 R.length (pairs R)), (blk b4 24 [vr]), (sl vr 2 R.length (pairs R)), (runsR false vu lv rs)] := hS576; clear hS576 hS574
      refine st hA577 (op_assign rfl (hA577.ev rfl)) rfl rfl (by decide) fun a579 hA580 => ?_; clear hA577 a570
      refine wl_nil ?_
      refine then_n ?_
      refine c_seq ?_
      have hA581 := hA580.as [(16, (Value.int .i64 0)), (15, (bptr b573 0)), (3, (Value.int .u32 s))] rfl; clear hA580
      refine c_region ?_
      refine st hA581 (op_move rfl (hA581.ev rfl)) rfl rfl (by decide) fun a582 hA583 => ?_; clear hA581 a579
      refine st hA583 (op_neq rfl (hA583.ev rfl) (evc _ _)) rfl rfl (by decide) fun a584 hA585 => ?_; clear hA583 a582
      refine st hA585 (op_move rfl (hA585.ev rfl)) rfl rfl (by decide) fun a586 hA587 => ?_; clear hA585 a584
      refine stg hA587 (op_field rfl fd_42_1 (hA587.ev rfl)) rfl rfl rfl rfl (by decide) fun a588 hA589 => ?_; clear hA587 a586
      refine stg hA589 (op_load1 rfl ty_3 (hA589.ev rfl) (hS578.bk 0 rfl) rfl) rfl rfl rfl rfl (by decide) fun a590 hA591 => ?_; clear hA589 a588
      refine stg hA591 (op_move rfl (hA591.ev rfl)) rfl rfl rfl rfl (by decide) fun a592 hA593 => ?_; clear hA591 a590
      refine stg hA593 (op_conv un_61 un_3 rfl (hA593.ev rfl) (v := s) (wrap_i64 (by omega) (by omega))) rfl rfl rfl rfl (by decide) fun a594 hA595 => ?_; clear hA593 a592
      refine stg hA595 (op_geq rfl (hA595.ev rfl) (hA595.ev rfl)) rfl rfl rfl rfl (by decide) fun a596 hA597 => ?_; clear hA595 a594
      have hd598 : ¬ (s ≤ (stHi ([((b : Int), ((lifeR (allowedF R rs) b s).1) - 1, ((lifeR (allowedF R rs) b s).1) - 1)]) (mostR R rs ([((b : Int), ((lifeR (allowedF R rs) b s).1) - 1, ((lifeR (allowedF R rs) b s).1) - 1)])))) := (by have hz_ := life_lo (rs := rs) (b := b) hR hal hS_ (by omega); omega)
      rw [decide_eq_false hd598] at hA597
      refine st hA597 (op_pick_f rfl (hA597.ev rfl) (hA597.ev rfl)) rfl rfl (by decide) fun a599 hA600 => ?_; clear hA597 a596
      refine wl_nil ?_
      refine then_n ?_
      refine c_false hA600 rfl ?_
      refine c_skip ?_
      refine then_n ?_
      refine c_seq ?_
      have hA601 := hA600.as [] rfl; clear hA600
      refine c_region ?_
      refine stw hA601 (op_call rfl en_17 ev0 (awake_ok _)) rfl rfl (by decide) ?_
      rintro a602 _ w604 ⟨rfl, hE605⟩ hA603; have hS606 := hS578.step hE605; clear hE605 hA601 hS578 a599
      refine st hA603 (op_assign rfl (hA603.ev rfl)) rfl rfl (by decide) fun a607 hA608 => ?_; clear hA603 a602
      refine wl_nil ?_
      refine then_n ?_
      refine c_ret ?_
      refine fin_run hA608 (.inl rfl) (run_results1 hA608 rfl (.tmp rfl)) ?_
      exact ⟨rfl, hS606.ext⟩
     ·skip
      rw [decide_eq_false hb522] at hA521
      refine c_false hA521 rfl ?_
      refine c_skip ?_
      refine then_n ?_
      refine c_seq ?_
      have hA609 := hA521.as [] rfl; clear hA521
      refine c_region ?_
      refine stw hA609 (op_call rfl en_17 ev0 (awake_ok _)) rfl rfl (by decide) ?_
      rintro a610 _ w612 ⟨rfl, hE613⟩ hA611; have hS614 := hS450.step hE613; clear hE613 hA609 hS450 a520
      refine st hA611 (op_assign rfl (hA611.ev rfl)) rfl rfl (by decide) fun a615 hA616 => ?_; clear hA611 a610
      refine wl_nil ?_
      refine then_n ?_
      refine c_ret ?_
      refine fin_run hA616 (.inl rfl) (run_results1 hA616 rfl (.tmp rfl)) ?_
      exact ⟨rfl, hS614.ext⟩
    ·skip
     rw [decide_eq_false hb515] at hA514
     refine skp hA514 rfl rfl rfl rfl rfl (by decide) fun a617 hA618 => ?_; clear hA514 a513
     refine skp hA618 rfl rfl rfl rfl rfl (by decide) fun a619 hA620 => ?_; clear hA618 a617
     refine st hA620 (op_pick_f rfl (hA620.ev rfl) (evc _ _)) rfl rfl (by decide) fun a621 hA622 => ?_; clear hA620 a619
     refine wl_nil ?_
     refine then_n ?_
     refine c_false hA622 rfl ?_
     refine c_skip ?_
     refine then_n ?_
     refine c_seq ?_
     have hA623 := hA622.as [] rfl; clear hA622
     refine c_region ?_
     refine stw hA623 (op_call rfl en_17 ev0 (awake_ok _)) rfl rfl (by decide) ?_
     rintro a624 _ w626 ⟨rfl, hE627⟩ hA625; have hS628 := hS450.step hE627; clear hE627 hA623 hS450 a621
     refine st hA625 (op_assign rfl (hA625.ev rfl)) rfl rfl (by decide) fun a629 hA630 => ?_; clear hA625 a624
     refine wl_nil ?_
     refine then_n ?_
     refine c_ret ?_
     refine fin_run hA630 (.inl rfl) (run_results1 hA630 rfl (.tmp rfl)) ?_
     exact ⟨rfl, hS628.ext⟩
  ·skip
   rw [decide_eq_false hb241] at hA240
   refine c_false hA240 rfl ?_
   refine c_skip ?_
   refine then_n ?_
   refine c_seq ?_
   refine c_seq ?_
   have hA631 := hA240.as [(10, (bptr b72 0)), (9, (Value.int .i64 (b : Int))), (4, (bptr b4 0)), (1, vu), (3, (Value.int .u32 s))] rfl; clear hA240
   refine c_region ?_
   refine st hA631 (op_field rfl fd_42_0 (hA631.ev rfl)) rfl rfl (by decide) fun a632 hA633 => ?_; clear hA631 a239
   refine st hA633 (op_load1 rfl ty_3 (hA633.ev rfl) (hS77.bk 0 rfl) rfl) rfl rfl (by decide) fun a634 hA635 => ?_; clear hA633 a632
   refine st hA635 (op_sub rfl (hA635.ev rfl) (evc _ _) (by omega) (by omega)) rfl rfl (by decide) fun a636 hA637 => ?_; clear hA635 a634
   refine st hA637 (op_assign rfl (hA637.ev rfl)) rfl rfl (by decide) fun a638 hA639 => ?_; clear hA637 a636
   refine wl_nil ?_
   refine then_n ?_
   refine c_seq ?_
   refine c_region ?_
   refine st hA639 (op_move rfl (hA639.ev rfl)) rfl rfl (by decide) fun a640 hA641 => ?_; clear hA639 a638
   refine st hA641 (op_geq rfl (hA641.ev rfl) (evc _ _)) rfl rfl (by decide) fun a642 hA643 => ?_; clear hA641 a640
   refine st hA643 (op_move rfl (hA643.ev rfl)) rfl rfl (by decide) fun a644 hA645 => ?_; clear hA643 a642
   by_cases hb646 : 0 ≤ (((lifeR (allowedF R rs) b s).1) - 1)
   ·skip
    rw [decide_eq_true hb646] at hA645
    refine stg hA645 (op_move rfl (hA645.ev rfl)) rfl rfl rfl rfl (by decide) fun a647 hA648 => ?_; clear hA645 a644
    refine stg hA648 (op_leq rfl (hA648.ev rfl) (evc _ _)) rfl rfl rfl rfl (by decide) fun a649 hA650 => ?_; clear hA648 a647
    refine st hA650 (op_pick_t rfl (hA650.ev rfl) (hA650.ev rfl)) rfl rfl (by decide) fun a651 hA652 => ?_; clear hA650 a649
    refine wl_nil ?_
    refine then_n ?_
    by_cases hb653 : (((lifeR (allowedF R rs) b s).1) - 1) ≤ 1000000
    ·skip
     rw [decide_eq_true hb653] at hA652
     refine c_true hA652 rfl ?_
     refine c_seq ?_
     have hA654 := hA652.as [(14, (Value.int .i64 (((lifeR (allowedF R rs) b s).1) - 1))), (9, (Value.int .i64 (b : Int))), (4, (bptr b4 0)), (1, vu), (3, (Value.int .u32 s))] rfl; clear hA652
     refine c_region ?_
     refine st hA654 (op_loadA rfl ty_24 (hA654.ev rfl) (hS77.bk 3 rfl) (l := [vr]) rfl rfl) rfl rfl (by decide) fun a655 hA656 => ?_; clear hA654 a651
     refine stw hA656 (op_call rfl en_19 (ev1 (hA656.ev rfl)) (Material_ok _ R _ (hS77.sk 4 rfl) hth.mat)) rfl rfl (by decide) ?_
     rintro a657 _ w659 ⟨u662, rfl, hT660⟩ hA658; have hS661 := hS77.callS hT660 rfl; clear hT660 hA656 hS77 a655
     refine st hA658 (op_move rfl (hA658.ev rfl)) rfl rfl (by decide) fun a663 hA664 => ?_; clear hA658 a657
     refine stw hA664 (op_call rfl en_20 (ev1 (hA664.ev rfl)) (Runs_ok _ rs _ _ (runs_at (hS661.ok 6 _ rfl)) hth.runs hth.segs)) rfl rfl (by decide) ?_
     rintro a665 v670 w667 ⟨lv671, hT668⟩ hA666; have hS669 := hS661.callS hT668 rfl; clear hT668 hA664 hS661 a663
     refine st hA666 (op_move rfl (hA666.ev rfl)) rfl rfl (by decide) fun a672 hA673 => ?_; clear hA666 a665
     refine st hA673 (op_move rfl (hA673.ev rfl)) rfl rfl (by decide) fun a674 hA675 => ?_; clear hA673 a672
     refine st hA675 (op_move rfl (hA675.ev rfl)) rfl rfl (by decide) fun a676 hA677 => ?_; clear hA675 a674
     refine stw hA677 (op_call rfl en_31 (ev2 (hA677.ev rfl) (hA677.ev rfl)) (between_ok _ _ _)) rfl rfl (by decide) ?_
     rintro a678 _ w680 ⟨rfl, hE681⟩ hA679; have hS682 := hS669.step hE681; clear hE681 hA677 hS669 a676
     refine st hA679 (op_build rfl (pv2 (hA679.ev rfl) (hA679.ev rfl)) (bd_67_0i_1iia _ _ _)) rfl rfl (by decide) fun a683 hA684 => ?_; clear hA679 a678
     refine stw hA684 (op_buildSlice hS682 rfl (pv1 (hA684.ev rfl)) un_58 ty_67 ze_67 (by decide) (cs := [(Value.int .i64 (b : Int)), (Value.int .i64 (((lifeR (allowedF R rs) b s).1) - 1)), (Value.int .i64 (((lifeR (allowedF R rs) b s).1) - 1))]) (bs_67_1_0iiia _ _ _)) rfl rfl (by decide) ?_
     rintro a685 _ w687 ⟨b688, rfl, hS689⟩ hA686; clear hA684 hS682 a683
     refine stw hA686 (op_call rfl en_28 (ev3 (hA686.ev rfl) (hA686.ev rfl) (hA686.ev rfl)) (stretch_fine R rs lv671 u662 v670 _ (SlAt.of_row (hS689.ok_row 2 rfl)) (runs_at (hS689.ok 1 _ rfl)) (by omega) (by omega) ([((b : Int), ((lifeR (allowedF R rs) b s).1) - 1, ((lifeR (allowedF R rs) b s).1) - 1)]) (Value.slice (some ⟨b688, 0, none⟩) 1 1) (SlAt.of_blk (hS689.bk 0 rfl) rfl (Nat.le_of_ble_eq_true rfl)) (by simp) (plan1 hc hb_b (by omega) (by omega)))) rfl rfl (by decide) ?_
     rintro a690 _ w692 ⟨rfl, hE693⟩ hA691; have hS694 := hS689.step hE693; clear hE693 hA686 hS689 a685
     refine st hA691 (op_move rfl (hA691.ev rfl)) rfl rfl (by decide) fun a695 hA696 => ?_; clear hA691 a690
     refine st hA696 (op_extract rfl (hA696.ev rfl) rfl) rfl rfl (by decide) fun a697 hA698 => ?_; clear hA696 a695
     refine st hA698 (op_extract rfl (hA698.ev rfl) rfl) rfl rfl (by decide) fun a699 hA700 => ?_; clear hA698 a697
     refine stw hA700 (op_alloc hS694 rfl ze_42 (cs := [(Value.int .i64 0), (Value.int .i64 0)]) rfl) rfl rfl (by decide) ?_
     rintro a701 _ w703 ⟨b704, rfl, hS705⟩ hA702; clear hA700 hS694 a699
     refine sts hA702 (op_store hS705 rfl ty_42 (hA702.ev rfl) (hA702.ev rfl) (i := 0) rfl (vs := [(Value.int .i64 (stLo ([((b : Int), ((lifeR (allowedF R rs) b s).1) - 1, ((lifeR (allowedF R rs) b s).1) - 1)]) (leastR R rs ([((b : Int), ((lifeR (allowedF R rs) b s).1) - 1, ((lifeR (allowedF R rs) b s).1) - 1)])))), (Value.int .i64 (stHi ([((b : Int), ((lifeR (allowedF R rs) b s).1) - 1, ((lifeR (allowedF R rs) b s).1) - 1)]) (mostR R rs ([((b : Int), ((lifeR (allowedF R rs) b s).1) - 1, ((lifeR (allowedF R rs) b s).1) - 1)]))))]) rfl rfl rfl (Nat.le_of_ble_eq_true rfl)) rfl rfl ?_
     intro _ w706 hS707 hA708; clear hA702
     have hS709 : Sep NoB w w706 [(blk b704 42 [(Value.int .i64 (stLo ([((b : Int), ((lifeR (allowedF R rs) b s).1) - 1, ((lifeR (allowedF R rs) b s).1) - 1)]) (leastR R rs ([((b : Int), ((lifeR (allowedF R rs) b s).1) - 1, ((lifeR (allowedF R rs) b s).1) - 1)])))), (Value.int .i64 (stHi ([((b : Int), ((lifeR (allowedF R rs) b s).1) - 1, ((lifeR (allowedF R rs) b s).1) - 1)]) (mostR R rs ([((b : Int), ((lifeR (allowedF R rs) b s).1) - 1, ((lifeR (allowedF R rs) b s).1) - 1)]))))]), (blk b688 67 [(Value.int .i64 (b : Int)), (Value.int .i64 (((lifeR (allowedF R rs) b s).1) - 1)), (Value.int .i64 (((lifeR (allowedF R rs) b s).1) - 1))]), (runsR true v670 lv671 rs), (row u662 42 2 R.length (pairs R)), (blk b72 42 [(Value.int .i64 ((lifeR (allowedF R rs) b s).1)), (Value.int .i64 ((lifeR (allowedF R rs) b s).2))]), (runsR true v50 lv51 rs), (row u42 42 2 R.length (pairs R)), (blk b4 24 [vr]), (sl vr 2 R.length (pairs R)), (runsR false vu lv rs)] := hS707; clear hS707 hS705
     refine st hA708 (op_assign rfl (hA708.ev rfl)) rfl rfl (by decide) fun a710 hA711 => ?_; clear hA708 a701
     refine wl_nil ?_
     refine then_n ?_
     refine c_seq ?_
     have hA712 := hA711.as [(16, (Value.int .i64 0)), (15, (bptr b704 0)), (3, (Value.int .u32 s))] rfl; clear hA711
     refine c_region ?_
     refine st hA712 (op_move rfl (hA712.ev rfl)) rfl rfl (by decide) fun a713 hA714 => ?_; clear hA712 a710
     refine st hA714 (op_neq rfl (hA714.ev rfl) (evc _ _)) rfl rfl (by decide) fun a715 hA716 => ?_; clear hA714 a713
     refine st hA716 (op_move rfl (hA716.ev rfl)) rfl rfl (by decide) fun a717 hA718 => ?_; clear hA716 a715
     refine stg hA718 (op_field rfl fd_42_1 (hA718.ev rfl)) rfl rfl rfl rfl (by decide) fun a719 hA720 => ?_; clear hA718 a717
     refine stg hA720 (op_load1 rfl ty_3 (hA720.ev rfl) (hS709.bk 0 rfl) rfl) rfl rfl rfl rfl (by decide) fun a721 hA722 => ?_; clear hA720 a719
     refine stg hA722 (op_move rfl (hA722.ev rfl)) rfl rfl rfl rfl (by decide) fun a723 hA724 => ?_; clear hA722 a721
     refine stg hA724 (op_conv un_61 un_3 rfl (hA724.ev rfl) (v := s) (wrap_i64 (by omega) (by omega))) rfl rfl rfl rfl (by decide) fun a725 hA726 => ?_; clear hA724 a723
     refine stg hA726 (op_geq rfl (hA726.ev rfl) (hA726.ev rfl)) rfl rfl rfl rfl (by decide) fun a727 hA728 => ?_; clear hA726 a725
     have hd729 : ¬ (s ≤ (stHi ([((b : Int), ((lifeR (allowedF R rs) b s).1) - 1, ((lifeR (allowedF R rs) b s).1) - 1)]) (mostR R rs ([((b : Int), ((lifeR (allowedF R rs) b s).1) - 1, ((lifeR (allowedF R rs) b s).1) - 1)])))) := (by have hz_ := life_lo (rs := rs) (b := b) hR hal hS_ (by omega); omega)
     rw [decide_eq_false hd729] at hA728
     refine st hA728 (op_pick_f rfl (hA728.ev rfl) (hA728.ev rfl)) rfl rfl (by decide) fun a730 hA731 => ?_; clear hA728 a727
     refine wl_nil ?_
     refine then_n ?_
     refine c_false hA731 rfl ?_
     refine c_skip ?_
     refine then_n ?_
     refine c_seq ?_
     have hA732 := hA731.as [] rfl; clear hA731
     refine c_region ?_
     refine stw hA732 (op_call rfl en_17 ev0 (awake_ok _)) rfl rfl (by decide) ?_
     rintro a733 _ w735 ⟨rfl, hE736⟩ hA734; have hS737 := hS709.step hE736; clear hE736 hA732 hS709 a730
     refine st hA734 (op_assign rfl (hA734.ev rfl)) rfl rfl (by decide) fun a738 hA739 => ?_; clear hA734 a733
     refine wl_nil ?_
     refine then_n ?_
     refine c_ret ?_
     refine fin_run hA739 (.inl rfl) (run_results1 hA739 rfl (.tmp rfl)) ?_
     exact ⟨rfl, hS737.ext⟩
    ·skip
     rw [decide_eq_false hb653] at hA652
     refine c_false hA652 rfl ?_
     refine c_skip ?_
     refine then_n ?_
     refine c_seq ?_
     have hA740 := hA652.as [] rfl; clear hA652
     refine c_region ?_
     refine stw hA740 (op_call rfl en_17 ev0 (awake_ok _)) rfl rfl (by decide) ?_
     rintro a741 _ w743 ⟨rfl, hE744⟩ hA742; have hS745 := hS77.step hE744; clear hE744 hA740 hS77 a651
     refine st hA742 (op_assign rfl (hA742.ev rfl)) rfl rfl (by decide) fun a746 hA747 => ?_; clear hA742 a741
     refine wl_nil ?_
     refine then_n ?_
     refine c_ret ?_
     refine fin_run hA747 (.inl rfl) (run_results1 hA747 rfl (.tmp rfl)) ?_
     exact ⟨rfl, hS745.ext⟩
   ·skip
    rw [decide_eq_false hb646] at hA645
    refine skp hA645 rfl rfl rfl rfl rfl (by decide) fun a748 hA749 => ?_; clear hA645 a644
    refine skp hA749 rfl rfl rfl rfl rfl (by decide) fun a750 hA751 => ?_; clear hA749 a748
    refine st hA751 (op_pick_f rfl (hA751.ev rfl) (evc _ _)) rfl rfl (by decide) fun a752 hA753 => ?_; clear hA751 a750
    refine wl_nil ?_
    refine then_n ?_
    refine c_false hA753 rfl ?_
    refine c_skip ?_
    refine then_n ?_
    refine c_seq ?_
    have hA754 := hA753.as [] rfl; clear hA753
    refine c_region ?_
    refine stw hA754 (op_call rfl en_17 ev0 (awake_ok _)) rfl rfl (by decide) ?_
    rintro a755 _ w757 ⟨rfl, hE758⟩ hA756; have hS759 := hS77.step hE758; clear hE758 hA754 hS77 a752
    refine st hA756 (op_assign rfl (hA756.ev rfl)) rfl rfl (by decide) fun a760 hA761 => ?_; clear hA756 a755
    refine wl_nil ?_
    refine then_n ?_
    refine c_ret ?_
    refine fin_run hA761 (.inl rfl) (run_results1 hA761 rfl (.tmp rfl)) ?_
    exact ⟨rfl, hS759.ext⟩
theorem CreepLife_ok (w : World) (R : List (Int × Int)) (vr : Value) (hm : SlAt w vr 2 R.length (pairs R)) (rs : List RunD) (lv : List Value) (vu : Value) (hx : RunsAt w vu lv rs) (bd : Int) (hB : 0 ≤ bd ∧ bd ≤ 255) (s : Int) (hS_ : 0 ≤ s ∧ s ≤ 4294967295) : Calls Try.prog 8 #[.agg #[vr], vu, .int .u8 bd, .int .u32 s] w (Ret fun v w' => v = .bool true ∧ Ext NoB w w') := by
 rcases Bool.eq_false_or_eq_true (readyB R rs []) with hf | hf
 ·rcases poss_09 (ready_is hf).2.1 with hc | hc
  ·exact CreepLife_c w R vr hm rs lv vu hx bd s hB hS_ hf hc
  ·exact CreepLife_b w R vr hm rs lv vu hx bd s hB hS_ hf hc
 ·exact CreepLife_a w R vr hm rs lv vu hx bd s hB hS_ hf
end Go.Proofs.Ytkkglkdnnfegkaa
