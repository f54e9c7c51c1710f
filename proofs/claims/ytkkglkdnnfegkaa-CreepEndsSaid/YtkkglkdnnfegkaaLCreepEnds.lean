/-
  Walks through the functions of the seat, printed by a program of ours (gowalk), a theorem a function: what the call returns and what it leaves in memory.
-/
import Derived.Test.YtkkglkdnnfegkaaBd
import Derived.Test.YtkkglkdnnfegkaaBe
set_option linter.unusedSimpArgs false
set_option linter.unusedVariables false
namespace Go.Proofs.Ytkkglkdnnfegkaa
open Go.RowKit Go.Shelf Go.Eng
set_option maxHeartbeats 4000000 in
theorem CreepEnds_a (w : World) (R : List (Int × Int)) (vr : Value) (hm : SlAt w vr 2 R.length (pairs R)) (rs : List RunD) (lv : List Value) (vu : Value) (hx : RunsAt w vu lv rs) (plan : List Seg) (vp : Value) (hp : SlAt w vp 3 plan.length (trips plan)) (hf : readyB R rs plan = false) :
  Calls Try.prog 11 #[(Value.agg #[vr]), vu, vp] w (Ret fun v w' => v = .bool true ∧ Ext NoB w w') := by
 refine calls_enter Try.func11 rfl fun a0 hA0 => ?_
 replace hA0 : Fr 131 [] [(0, (Value.agg #[vr])), (1, vu), (2, vp)] a0 := hA0
 have hS0 : Sep NoB w w [(sl vr 2 R.length (pairs R)), (runsR false vu lv rs), (sl vp 3 plan.length (trips plan))] := sep_ro ⟨rfl, hm, rfl, hx, rfl, hp, trivial⟩
 refine c_seq ?_
 refine c_region ?_
 refine stw hA0 (op_box hS0 rfl (hA0.ev rfl) (cs := [vr]) rfl) rfl rfl (by decide) ?_
 rintro a1 _ w3 ⟨b4, rfl, hS5⟩ hA2; clear hA0 hS0 a0
 refine st hA2 (op_assign rfl (evc _ _)) rfl rfl (by decide) fun a6 hA7 => ?_; clear hA2 a1
 refine wl_nil ?_
 refine then_n ?_
 refine c_seq ?_
 refine c_seq ?_
 refine c_region ?_
 refine st hA7 (op_loadA rfl ty_24 (hA7.ev rfl) (hS5.bk 0 rfl) (l := [vr]) rfl rfl) rfl rfl (by decide) fun a8 hA9 => ?_; clear hA7 a6
 refine st hA9 (op_move rfl (hA9.ev rfl)) rfl rfl (by decide) fun a10 hA11 => ?_; clear hA9 a8
 refine st hA11 (op_move rfl (hA11.ev rfl)) rfl rfl (by decide) fun a12 hA13 => ?_; clear hA11 a10
 refine stw hA13 (op_call rfl en_27 (ev3 (hA13.ev rfl) (hA13.ev rfl) (hA13.ev rfl)) (ready_ok _ R _ (hS5.sk 1 rfl) rs _ _ (runs_at (hS5.ok 2 _ rfl)) plan _ (hS5.sk 3 rfl))) rfl rfl (by decide) ?_
 rintro a14 _ w16 ⟨rfl, hE17⟩ hA15; have hS18 := hS5.step hE17; clear hE17 hA13 hS5 a12
 rw [hf] at hA15
 refine st hA15 (op_not rfl (hA15.ev rfl)) rfl rfl (by decide) fun a19 hA20 => ?_; clear hA15 a14
 refine wl_nil ?_
 refine then_n ?_
 refine c_true hA20 rfl ?_
 refine c_seq ?_
 have hA21 := hA20.as [] rfl; clear hA20
 refine c_region ?_
 refine stw hA21 (op_call rfl en_17 ev0 (awake_ok _)) rfl rfl (by decide) ?_
 rintro a22 _ w24 ⟨rfl, hE25⟩ hA23; have hS26 := hS18.step hE25; clear hE25 hA21 hS18 a19
 refine st hA23 (op_assign rfl (hA23.ev rfl)) rfl rfl (by decide) fun a27 hA28 => ?_; clear hA23 a22
 refine wl_nil ?_
 refine then_n ?_
 refine c_ret ?_
 refine then_ret ?_
 refine fin_run hA28 (.inl rfl) (run_results1 hA28 rfl (.tmp rfl)) ?_
 exact ⟨rfl, hS26.ext⟩
set_option maxHeartbeats 4000000 in
theorem CreepEnds_b (w : World) (R : List (Int × Int)) (vr : Value) (hm : SlAt w vr 2 R.length (pairs R)) (rs : List RunD) (lv : List Value) (vu : Value) (hx : RunsAt w vu lv rs) (plan : List Seg) (vp : Value) (hp : SlAt w vp 3 plan.length (trips plan)) (hf : readyB R rs plan = true) (hc : possF R rs = 9) :
  Calls Try.prog 11 #[(Value.agg #[vr]), vu, vp] w (Ret fun v w' => v = .bool true ∧ Ext NoB w w') := by
 refine calls_enter Try.func11 rfl fun a0 hA0 => ?_
 replace hA0 : Fr 131 [] [(0, (Value.agg #[vr])), (1, vu), (2, vp)] a0 := hA0
 have hrd := ready_is hf; have hth := hrd.1; have he := hrd.2.1; have h6 := hth.mat; have h9 := hth.runs; have h12 := hth.plan; have hp8 := hrd.2.2.1; have hsb := hrd.2.2.2; have hcm := check_mat (enter_mat he); have hR := hcm.1; have hR1 := hcm.2.1; have hR3 := hR.1; have hV := enter_runs he; have hs : ∀ i, i < plan.length → SegV R.length (plan.getD i (0, 0, 0)) := fun i hi => segV_of (List.all_eq_true.1 hsb i (List.mem_range.2 hi)); have hrt := ratesF_len R rs; have hle := allowed_le (rs := rs) hR; have hle_ : planF R rs plan = 9 := (plan_p (by rw [hc]; decide)).trans hc; have hlz : planF R rs plan ≠ 0 := by rw [hle_]; decide
 have hS0 : Sep NoB w w [(sl vr 2 R.length (pairs R)), (runsR false vu lv rs), (sl vp 3 plan.length (trips plan))] := sep_ro ⟨rfl, hm, rfl, hx, rfl, hp, trivial⟩
 refine c_seq ?_
 refine c_region ?_
 refine stw hA0 (op_box hS0 rfl (hA0.ev rfl) (cs := [vr]) rfl) rfl rfl (by decide) ?_
 rintro a1 _ w3 ⟨b4, rfl, hS5⟩ hA2; clear hA0 hS0 a0
 refine st hA2 (op_assign rfl (evc _ _)) rfl rfl (by decide) fun a6 hA7 => ?_; clear hA2 a1
 refine wl_nil ?_
 refine then_n ?_
 refine c_seq ?_
 refine c_seq ?_
 refine c_region ?_
 refine st hA7 (op_loadA rfl ty_24 (hA7.ev rfl) (hS5.bk 0 rfl) (l := [vr]) rfl rfl) rfl rfl (by decide) fun a8 hA9 => ?_; clear hA7 a6
 refine st hA9 (op_move rfl (hA9.ev rfl)) rfl rfl (by decide) fun a10 hA11 => ?_; clear hA9 a8
 refine st hA11 (op_move rfl (hA11.ev rfl)) rfl rfl (by decide) fun a12 hA13 => ?_; clear hA11 a10
 refine stw hA13 (op_call rfl en_27 (ev3 (hA13.ev rfl) (hA13.ev rfl) (hA13.ev rfl)) (ready_ok _ R _ (hS5.sk 1 rfl) rs _ _ (runs_at (hS5.ok 2 _ rfl)) plan _ (hS5.sk 3 rfl))) rfl rfl (by decide) ?_
 rintro a14 _ w16 ⟨rfl, hE17⟩ hA15; have hS18 := hS5.step hE17; clear hE17 hA13 hS5 a12
 rw [hf] at hA15
 refine st hA15 (op_not rfl (hA15.ev rfl)) rfl rfl (by decide) fun a19 hA20 => ?_; clear hA15 a14
 refine wl_nil ?_
 refine then_n ?_
 refine c_false hA20 rfl ?_
 refine c_skip ?_
 refine then_n ?_
 refine c_seq ?_
 have hA21 := hA20.as [(3, (bptr b4 0)), (1, vu), (2, vp)] rfl; clear hA20
 refine c_region ?_
 refine st hA21 (op_loadA rfl ty_24 (hA21.ev rfl) (hS18.bk 0 rfl) (l := [vr]) rfl rfl) rfl rfl (by decide) fun a22 hA23 => ?_; clear hA21 a19
 refine stw hA23 (op_call rfl en_19 (ev1 (hA23.ev rfl)) (Material_ok _ R _ (hS18.sk 1 rfl) hth.mat)) rfl rfl (by decide) ?_
 rintro a24 _ w26 ⟨u29, rfl, hT27⟩ hA25; have hS28 := hS18.callS hT27 rfl; clear hT27 hA23 hS18 a22
 refine st hA25 (op_move rfl (hA25.ev rfl)) rfl rfl (by decide) fun a30 hA31 => ?_; clear hA25 a24
 refine stw hA31 (op_call rfl en_20 (ev1 (hA31.ev rfl)) (Runs_ok _ rs _ _ (runs_at (hS28.ok 3 _ rfl)) hth.runs hth.segs)) rfl rfl (by decide) ?_
 rintro a32 v37 w34 ⟨lv38, hT35⟩ hA33; have hS36 := hS28.callS hT35 rfl; clear hT35 hA31 hS28 a30
 refine st hA33 (op_move rfl (hA33.ev rfl)) rfl rfl (by decide) fun a39 hA40 => ?_; clear hA33 a32
 refine stw hA40 (op_call rfl en_29 (ev1 (hA40.ev rfl)) (Plan_ok _ plan _ (hS36.sk 5 rfl) (by omega))) rfl rfl (by decide) ?_
 rintro a41 v47 w43 ⟨hE44, hO45⟩ hA42; have hS46 := hS36.new_row hE44 hO45; clear hE44 hO45 hA40 hS36 a39
 refine stw hA42 (op_call rfl en_28 (ev3 (hA42.ev rfl) (hA42.ev rfl) (hA42.ev rfl)) (stretch_bad R rs lv38 u29 v37 _ (SlAt.of_row (hS46.ok_row 2 rfl)) (runs_at (hS46.ok 1 _ rfl)) (by omega) (by omega) plan v47 (SlAt.of_row (hS46.ok_row 0 rfl)) (by omega) hlz)) rfl rfl (by decide) ?_
 rintro a48 _ w50 ⟨rfl, hE51⟩ hA49; have hS52 := hS46.step hE51; clear hE51 hA42 hS46 a41
 refine st hA49 (op_move rfl (hA49.ev rfl)) rfl rfl (by decide) fun a53 hA54 => ?_; clear hA49 a48
 refine st hA54 (op_extract rfl (hA54.ev rfl) rfl) rfl rfl (by decide) fun a55 hA56 => ?_; clear hA54 a53
 refine st hA56 (op_extract rfl (hA56.ev rfl) rfl) rfl rfl (by decide) fun a57 hA58 => ?_; clear hA56 a55
 refine stw hA58 (op_alloc hS52 rfl ze_42 (cs := [(Value.int .i64 0), (Value.int .i64 0)]) rfl) rfl rfl (by decide) ?_
 rintro a59 _ w61 ⟨b62, rfl, hS63⟩ hA60; clear hA58 hS52 a57
 refine sts hA60 (op_store hS63 rfl ty_42 (hA60.ev rfl) (hA60.ev rfl) (i := 0) rfl (vs := [(Value.int .i64 0), (Value.int .i64 0)]) rfl rfl rfl (Nat.le_of_ble_eq_true rfl)) rfl rfl ?_
 intro _ w64 hS65 hA66; clear hA60
 have hS67 : Sep NoB w w64 [(blk b62 42 [(Value.int .i64 0), (Value.int .i64 0)]), (row v47 67 3 plan.length (trips plan)), (runsR true v37 lv38 rs), (row u29 42 2 R.length (pairs R)), (blk b4 24 [vr]), (sl vr 2 R.length (pairs R)), (runsR false vu lv rs), (sl vp 3 plan.length (trips plan))] := hS65; clear hS65 hS63
 refine st hA66 (op_assign rfl (hA66.ev rfl)) rfl rfl (by decide) fun a68 hA69 => ?_; clear hA66 a59
 refine wl_nil ?_
 refine then_n ?_
 refine c_seq ?_
 have hA70 := hA69.as [(8, (Value.int .i64 (planF R rs plan))), (7, (bptr b62 0)), (3, (bptr b4 0)), (1, vu), (2, vp)] rfl; clear hA69
 refine c_region ?_
 refine st hA70 (op_loadA rfl ty_24 (hA70.ev rfl) (hS67.bk 4 rfl) (l := [vr]) rfl rfl) rfl rfl (by decide) fun a71 hA72 => ?_; clear hA70 a68
 refine stw hA72 (op_call rfl en_19 (ev1 (hA72.ev rfl)) (Material_ok _ R _ (hS67.sk 5 rfl) hth.mat)) rfl rfl (by decide) ?_
 rintro a73 _ w75 ⟨u78, rfl, hT76⟩ hA74; have hS77 := hS67.callS hT76 rfl; clear hT76 hA72 hS67 a71
 refine st hA74 (op_move rfl (hA74.ev rfl)) rfl rfl (by decide) fun a79 hA80 => ?_; clear hA74 a73
 refine stw hA80 (op_call rfl en_20 (ev1 (hA80.ev rfl)) (Runs_ok _ rs _ _ (runs_at (hS77.ok 7 _ rfl)) hth.runs hth.segs)) rfl rfl (by decide) ?_
 rintro a81 v86 w83 ⟨lv87, hT84⟩ hA82; have hS85 := hS77.callS hT84 rfl; clear hT84 hA80 hS77 a79
 refine st hA82 (op_move rfl (hA82.ev rfl)) rfl rfl (by decide) fun a88 hA89 => ?_; clear hA82 a81
 refine stw hA89 (op_call rfl en_29 (ev1 (hA89.ev rfl)) (Plan_ok _ plan _ (hS85.sk 9 rfl) (by omega))) rfl rfl (by decide) ?_
 rintro a90 v96 w92 ⟨hE93, hO94⟩ hA91; have hS95 := hS85.new_row hE93 hO94; clear hE93 hO94 hA89 hS85 a88
 refine stw hA91 (op_call rfl en_32 (ev4 (hA91.ev rfl) (hA91.ev rfl) (hA91.ev rfl) (evc _ _)) (shows_bad R rs lv87 u78 v86 _ (SlAt.of_row (hS95.ok_row 2 rfl)) (runs_at (hS95.ok 1 _ rfl)) (by omega) (by omega) plan v96 (SlAt.of_row (hS95.ok_row 0 rfl)) (by omega) false hlz)) rfl rfl (by decide) ?_
 rintro a97 _ w99 ⟨rfl, hE100⟩ hA98; have hS101 := hS95.step hE100; clear hE100 hA91 hS95 a90
 refine st hA98 (op_move rfl (hA98.ev rfl)) rfl rfl (by decide) fun a102 hA103 => ?_; clear hA98 a97
 refine st hA103 (op_extract rfl (hA103.ev rfl) rfl) rfl rfl (by decide) fun a104 hA105 => ?_; clear hA103 a102
 refine st hA105 (op_extract rfl (hA105.ev rfl) rfl) rfl rfl (by decide) fun a106 hA107 => ?_; clear hA105 a104
 refine st hA107 (op_assign rfl (hA107.ev rfl)) rfl rfl (by decide) fun a108 hA109 => ?_; clear hA107 a106
 refine st hA109 (op_assign rfl (hA109.ev rfl)) rfl rfl (by decide) fun a110 hA111 => ?_; clear hA109 a108
 refine wl_nil ?_
 refine then_n ?_
 refine c_seq ?_
 have hA112 := hA111.as [(10, (Value.int .i64 (planF R rs plan))), (9, (Value.slice none 0 0)), (8, (Value.int .i64 (planF R rs plan))), (7, (bptr b62 0)), (3, (bptr b4 0)), (1, vu), (2, vp)] rfl; clear hA111
 refine c_region ?_
 refine st hA112 (op_loadA rfl ty_24 (hA112.ev rfl) (hS101.bk 7 rfl) (l := [vr]) rfl rfl) rfl rfl (by decide) fun a113 hA114 => ?_; clear hA112 a110
 refine stw hA114 (op_call rfl en_19 (ev1 (hA114.ev rfl)) (Material_ok _ R _ (hS101.sk 8 rfl) hth.mat)) rfl rfl (by decide) ?_
 rintro a115 _ w117 ⟨u120, rfl, hT118⟩ hA116; have hS119 := hS101.callS hT118 rfl; clear hT118 hA114 hS101 a113
 refine st hA116 (op_move rfl (hA116.ev rfl)) rfl rfl (by decide) fun a121 hA122 => ?_; clear hA116 a115
 refine stw hA122 (op_call rfl en_20 (ev1 (hA122.ev rfl)) (Runs_ok _ rs _ _ (runs_at (hS119.ok 10 _ rfl)) hth.runs hth.segs)) rfl rfl (by decide) ?_
 rintro a123 v128 w125 ⟨lv129, hT126⟩ hA124; have hS127 := hS119.callS hT126 rfl; clear hT126 hA122 hS119 a121
 refine st hA124 (op_move rfl (hA124.ev rfl)) rfl rfl (by decide) fun a130 hA131 => ?_; clear hA124 a123
 refine stw hA131 (op_call rfl en_29 (ev1 (hA131.ev rfl)) (Plan_ok _ plan _ (hS127.sk 12 rfl) (by omega))) rfl rfl (by decide) ?_
 rintro a132 v138 w134 ⟨hE135, hO136⟩ hA133; have hS137 := hS127.new_row hE135 hO136; clear hE135 hO136 hA131 hS127 a130
 refine stw hA133 (op_call rfl en_32 (ev4 (hA133.ev rfl) (hA133.ev rfl) (hA133.ev rfl) (evc _ _)) (shows_bad R rs lv129 u120 v128 _ (SlAt.of_row (hS137.ok_row 2 rfl)) (runs_at (hS137.ok 1 _ rfl)) (by omega) (by omega) plan v138 (SlAt.of_row (hS137.ok_row 0 rfl)) (by omega) true hlz)) rfl rfl (by decide) ?_
 rintro a139 _ w141 ⟨rfl, hE142⟩ hA140; have hS143 := hS137.step hE142; clear hE142 hA133 hS137 a132
 refine st hA140 (op_move rfl (hA140.ev rfl)) rfl rfl (by decide) fun a144 hA145 => ?_; clear hA140 a139
 refine st hA145 (op_extract rfl (hA145.ev rfl) rfl) rfl rfl (by decide) fun a146 hA147 => ?_; clear hA145 a144
 refine st hA147 (op_extract rfl (hA147.ev rfl) rfl) rfl rfl (by decide) fun a148 hA149 => ?_; clear hA147 a146
 refine st hA149 (op_assign rfl (hA149.ev rfl)) rfl rfl (by decide) fun a150 hA151 => ?_; clear hA149 a148
 refine st hA151 (op_assign rfl (hA151.ev rfl)) rfl rfl (by decide) fun a152 hA153 => ?_; clear hA151 a150
 refine wl_nil ?_
 refine then_n ?_
 refine c_seq ?_
 refine c_seq ?_
 have hA154 := hA153.as [(12, (Value.int .i64 (planF R rs plan))), (11, (Value.slice none 0 0)), (10, (Value.int .i64 (planF R rs plan))), (9, (Value.slice none 0 0)), (8, (Value.int .i64 (planF R rs plan))), (7, (bptr b62 0)), (3, (bptr b4 0)), (1, vu), (2, vp)] rfl; clear hA153
 refine c_region ?_
 refine st hA154 (op_move rfl (hA154.ev rfl)) rfl rfl (by decide) fun a155 hA156 => ?_; clear hA154 a152
 refine st hA156 (op_neq rfl (hA156.ev rfl) (evc _ _)) rfl rfl (by decide) fun a157 hA158 => ?_; clear hA156 a155
 have hd159 : ¬ ((planF R rs plan) = 0) := hlz
 rw [decide_eq_false hd159] at hA158
 refine wl_nil ?_
 refine then_n ?_
 refine c_true hA158 rfl ?_
 refine c_seq ?_
 have hA160 := hA158.as [(12, (Value.int .i64 (planF R rs plan))), (10, (Value.int .i64 (planF R rs plan))), (8, (Value.int .i64 (planF R rs plan)))] rfl; clear hA158
 refine c_region ?_
 refine st hA160 (op_move rfl (hA160.ev rfl)) rfl rfl (by decide) fun a161 hA162 => ?_; clear hA160 a157
 refine st hA162 (op_eql rfl (hA162.ev rfl) (evc _ _)) rfl rfl (by decide) fun a163 hA164 => ?_; clear hA162 a161
 have hd165 : (planF R rs plan) = 9 := hle_
 rw [decide_eq_true hd165] at hA164
 refine st hA164 (op_move rfl (hA164.ev rfl)) rfl rfl (by decide) fun a166 hA167 => ?_; clear hA164 a163
 refine stg hA167 (op_move rfl (hA167.ev rfl)) rfl rfl rfl rfl (by decide) fun a168 hA169 => ?_; clear hA167 a166
 refine stg hA169 (op_move rfl (hA169.ev rfl)) rfl rfl rfl rfl (by decide) fun a170 hA171 => ?_; clear hA169 a168
 refine stg hA171 (op_eql rfl (hA171.ev rfl) (hA171.ev rfl)) rfl rfl rfl rfl (by decide) fun a172 hA173 => ?_; clear hA171 a170
 have hd174 : (planF R rs plan) = (planF R rs plan) := rfl
 rw [decide_eq_true hd174] at hA173
 refine st hA173 (op_pick_t rfl (hA173.ev rfl) (hA173.ev rfl)) rfl rfl (by decide) fun a175 hA176 => ?_; clear hA173 a172
 refine st hA176 (op_move rfl (hA176.ev rfl)) rfl rfl (by decide) fun a177 hA178 => ?_; clear hA176 a175
 refine stg hA178 (op_move rfl (hA178.ev rfl)) rfl rfl rfl rfl (by decide) fun a179 hA180 => ?_; clear hA178 a177
 refine stg hA180 (op_move rfl (hA180.ev rfl)) rfl rfl rfl rfl (by decide) fun a181 hA182 => ?_; clear hA180 a179
 refine stg hA182 (op_eql rfl (hA182.ev rfl) (hA182.ev rfl)) rfl rfl rfl rfl (by decide) fun a183 hA184 => ?_; clear hA182 a181
 rw [decide_eq_true hd174] at hA184
 refine st hA184 (op_pick_t rfl (hA184.ev rfl) (hA184.ev rfl)) rfl rfl (by decide) fun a185 hA186 => ?_; clear hA184 a183
 refine st hA186 (op_move rfl (hA186.ev rfl)) rfl rfl (by decide) fun a187 hA188 => ?_; clear hA186 a185
 refine stwg hA188 (op_call rfl en_17 ev0 (awake_ok _)) rfl rfl rfl rfl (by decide) ?_
 rintro a189 _ w191 ⟨rfl, hE192⟩ hA190; have hS193 := hS143.step hE192; clear hE192 hA188 hS143 a187
 refine st hA190 (op_pick_t rfl (hA190.ev rfl) (hA190.ev rfl)) rfl rfl (by decide) fun a194 hA195 => ?_; clear hA190 a189
 refine st hA195 (op_assign rfl (hA195.ev rfl)) rfl rfl (by decide) fun a196 hA197 => ?_; clear hA195 a194
 refine wl_nil ?_
 refine then_n ?_
 refine c_ret ?_
 refine then_ret ?_
 refine fin_run hA197 (.inl rfl) (run_results1 hA197 rfl (.tmp rfl)) ?_
 exact ⟨rfl, hS193.ext⟩
set_option maxHeartbeats 4000000 in
theorem CreepEnds_c (w : World) (R : List (Int × Int)) (vr : Value) (hm : SlAt w vr 2 R.length (pairs R)) (rs : List RunD) (lv : List Value) (vu : Value) (hx : RunsAt w vu lv rs) (plan : List Seg) (vp : Value) (hp : SlAt w vp 3 plan.length (trips plan)) (hf : readyB R rs plan = true) (hc : possF R rs = 0) :
  Calls Try.prog 11 #[(Value.agg #[vr]), vu, vp] w (Ret fun v w' => v = .bool true ∧ Ext NoB w w') := by
 refine calls_enter Try.func11 rfl fun a0 hA0 => ?_
 replace hA0 : Fr 131 [] [(0, (Value.agg #[vr])), (1, vu), (2, vp)] a0 := hA0
 have hrd := ready_is hf; have hth := hrd.1; have he := hrd.2.1; have h6 := hth.mat; have h9 := hth.runs; have h12 := hth.plan; have hp8 := hrd.2.2.1; have hsb := hrd.2.2.2; have hcm := check_mat (enter_mat he); have hR := hcm.1; have hR1 := hcm.2.1; have hR3 := hR.1; have hV := enter_runs he; have hs : ∀ i, i < plan.length → SegV R.length (plan.getD i (0, 0, 0)) := fun i hi => segV_of (List.all_eq_true.1 hsb i (List.mem_range.2 hi)); have hrt := ratesF_len R rs; have hle := allowed_le (rs := rs) hR; have hc0 : planF R rs plan = 0 := plan_0 hc hp8 hsb; have hal := (poss_is hc).2; have hshl0 := (areB_is (show_are hR hV hal plan false).1).1; have hshl1 := (areB_is (show_are hR hV hal plan true).1).1
 have hS0 : Sep NoB w w [(sl vr 2 R.length (pairs R)), (runsR false vu lv rs), (sl vp 3 plan.length (trips plan))] := sep_ro ⟨rfl, hm, rfl, hx, rfl, hp, trivial⟩
 refine c_seq ?_
 refine c_region ?_
 refine stw hA0 (op_box hS0 rfl (hA0.ev rfl) (cs := [vr]) rfl) rfl rfl (by decide) ?_
 rintro a1 _ w3 ⟨b4, rfl, hS5⟩ hA2; clear hA0 hS0 a0
 refine st hA2 (op_assign rfl (evc _ _)) rfl rfl (by decide) fun a6 hA7 => ?_; clear hA2 a1
 refine wl_nil ?_
 refine then_n ?_
 refine c_seq ?_
 refine c_seq ?_
 refine c_region ?_
 refine st hA7 (op_loadA rfl ty_24 (hA7.ev rfl) (hS5.bk 0 rfl) (l := [vr]) rfl rfl) rfl rfl (by decide) fun a8 hA9 => ?_; clear hA7 a6
 refine st hA9 (op_move rfl (hA9.ev rfl)) rfl rfl (by decide) fun a10 hA11 => ?_; clear hA9 a8
 refine st hA11 (op_move rfl (hA11.ev rfl)) rfl rfl (by decide) fun a12 hA13 => ?_; clear hA11 a10
 refine stw hA13 (op_call rfl en_27 (ev3 (hA13.ev rfl) (hA13.ev rfl) (hA13.ev rfl)) (ready_ok _ R _ (hS5.sk 1 rfl) rs _ _ (runs_at (hS5.ok 2 _ rfl)) plan _ (hS5.sk 3 rfl))) rfl rfl (by decide) ?_
 rintro a14 _ w16 ⟨rfl, hE17⟩ hA15; have hS18 := hS5.step hE17; clear hE17 hA13 hS5 a12
 rw [hf] at hA15
 refine st hA15 (op_not rfl (hA15.ev rfl)) rfl rfl (by decide) fun a19 hA20 => ?_; clear hA15 a14
 refine wl_nil ?_
 refine then_n ?_
 refine c_false hA20 rfl ?_
 refine c_skip ?_
 refine then_n ?_
 refine c_seq ?_
 have hA21 := hA20.as [(3, (bptr b4 0)), (1, vu), (2, vp)] rfl; clear hA20
 refine c_region ?_
 refine st hA21 (op_loadA rfl ty_24 (hA21.ev rfl) (hS18.bk 0 rfl) (l := [vr]) rfl rfl) rfl rfl (by decide) fun a22 hA23 => ?_; clear hA21 a19
 refine stw hA23 (op_call rfl en_19 (ev1 (hA23.ev rfl)) (Material_ok _ R _ (hS18.sk 1 rfl) hth.mat)) rfl rfl (by decide) ?_
 rintro a24 _ w26 ⟨u29, rfl, hT27⟩ hA25; have hS28 := hS18.callS hT27 rfl; clear hT27 hA23 hS18 a22
 refine st hA25 (op_move rfl (hA25.ev rfl)) rfl rfl (by decide) fun a30 hA31 => ?_; clear hA25 a24
 refine stw hA31 (op_call rfl en_20 (ev1 (hA31.ev rfl)) (Runs_ok _ rs _ _ (runs_at (hS28.ok 3 _ rfl)) hth.runs hth.segs)) rfl rfl (by decide) ?_
 rintro a32 v37 w34 ⟨lv38, hT35⟩ hA33; have hS36 := hS28.callS hT35 rfl; clear hT35 hA31 hS28 a30
 refine st hA33 (op_move rfl (hA33.ev rfl)) rfl rfl (by decide) fun a39 hA40 => ?_; clear hA33 a32
 refine stw hA40 (op_call rfl en_29 (ev1 (hA40.ev rfl)) (Plan_ok _ plan _ (hS36.sk 5 rfl) (by omega))) rfl rfl (by decide) ?_
 rintro a41 v47 w43 ⟨hE44, hO45⟩ hA42; have hS46 := hS36.new_row hE44 hO45; clear hE44 hO45 hA40 hS36 a39
 refine stw hA42 (op_call rfl en_28 (ev3 (hA42.ev rfl) (hA42.ev rfl) (hA42.ev rfl)) (stretch_fine R rs lv38 u29 v37 _ (SlAt.of_row (hS46.ok_row 2 rfl)) (runs_at (hS46.ok 1 _ rfl)) (by omega) (by omega) plan v47 (SlAt.of_row (hS46.ok_row 0 rfl)) (by omega) hc0)) rfl rfl (by decide) ?_
 rintro a48 _ w50 ⟨rfl, hE51⟩ hA49; have hS52 := hS46.step hE51; clear hE51 hA42 hS46 a41
 refine st hA49 (op_move rfl (hA49.ev rfl)) rfl rfl (by decide) fun a53 hA54 => ?_; clear hA49 a48
 refine st hA54 (op_extract rfl (hA54.ev rfl) rfl) rfl rfl (by decide) fun a55 hA56 => ?_; clear hA54 a53
 refine st hA56 (op_extract rfl (hA56.ev rfl) rfl) rfl rfl (by decide) fun a57 hA58 => ?_; clear hA56 a55
 refine stw hA58 (op_alloc hS52 rfl ze_42 (cs := [(Value.int .i64 0), (Value.int .i64 0)]) rfl) rfl rfl (by decide) ?_
 rintro a59 _ w61 ⟨b62, rfl, hS63⟩ hA60; clear hA58 hS52 a57
 refine sts hA60 (op_store hS63 rfl ty_42 (hA60.ev rfl) (hA60.ev rfl) (i := 0) rfl (vs := [(Value.int .i64 (stLo plan (leastR R rs plan))), (Value.int .i64 (stHi plan (mostR R rs plan)))]) rfl rfl rfl (Nat.le_of_ble_eq_true rfl)) rfl rfl ?_
 intro _ w64 hS65 hA66; clear hA60
 have hS67 : Sep NoB w w64 [(blk b62 42 [(Value.int .i64 (stLo plan (leastR R rs plan))), (Value.int .i64 (stHi plan (mostR R rs plan)))]), (row v47 67 3 plan.length (trips plan)), (runsR true v37 lv38 rs), (row u29 42 2 R.length (pairs R)), (blk b4 24 [vr]), (sl vr 2 R.length (pairs R)), (runsR false vu lv rs), (sl vp 3 plan.length (trips plan))] := hS65; clear hS65 hS63
 refine st hA66 (op_assign rfl (hA66.ev rfl)) rfl rfl (by decide) fun a68 hA69 => ?_; clear hA66 a59
 refine wl_nil ?_
 refine then_n ?_
 refine c_seq ?_
 have hA70 := hA69.as [(8, (Value.int .i64 0)), (7, (bptr b62 0)), (3, (bptr b4 0)), (1, vu), (2, vp)] rfl; clear hA69
 refine c_region ?_
 refine st hA70 (op_loadA rfl ty_24 (hA70.ev rfl) (hS67.bk 4 rfl) (l := [vr]) rfl rfl) rfl rfl (by decide) fun a71 hA72 => ?_; clear hA70 a68
 refine stw hA72 (op_call rfl en_19 (ev1 (hA72.ev rfl)) (Material_ok _ R _ (hS67.sk 5 rfl) hth.mat)) rfl rfl (by decide) ?_
 rintro a73 _ w75 ⟨u78, rfl, hT76⟩ hA74; have hS77 := hS67.callS hT76 rfl; clear hT76 hA72 hS67 a71
 refine st hA74 (op_move rfl (hA74.ev rfl)) rfl rfl (by decide) fun a79 hA80 => ?_; clear hA74 a73
 refine stw hA80 (op_call rfl en_20 (ev1 (hA80.ev rfl)) (Runs_ok _ rs _ _ (runs_at (hS77.ok 7 _ rfl)) hth.runs hth.segs)) rfl rfl (by decide) ?_
 rintro a81 v86 w83 ⟨lv87, hT84⟩ hA82; have hS85 := hS77.callS hT84 rfl; clear hT84 hA80 hS77 a79
 refine st hA82 (op_move rfl (hA82.ev rfl)) rfl rfl (by decide) fun a88 hA89 => ?_; clear hA82 a81
 refine stw hA89 (op_call rfl en_29 (ev1 (hA89.ev rfl)) (Plan_ok _ plan _ (hS85.sk 9 rfl) (by omega))) rfl rfl (by decide) ?_
 rintro a90 v96 w92 ⟨hE93, hO94⟩ hA91; have hS95 := hS85.new_row hE93 hO94; clear hE93 hO94 hA89 hS85 a88
 refine stw hA91 (op_call rfl en_32 (ev4 (hA91.ev rfl) (hA91.ev rfl) (hA91.ev rfl) (evc _ _)) (shows_fine R rs lv87 u78 v86 _ (SlAt.of_row (hS95.ok_row 2 rfl)) (runs_at (hS95.ok 1 _ rfl)) (by omega) (by omega) plan v96 (SlAt.of_row (hS95.ok_row 0 rfl)) (by omega) false hc0)) rfl rfl (by decide) ?_
 rintro a97 _ w99 ⟨u102, rfl, hT100⟩ hA98; have hS101 := hS95.callS hT100 rfl; clear hT100 hA91 hS95 a90
 refine st hA98 (op_move rfl (hA98.ev rfl)) rfl rfl (by decide) fun a103 hA104 => ?_; clear hA98 a97
 refine st hA104 (op_extract rfl (hA104.ev rfl) rfl) rfl rfl (by decide) fun a105 hA106 => ?_; clear hA104 a103
 refine st hA106 (op_extract rfl (hA106.ev rfl) rfl) rfl rfl (by decide) fun a107 hA108 => ?_; clear hA106 a105
 refine st hA108 (op_assign rfl (hA108.ev rfl)) rfl rfl (by decide) fun a109 hA110 => ?_; clear hA108 a107
 refine st hA110 (op_assign rfl (hA110.ev rfl)) rfl rfl (by decide) fun a111 hA112 => ?_; clear hA110 a109
 refine wl_nil ?_
 refine then_n ?_
 refine c_seq ?_
 have hA113 := hA112.as [(10, (Value.int .i64 0)), (9, u102), (8, (Value.int .i64 0)), (7, (bptr b62 0)), (3, (bptr b4 0)), (1, vu), (2, vp)] rfl; clear hA112
 refine c_region ?_
 refine st hA113 (op_loadA rfl ty_24 (hA113.ev rfl) (hS101.bk 8 rfl) (l := [vr]) rfl rfl) rfl rfl (by decide) fun a114 hA115 => ?_; clear hA113 a111
 refine stw hA115 (op_call rfl en_19 (ev1 (hA115.ev rfl)) (Material_ok _ R _ (hS101.sk 9 rfl) hth.mat)) rfl rfl (by decide) ?_
 rintro a116 _ w118 ⟨u121, rfl, hT119⟩ hA117; have hS120 := hS101.callS hT119 rfl; clear hT119 hA115 hS101 a114
 refine st hA117 (op_move rfl (hA117.ev rfl)) rfl rfl (by decide) fun a122 hA123 => ?_; clear hA117 a116
 refine stw hA123 (op_call rfl en_20 (ev1 (hA123.ev rfl)) (Runs_ok _ rs _ _ (runs_at (hS120.ok 11 _ rfl)) hth.runs hth.segs)) rfl rfl (by decide) ?_
 rintro a124 v129 w126 ⟨lv130, hT127⟩ hA125; have hS128 := hS120.callS hT127 rfl; clear hT127 hA123 hS120 a122
 refine st hA125 (op_move rfl (hA125.ev rfl)) rfl rfl (by decide) fun a131 hA132 => ?_; clear hA125 a124
 refine stw hA132 (op_call rfl en_29 (ev1 (hA132.ev rfl)) (Plan_ok _ plan _ (hS128.sk 13 rfl) (by omega))) rfl rfl (by decide) ?_
 rintro a133 v139 w135 ⟨hE136, hO137⟩ hA134; have hS138 := hS128.new_row hE136 hO137; clear hE136 hO137 hA132 hS128 a131
 refine stw hA134 (op_call rfl en_32 (ev4 (hA134.ev rfl) (hA134.ev rfl) (hA134.ev rfl) (evc _ _)) (shows_fine R rs lv130 u121 v129 _ (SlAt.of_row (hS138.ok_row 2 rfl)) (runs_at (hS138.ok 1 _ rfl)) (by omega) (by omega) plan v139 (SlAt.of_row (hS138.ok_row 0 rfl)) (by omega) true hc0)) rfl rfl (by decide) ?_
 rintro a140 _ w142 ⟨u145, rfl, hT143⟩ hA141; have hS144 := hS138.callS hT143 rfl; clear hT143 hA134 hS138 a133
 refine st hA141 (op_move rfl (hA141.ev rfl)) rfl rfl (by decide) fun a146 hA147 => ?_; clear hA141 a140
 refine st hA147 (op_extract rfl (hA147.ev rfl) rfl) rfl rfl (by decide) fun a148 hA149 => ?_; clear hA147 a146
 refine st hA149 (op_extract rfl (hA149.ev rfl) rfl) rfl rfl (by decide) fun a150 hA151 => ?_; clear hA149 a148
 refine st hA151 (op_assign rfl (hA151.ev rfl)) rfl rfl (by decide) fun a152 hA153 => ?_; clear hA151 a150
 refine st hA153 (op_assign rfl (hA153.ev rfl)) rfl rfl (by decide) fun a154 hA155 => ?_; clear hA153 a152
 refine wl_nil ?_
 refine then_n ?_
 refine c_seq ?_
 refine c_seq ?_
 have hA156 := hA155.as [(12, (Value.int .i64 0)), (11, u145), (10, (Value.int .i64 0)), (9, u102), (8, (Value.int .i64 0)), (7, (bptr b62 0)), (3, (bptr b4 0)), (1, vu), (2, vp)] rfl; clear hA155
 refine c_region ?_
 refine st hA156 (op_move rfl (hA156.ev rfl)) rfl rfl (by decide) fun a157 hA158 => ?_; clear hA156 a154
 refine st hA158 (op_neq rfl (hA158.ev rfl) (evc _ _)) rfl rfl (by decide) fun a159 hA160 => ?_; clear hA158 a157
 refine wl_nil ?_
 refine then_n ?_
 refine c_false hA160 rfl ?_
 refine c_skip ?_
 refine then_n ?_
 refine c_seq ?_
 refine c_region ?_
 refine st hA160 (op_loadA rfl ty_24 (hA160.ev rfl) (hS144.bk 12 rfl) (l := [vr]) rfl rfl) rfl rfl (by decide) fun a161 hA162 => ?_; clear hA160 a159
 refine stw hA162 (op_call rfl en_19 (ev1 (hA162.ev rfl)) (Material_ok _ R _ (hS144.sk 13 rfl) hth.mat)) rfl rfl (by decide) ?_
 rintro a163 _ w165 ⟨u168, rfl, hT166⟩ hA164; have hS167 := hS144.callS hT166 rfl; clear hT166 hA162 hS144 a161
 refine st hA164 (op_move rfl (hA164.ev rfl)) rfl rfl (by decide) fun a169 hA170 => ?_; clear hA164 a163
 refine stw hA170 (op_call rfl en_20 (ev1 (hA170.ev rfl)) (Runs_ok _ rs _ _ (runs_at (hS167.ok 15 _ rfl)) hth.runs hth.segs)) rfl rfl (by decide) ?_
 rintro a171 v176 w173 ⟨lv177, hT174⟩ hA172; have hS175 := hS167.callS hT174 rfl; clear hT174 hA170 hS167 a169
 refine st hA172 (op_move rfl (hA172.ev rfl)) rfl rfl (by decide) fun a178 hA179 => ?_; clear hA172 a171
 refine stw hA179 (op_call rfl en_39 (ev1 (hA179.ev rfl)) (list_ok _ (showF R rs plan false) _ (SlAt.of_row (hS175.ok_row 6 rfl)) (by omega))) rfl rfl (by decide) ?_
 rintro a180 v186 w182 ⟨hE183, hO184⟩ hA181; have hS185 := hS175.new_row hE183 hO184; clear hE183 hO184 hA179 hS175 a178
 refine stw hA181 (op_call rfl en_38 (ev3 (hA181.ev rfl) (hA181.ev rfl) (hA181.ev rfl)) (allows_yes R rs lv177 u168 v176 _ (SlAt.of_row (hS185.ok_row 2 rfl)) (runs_at (hS185.ok 1 _ rfl)) (by omega) (by omega) (showF R rs plan false) v186 (SlAt.of_row (hS185.ok_row 0 rfl)) (by omega) he (show_are hR hV hal plan false).1 (pad_rates hR (show_are hR hV hal plan false).1))) rfl rfl (by decide) ?_
 rintro a187 _ w189 ⟨rfl, hE190⟩ hA188; have hS191 := hS185.step hE190; clear hE190 hA181 hS185 a180
 rw [allow_pad hR hV (show_are hR hV hal plan false).1] at hA188
 refine st hA188 (op_move rfl (hA188.ev rfl)) rfl rfl (by decide) fun a192 hA193 => ?_; clear hA188 a187
 refine st hA193 (op_extract rfl (hA193.ev rfl) rfl) rfl rfl (by decide) fun a194 hA195 => ?_; clear hA193 a192
 have hd196 : (allowB rs (showF R rs plan false)) = true := (show_are hR hV hal plan _).2
 rw [hd196] at hA195
 refine st hA195 (op_extract rfl (hA195.ev rfl) rfl) rfl rfl (by decide) fun a197 hA198 => ?_; clear hA195 a194
 refine st hA198 (op_assign rfl (hA198.ev rfl)) rfl rfl (by decide) fun a199 hA200 => ?_; clear hA198 a197
 refine st hA200 (op_assign rfl (hA200.ev rfl)) rfl rfl (by decide) fun a201 hA202 => ?_; clear hA200 a199
 refine wl_nil ?_
 refine then_n ?_
 refine c_seq ?_
 have hA203 := hA202.as [(14, (Value.int .i64 0)), (13, (Value.bool true)), (12, (Value.int .i64 0)), (11, u145), (10, (Value.int .i64 0)), (9, u102), (7, (bptr b62 0)), (3, (bptr b4 0)), (1, vu), (2, vp)] rfl; clear hA202
 refine c_region ?_
 refine st hA203 (op_loadA rfl ty_24 (hA203.ev rfl) (hS191.bk 15 rfl) (l := [vr]) rfl rfl) rfl rfl (by decide) fun a204 hA205 => ?_; clear hA203 a201
 refine stw hA205 (op_call rfl en_19 (ev1 (hA205.ev rfl)) (Material_ok _ R _ (hS191.sk 16 rfl) hth.mat)) rfl rfl (by decide) ?_
 rintro a206 _ w208 ⟨u211, rfl, hT209⟩ hA207; have hS210 := hS191.callS hT209 rfl; clear hT209 hA205 hS191 a204
 refine st hA207 (op_move rfl (hA207.ev rfl)) rfl rfl (by decide) fun a212 hA213 => ?_; clear hA207 a206
 refine stw hA213 (op_call rfl en_20 (ev1 (hA213.ev rfl)) (Runs_ok _ rs _ _ (runs_at (hS210.ok 18 _ rfl)) hth.runs hth.segs)) rfl rfl (by decide) ?_
 rintro a214 v219 w216 ⟨lv220, hT217⟩ hA215; have hS218 := hS210.callS hT217 rfl; clear hT217 hA213 hS210 a212
 refine st hA215 (op_move rfl (hA215.ev rfl)) rfl rfl (by decide) fun a221 hA222 => ?_; clear hA215 a214
 refine stw hA222 (op_call rfl en_39 (ev1 (hA222.ev rfl)) (list_ok _ (showF R rs plan true) _ (SlAt.of_row (hS218.ok_row 5 rfl)) (by omega))) rfl rfl (by decide) ?_
 rintro a223 v229 w225 ⟨hE226, hO227⟩ hA224; have hS228 := hS218.new_row hE226 hO227; clear hE226 hO227 hA222 hS218 a221
 refine stw hA224 (op_call rfl en_38 (ev3 (hA224.ev rfl) (hA224.ev rfl) (hA224.ev rfl)) (allows_yes R rs lv220 u211 v219 _ (SlAt.of_row (hS228.ok_row 2 rfl)) (runs_at (hS228.ok 1 _ rfl)) (by omega) (by omega) (showF R rs plan true) v229 (SlAt.of_row (hS228.ok_row 0 rfl)) (by omega) he (show_are hR hV hal plan true).1 (pad_rates hR (show_are hR hV hal plan true).1))) rfl rfl (by decide) ?_
 rintro a230 _ w232 ⟨rfl, hE233⟩ hA231; have hS234 := hS228.step hE233; clear hE233 hA224 hS228 a223
 rw [allow_pad hR hV (show_are hR hV hal plan true).1] at hA231
 refine st hA231 (op_move rfl (hA231.ev rfl)) rfl rfl (by decide) fun a235 hA236 => ?_; clear hA231 a230
 refine st hA236 (op_extract rfl (hA236.ev rfl) rfl) rfl rfl (by decide) fun a237 hA238 => ?_; clear hA236 a235
 have hd239 : (allowB rs (showF R rs plan true)) = true := (show_are hR hV hal plan _).2
 rw [hd239] at hA238
 refine st hA238 (op_extract rfl (hA238.ev rfl) rfl) rfl rfl (by decide) fun a240 hA241 => ?_; clear hA238 a237
 refine st hA241 (op_assign rfl (hA241.ev rfl)) rfl rfl (by decide) fun a242 hA243 => ?_; clear hA241 a240
 refine st hA243 (op_assign rfl (hA243.ev rfl)) rfl rfl (by decide) fun a244 hA245 => ?_; clear hA243 a242
 refine wl_nil ?_
 refine then_n ?_
 refine c_seq ?_
 have hA246 := hA245.as [(16, (Value.int .i64 0)), (15, (Value.bool true)), (14, (Value.int .i64 0)), (13, (Value.bool true)), (12, (Value.int .i64 0)), (11, u145), (10, (Value.int .i64 0)), (9, u102), (7, (bptr b62 0)), (2, vp)] rfl; clear hA245
 have hA247 := hA246.as [(16, (Value.int .i64 0)), (15, (Value.bool true)), (14, (Value.int .i64 0)), (13, (Value.bool true)), (12, (Value.int .i64 0)), (11, u145), (10, (Value.int .i64 0)), (9, u102), (7, (bptr b62 0)), (2, vp)] rfl; clear hA246
 refine c_drawV mixed hA247 hS234 36 [[], [0], [1], [2], [2, 3], [2, 4], [5], [6], [6, 7], [6, 8], [9], [10], [10, 11], [10, 12], [13], [14], [14, 15], [16], [17], [17, 18], [19], [20], [20], [20, 21, 22], [20, 23], [20], [20, 25], [20, 24, 26], [20, 27], [28], [29], [29], [29, 30, 31], [29, 32], [29], [29, 34]] [(fun (vs248 : Nat → Value) (v_ : Value) (rs_ : List Res) => v_ = (Value.int .i64 0) ∧ rs_ = []), (fun (vs248 : Nat → Value) (v_ : Value) (rs_ : List Res) => v_ = (Value.bool true) ∧ rs_ = []), (fun (vs248 : Nat → Value) (v_ : Value) (rs_ : List Res) => v_ = (Value.bool true) ∧ rs_ = []), (fun (vs248 : Nat → Value) (v_ : Value) (rs_ : List Res) => v_ = (Value.int .i64 0) ∧ rs_ = []), (fun (vs248 : Nat → Value) (v_ : Value) (rs_ : List Res) => v_ = (Value.bool true) ∧ rs_ = []), (fun (vs248 : Nat → Value) (v_ : Value) (rs_ : List Res) => v_ = (Value.bool true) ∧ rs_ = []), (fun (vs248 : Nat → Value) (v_ : Value) (rs_ : List Res) => v_ = (Value.bool true) ∧ rs_ = []), (fun (vs248 : Nat → Value) (v_ : Value) (rs_ : List Res) => v_ = (Value.int .i64 0) ∧ rs_ = []), (fun (vs248 : Nat → Value) (v_ : Value) (rs_ : List Res) => v_ = (Value.bool true) ∧ rs_ = []), (fun (vs248 : Nat → Value) (v_ : Value) (rs_ : List Res) => v_ = (Value.bool true) ∧ rs_ = []), (fun (vs248 : Nat → Value) (v_ : Value) (rs_ : List Res) => v_ = (Value.bool true) ∧ rs_ = []), (fun (vs248 : Nat → Value) (v_ : Value) (rs_ : List Res) => v_ = (Value.int .i64 0) ∧ rs_ = []), (fun (vs248 : Nat → Value) (v_ : Value) (rs_ : List Res) => v_ = (Value.bool true) ∧ rs_ = []), (fun (vs248 : Nat → Value) (v_ : Value) (rs_ : List Res) => v_ = (Value.bool true) ∧ rs_ = []), (fun (vs248 : Nat → Value) (v_ : Value) (rs_ : List Res) => v_ = (Value.bool true) ∧ rs_ = []), (fun (vs248 : Nat → Value) (v_ : Value) (rs_ : List Res) => v_ = (Value.bool true) ∧ rs_ = []), (fun (vs248 : Nat → Value) (v_ : Value) (rs_ : List Res) => v_ = (Value.bool true) ∧ rs_ = []), (fun (vs248 : Nat → Value) (v_ : Value) (rs_ : List Res) => v_ = (Value.bool true) ∧ rs_ = []), (fun (vs248 : Nat → Value) (v_ : Value) (rs_ : List Res) => v_ = (Value.bool true) ∧ rs_ = []), (fun (vs248 : Nat → Value) (v_ : Value) (rs_ : List Res) => v_ = (Value.bool true) ∧ rs_ = []), (fun (vs248 : Nat → Value) (v_ : Value) (rs_ : List Res) => v_ = (Value.bool true) ∧ rs_ = []), (fun (vs248 : Nat → Value) (v_ : Value) (rs_ : List Res) => v_ = vp ∧ rs_ = []), (fun (vs248 : Nat → Value) (v_ : Value) (rs_ : List Res) => v_ = u102 ∧ rs_ = []), (fun (vs248 : Nat → Value) (v_ : Value) (rs_ : List Res) => v_ = (Value.agg #[(Value.int .i64 (stLo plan (showF R rs plan false))), (Value.int .i64 (stHi plan (showF R rs plan false)))]) ∧ rs_ = []), (fun (vs248 : Nat → Value) (v_ : Value) (rs_ : List Res) => v_ = (Value.int .i64 (stLo plan (showF R rs plan false))) ∧ rs_ = []), (fun (vs248 : Nat → Value) (v_ : Value) (rs_ : List Res) => v_ = (bptr b62 0) ∧ rs_ = []), (fun (vs248 : Nat → Value) (v_ : Value) (rs_ : List Res) => v_ = (Value.int .i64 (stLo plan (leastR R rs plan))) ∧ rs_ = []), (fun (vs248 : Nat → Value) (v_ : Value) (rs_ : List Res) => v_ = (Value.bool true) ∧ rs_ = []), (fun (vs248 : Nat → Value) (v_ : Value) (rs_ : List Res) => v_ = (Value.bool true) ∧ rs_ = []), (fun (vs248 : Nat → Value) (v_ : Value) (rs_ : List Res) => v_ = (Value.bool true) ∧ rs_ = []), (fun (vs248 : Nat → Value) (v_ : Value) (rs_ : List Res) => v_ = vp ∧ rs_ = []), (fun (vs248 : Nat → Value) (v_ : Value) (rs_ : List Res) => v_ = u145 ∧ rs_ = []), (fun (vs248 : Nat → Value) (v_ : Value) (rs_ : List Res) => v_ = (Value.agg #[(Value.int .i64 (stLo plan (showF R rs plan true))), (Value.int .i64 (stHi plan (showF R rs plan true)))]) ∧ rs_ = []), (fun (vs248 : Nat → Value) (v_ : Value) (rs_ : List Res) => v_ = (Value.int .i64 (stHi plan (showF R rs plan true))) ∧ rs_ = []), (fun (vs248 : Nat → Value) (v_ : Value) (rs_ : List Res) => v_ = (bptr b62 1) ∧ rs_ = []), (fun (vs248 : Nat → Value) (v_ : Value) (rs_ : List Res) => v_ = (Value.int .i64 (stHi plan (mostR R rs plan))) ∧ rs_ = [])] (by decide +kernel) (by decide +kernel) rfl rfl ⟨(fun _ _ _ _ _ h_ => h_), (fun _ _ _ _ _ h_ => h_), (fun _ _ _ _ _ h_ => h_), (fun _ _ _ _ _ h_ => h_), (fun _ _ _ _ _ h_ => h_), (fun _ _ _ _ _ h_ => h_), (fun _ _ _ _ _ h_ => h_), (fun _ _ _ _ _ h_ => h_), (fun _ _ _ _ _ h_ => h_), (fun _ _ _ _ _ h_ => h_), (fun _ _ _ _ _ h_ => h_), (fun _ _ _ _ _ h_ => h_), (fun _ _ _ _ _ h_ => h_), (fun _ _ _ _ _ h_ => h_), (fun _ _ _ _ _ h_ => h_), (fun _ _ _ _ _ h_ => h_), (fun _ _ _ _ _ h_ => h_), (fun _ _ _ _ _ h_ => h_), (fun _ _ _ _ _ h_ => h_), (fun _ _ _ _ _ h_ => h_), (fun _ _ _ _ _ h_ => h_), (fun _ _ _ _ _ h_ => h_), (fun _ _ _ _ _ h_ => h_), (fun _ _ _ _ _ h_ => h_), (fun _ _ _ _ _ h_ => h_), (fun _ _ _ _ _ h_ => h_), (fun _ _ _ _ _ h_ => h_), (fun _ _ _ _ _ h_ => h_), (fun _ _ _ _ _ h_ => h_), (fun _ _ _ _ _ h_ => h_), (fun _ _ _ _ _ h_ => h_), (fun _ _ _ _ _ h_ => h_), (fun _ _ _ _ _ h_ => h_), (fun _ _ _ _ _ h_ => h_), (fun _ _ _ _ _ h_ => h_), (fun _ _ _ _ _ h_ => h_), trivial⟩ ?_ ?_
 ·skip
  refine ⟨fun a w vs248 hA hS hd => ?_, ?_⟩
  ·skip
   exact opG_of rfl (vv (op_move rfl (hA.ev rfl)) (And.intro rfl rfl))
  refine ⟨fun a w vs248 hA hS hd => ?_, ?_⟩
  ·skip
   obtain ⟨e0, rs0, hy0, hp0⟩ := hd 0 (by decide)
   obtain ⟨hv0, hr0⟩ := hy0; subst hr0
   rw [hv0] at e0
   exact opG_of rfl (vv (op_eql rfl (tmp_ev (slot_ev e0 rfl)) (evc _ _)) (And.intro rfl rfl))
  refine ⟨fun a w vs248 hA hS hd => ?_, ?_⟩
  ·skip
   obtain ⟨e1, rs1, hy1, hp1⟩ := hd 1 (by decide)
   obtain ⟨hv1, hr1⟩ := hy1; subst hr1
   rw [hv1] at e1
   exact opG_of rfl (vv (op_move rfl (tmp_ev (slot_ev e1 rfl))) (And.intro rfl rfl))
  refine ⟨fun a w vs248 hA hS hd => ?_, ?_⟩
  ·skip
   obtain ⟨e2, rs2, hy2, hp2⟩ := hd 2 (by decide)
   obtain ⟨hv2, hr2⟩ := hy2; subst hr2
   rw [hv2] at e2
   exact opG_yes rfl rfl (slot_ev e2 rfl) (vv (op_move rfl (hA.ev rfl)) (And.intro rfl rfl))
  refine ⟨fun a w vs248 hA hS hd => ?_, ?_⟩
  ·skip
   obtain ⟨e2, rs2, hy2, hp2⟩ := hd 2 (by decide)
   obtain ⟨hv2, hr2⟩ := hy2; subst hr2
   rw [hv2] at e2
   obtain ⟨e3, rs3, hy3, hp3⟩ := hd 3 (by decide)
   obtain ⟨hv3, hr3⟩ := hy3; subst hr3
   rw [hv3] at e3
   exact opG_yes rfl rfl (slot_ev e2 rfl) (vv (op_eql rfl (tmp_ev (slot_ev e3 rfl)) (evc _ _)) (And.intro rfl rfl))
  refine ⟨fun a w vs248 hA hS hd => ?_, ?_⟩
  ·skip
   obtain ⟨e2, rs2, hy2, hp2⟩ := hd 2 (by decide)
   obtain ⟨hv2, hr2⟩ := hy2; subst hr2
   rw [hv2] at e2
   obtain ⟨e4, rs4, hy4, hp4⟩ := hd 4 (by decide)
   obtain ⟨hv4, hr4⟩ := hy4; subst hr4
   rw [hv4] at e4
   exact opG_of rfl (vv (op_pick_t rfl (tmp_ev (slot_ev e2 rfl)) (tmp_ev (slot_ev e4 rfl))) (And.intro rfl rfl))
  refine ⟨fun a w vs248 hA hS hd => ?_, ?_⟩
  ·skip
   obtain ⟨e5, rs5, hy5, hp5⟩ := hd 5 (by decide)
   obtain ⟨hv5, hr5⟩ := hy5; subst hr5
   rw [hv5] at e5
   exact opG_of rfl (vv (op_move rfl (tmp_ev (slot_ev e5 rfl))) (And.intro rfl rfl))
  refine ⟨fun a w vs248 hA hS hd => ?_, ?_⟩
  ·skip
   obtain ⟨e6, rs6, hy6, hp6⟩ := hd 6 (by decide)
   obtain ⟨hv6, hr6⟩ := hy6; subst hr6
   rw [hv6] at e6
   exact opG_yes rfl rfl (slot_ev e6 rfl) (vv (op_move rfl (hA.ev rfl)) (And.intro rfl rfl))
  refine ⟨fun a w vs248 hA hS hd => ?_, ?_⟩
  ·skip
   obtain ⟨e6, rs6, hy6, hp6⟩ := hd 6 (by decide)
   obtain ⟨hv6, hr6⟩ := hy6; subst hr6
   rw [hv6] at e6
   obtain ⟨e7, rs7, hy7, hp7⟩ := hd 7 (by decide)
   obtain ⟨hv7, hr7⟩ := hy7; subst hr7
   rw [hv7] at e7
   exact opG_yes rfl rfl (slot_ev e6 rfl) (vv (op_eql rfl (tmp_ev (slot_ev e7 rfl)) (evc _ _)) (And.intro rfl rfl))
  refine ⟨fun a w vs248 hA hS hd => ?_, ?_⟩
  ·skip
   obtain ⟨e6, rs6, hy6, hp6⟩ := hd 6 (by decide)
   obtain ⟨hv6, hr6⟩ := hy6; subst hr6
   rw [hv6] at e6
   obtain ⟨e8, rs8, hy8, hp8⟩ := hd 8 (by decide)
   obtain ⟨hv8, hr8⟩ := hy8; subst hr8
   rw [hv8] at e8
   exact opG_of rfl (vv (op_pick_t rfl (tmp_ev (slot_ev e6 rfl)) (tmp_ev (slot_ev e8 rfl))) (And.intro rfl rfl))
  refine ⟨fun a w vs248 hA hS hd => ?_, ?_⟩
  ·skip
   obtain ⟨e9, rs9, hy9, hp9⟩ := hd 9 (by decide)
   obtain ⟨hv9, hr9⟩ := hy9; subst hr9
   rw [hv9] at e9
   exact opG_of rfl (vv (op_move rfl (tmp_ev (slot_ev e9 rfl))) (And.intro rfl rfl))
  refine ⟨fun a w vs248 hA hS hd => ?_, ?_⟩
  ·skip
   obtain ⟨e10, rs10, hy10, hp10⟩ := hd 10 (by decide)
   obtain ⟨hv10, hr10⟩ := hy10; subst hr10
   rw [hv10] at e10
   exact opG_yes rfl rfl (slot_ev e10 rfl) (vv (op_move rfl (hA.ev rfl)) (And.intro rfl rfl))
  refine ⟨fun a w vs248 hA hS hd => ?_, ?_⟩
  ·skip
   obtain ⟨e10, rs10, hy10, hp10⟩ := hd 10 (by decide)
   obtain ⟨hv10, hr10⟩ := hy10; subst hr10
   rw [hv10] at e10
   obtain ⟨e11, rs11, hy11, hp11⟩ := hd 11 (by decide)
   obtain ⟨hv11, hr11⟩ := hy11; subst hr11
   rw [hv11] at e11
   exact opG_yes rfl rfl (slot_ev e10 rfl) (vv (op_eql rfl (tmp_ev (slot_ev e11 rfl)) (evc _ _)) (And.intro rfl rfl))
  refine ⟨fun a w vs248 hA hS hd => ?_, ?_⟩
  ·skip
   obtain ⟨e10, rs10, hy10, hp10⟩ := hd 10 (by decide)
   obtain ⟨hv10, hr10⟩ := hy10; subst hr10
   rw [hv10] at e10
   obtain ⟨e12, rs12, hy12, hp12⟩ := hd 12 (by decide)
   obtain ⟨hv12, hr12⟩ := hy12; subst hr12
   rw [hv12] at e12
   exact opG_of rfl (vv (op_pick_t rfl (tmp_ev (slot_ev e10 rfl)) (tmp_ev (slot_ev e12 rfl))) (And.intro rfl rfl))
  refine ⟨fun a w vs248 hA hS hd => ?_, ?_⟩
  ·skip
   obtain ⟨e13, rs13, hy13, hp13⟩ := hd 13 (by decide)
   obtain ⟨hv13, hr13⟩ := hy13; subst hr13
   rw [hv13] at e13
   exact opG_of rfl (vv (op_move rfl (tmp_ev (slot_ev e13 rfl))) (And.intro rfl rfl))
  refine ⟨fun a w vs248 hA hS hd => ?_, ?_⟩
  ·skip
   obtain ⟨e14, rs14, hy14, hp14⟩ := hd 14 (by decide)
   obtain ⟨hv14, hr14⟩ := hy14; subst hr14
   rw [hv14] at e14
   exact opG_yes rfl rfl (slot_ev e14 rfl) (vv (op_move rfl (hA.ev rfl)) (And.intro rfl rfl))
  refine ⟨fun a w vs248 hA hS hd => ?_, ?_⟩
  ·skip
   obtain ⟨e14, rs14, hy14, hp14⟩ := hd 14 (by decide)
   obtain ⟨hv14, hr14⟩ := hy14; subst hr14
   rw [hv14] at e14
   obtain ⟨e15, rs15, hy15, hp15⟩ := hd 15 (by decide)
   obtain ⟨hv15, hr15⟩ := hy15; subst hr15
   rw [hv15] at e15
   exact opG_of rfl (vv (op_pick_t rfl (tmp_ev (slot_ev e14 rfl)) (tmp_ev (slot_ev e15 rfl))) (And.intro rfl rfl))
  refine ⟨fun a w vs248 hA hS hd => ?_, ?_⟩
  ·skip
   obtain ⟨e16, rs16, hy16, hp16⟩ := hd 16 (by decide)
   obtain ⟨hv16, hr16⟩ := hy16; subst hr16
   rw [hv16] at e16
   exact opG_of rfl (vv (op_move rfl (tmp_ev (slot_ev e16 rfl))) (And.intro rfl rfl))
  refine ⟨fun a w vs248 hA hS hd => ?_, ?_⟩
  ·skip
   obtain ⟨e17, rs17, hy17, hp17⟩ := hd 17 (by decide)
   obtain ⟨hv17, hr17⟩ := hy17; subst hr17
   rw [hv17] at e17
   exact opG_yes rfl rfl (slot_ev e17 rfl) (vv (op_move rfl (hA.ev rfl)) (And.intro rfl rfl))
  refine ⟨fun a w vs248 hA hS hd => ?_, ?_⟩
  ·skip
   obtain ⟨e17, rs17, hy17, hp17⟩ := hd 17 (by decide)
   obtain ⟨hv17, hr17⟩ := hy17; subst hr17
   rw [hv17] at e17
   obtain ⟨e18, rs18, hy18, hp18⟩ := hd 18 (by decide)
   obtain ⟨hv18, hr18⟩ := hy18; subst hr18
   rw [hv18] at e18
   exact opG_of rfl (vv (op_pick_t rfl (tmp_ev (slot_ev e17 rfl)) (tmp_ev (slot_ev e18 rfl))) (And.intro rfl rfl))
  refine ⟨fun a w vs248 hA hS hd => ?_, ?_⟩
  ·skip
   obtain ⟨e19, rs19, hy19, hp19⟩ := hd 19 (by decide)
   obtain ⟨hv19, hr19⟩ := hy19; subst hr19
   rw [hv19] at e19
   exact opG_of rfl (vv (op_move rfl (tmp_ev (slot_ev e19 rfl))) (And.intro rfl rfl))
  refine ⟨fun a w vs248 hA hS hd => ?_, ?_⟩
  ·skip
   obtain ⟨e20, rs20, hy20, hp20⟩ := hd 20 (by decide)
   obtain ⟨hv20, hr20⟩ := hy20; subst hr20
   rw [hv20] at e20
   exact opG_yes rfl rfl (slot_ev e20 rfl) (vv (op_move rfl (hA.ev rfl)) (And.intro rfl rfl))
  refine ⟨fun a w vs248 hA hS hd => ?_, ?_⟩
  ·skip
   obtain ⟨e20, rs20, hy20, hp20⟩ := hd 20 (by decide)
   obtain ⟨hv20, hr20⟩ := hy20; subst hr20
   rw [hv20] at e20
   exact opG_yes rfl rfl (slot_ev e20 rfl) (vv (op_move rfl (hA.ev rfl)) (And.intro rfl rfl))
  refine ⟨fun a w vs248 hA hS hd => ?_, ?_⟩
  ·skip
   obtain ⟨e20, rs20, hy20, hp20⟩ := hd 20 (by decide)
   obtain ⟨hv20, hr20⟩ := hy20; subst hr20
   rw [hv20] at e20
   obtain ⟨e21, rs21, hy21, hp21⟩ := hd 21 (by decide)
   obtain ⟨hv21, hr21⟩ := hy21; subst hr21
   rw [hv21] at e21
   obtain ⟨e22, rs22, hy22, hp22⟩ := hd 22 (by decide)
   obtain ⟨hv22, hr22⟩ := hy22; subst hr22
   rw [hv22] at e22
   exact opG_yes rfl rfl (slot_ev e20 rfl) (vx (op_call rfl en_34 (ev2 (tmp_ev (slot_ev e21 rfl)) (tmp_ev (slot_ev e22 rfl))) (rStretch_ok _ plan _ (hS.sk 21 rfl) (by omega) (showF R rs plan false) _ (SlAt.of_row (hS.ok_row 10 rfl)) R.length hR.1 (by omega) (are_small hR (show_are hR hV hal plan _).1) hs)) (And.intro rfl rfl))
  refine ⟨fun a w vs248 hA hS hd => ?_, ?_⟩
  ·skip
   obtain ⟨e20, rs20, hy20, hp20⟩ := hd 20 (by decide)
   obtain ⟨hv20, hr20⟩ := hy20; subst hr20
   rw [hv20] at e20
   obtain ⟨e23, rs23, hy23, hp23⟩ := hd 23 (by decide)
   obtain ⟨hv23, hr23⟩ := hy23; subst hr23
   rw [hv23] at e23
   exact opG_yes rfl rfl (slot_ev e20 rfl) (vv (op_fieldV rfl (tmp_ev (slot_ev e23 rfl)) (bd_fv_48_0_i64i64 _ _)) (And.intro rfl rfl))
  refine ⟨fun a w vs248 hA hS hd => ?_, ?_⟩
  ·skip
   obtain ⟨e20, rs20, hy20, hp20⟩ := hd 20 (by decide)
   obtain ⟨hv20, hr20⟩ := hy20; subst hr20
   rw [hv20] at e20
   exact opG_yes rfl rfl (slot_ev e20 rfl) (vv (op_field rfl fd_42_0 (hA.ev rfl)) (And.intro rfl rfl))
  refine ⟨fun a w vs248 hA hS hd => ?_, ?_⟩
  ·skip
   obtain ⟨e20, rs20, hy20, hp20⟩ := hd 20 (by decide)
   obtain ⟨hv20, hr20⟩ := hy20; subst hr20
   rw [hv20] at e20
   obtain ⟨e25, rs25, hy25, hp25⟩ := hd 25 (by decide)
   obtain ⟨hv25, hr25⟩ := hy25; subst hr25
   rw [hv25] at e25
   exact opG_yes rfl rfl (slot_ev e20 rfl) (vv (op_load1 rfl ty_3 (tmp_ev (slot_ev e25 rfl)) (hS.bk 14 rfl) rfl) (And.intro rfl rfl))
  refine ⟨fun a w vs248 hA hS hd => ?_, ?_⟩
  ·skip
   obtain ⟨e20, rs20, hy20, hp20⟩ := hd 20 (by decide)
   obtain ⟨hv20, hr20⟩ := hy20; subst hr20
   rw [hv20] at e20
   obtain ⟨e24, rs24, hy24, hp24⟩ := hd 24 (by decide)
   obtain ⟨hv24, hr24⟩ := hy24; subst hr24
   rw [hv24] at e24
   obtain ⟨e26, rs26, hy26, hp26⟩ := hd 26 (by decide)
   obtain ⟨hv26, hr26⟩ := hy26; subst hr26
   rw [hv26] at e26
   exact opG_yes rfl rfl (slot_ev e20 rfl) (vv (op_eql rfl (tmp_ev (slot_ev e24 rfl)) (tmp_ev (slot_ev e26 rfl))) (And.intro (by show Value.bool _ = _; simp only [decide_eq_true (show (stLo plan (showF R rs plan false)) = (stLo plan (leastR R rs plan)) from (show_lo hs rfl)), decide_true, decide_false, Bool.not_true, Bool.not_false]) rfl))
  refine ⟨fun a w vs248 hA hS hd => ?_, ?_⟩
  ·skip
   obtain ⟨e20, rs20, hy20, hp20⟩ := hd 20 (by decide)
   obtain ⟨hv20, hr20⟩ := hy20; subst hr20
   rw [hv20] at e20
   obtain ⟨e27, rs27, hy27, hp27⟩ := hd 27 (by decide)
   obtain ⟨hv27, hr27⟩ := hy27; subst hr27
   rw [hv27] at e27
   exact opG_of rfl (vv (op_pick_t rfl (tmp_ev (slot_ev e20 rfl)) (tmp_ev (slot_ev e27 rfl))) (And.intro rfl rfl))
  refine ⟨fun a w vs248 hA hS hd => ?_, ?_⟩
  ·skip
   obtain ⟨e28, rs28, hy28, hp28⟩ := hd 28 (by decide)
   obtain ⟨hv28, hr28⟩ := hy28; subst hr28
   rw [hv28] at e28
   exact opG_of rfl (vv (op_move rfl (tmp_ev (slot_ev e28 rfl))) (And.intro rfl rfl))
  refine ⟨fun a w vs248 hA hS hd => ?_, ?_⟩
  ·skip
   obtain ⟨e29, rs29, hy29, hp29⟩ := hd 29 (by decide)
   obtain ⟨hv29, hr29⟩ := hy29; subst hr29
   rw [hv29] at e29
   exact opG_yes rfl rfl (slot_ev e29 rfl) (vv (op_move rfl (hA.ev rfl)) (And.intro rfl rfl))
  refine ⟨fun a w vs248 hA hS hd => ?_, ?_⟩
  ·skip
   obtain ⟨e29, rs29, hy29, hp29⟩ := hd 29 (by decide)
   obtain ⟨hv29, hr29⟩ := hy29; subst hr29
   rw [hv29] at e29
   exact opG_yes rfl rfl (slot_ev e29 rfl) (vv (op_move rfl (hA.ev rfl)) (And.intro rfl rfl))
  refine ⟨fun a w vs248 hA hS hd => ?_, ?_⟩
  ·skip
   obtain ⟨e29, rs29, hy29, hp29⟩ := hd 29 (by decide)
   obtain ⟨hv29, hr29⟩ := hy29; subst hr29
   rw [hv29] at e29
   obtain ⟨e30, rs30, hy30, hp30⟩ := hd 30 (by decide)
   obtain ⟨hv30, hr30⟩ := hy30; subst hr30
   rw [hv30] at e30
   obtain ⟨e31, rs31, hy31, hp31⟩ := hd 31 (by decide)
   obtain ⟨hv31, hr31⟩ := hy31; subst hr31
   rw [hv31] at e31
   exact opG_yes rfl rfl (slot_ev e29 rfl) (vx (op_call rfl en_34 (ev2 (tmp_ev (slot_ev e30 rfl)) (tmp_ev (slot_ev e31 rfl))) (rStretch_ok _ plan _ (hS.sk 21 rfl) (by omega) (showF R rs plan true) _ (SlAt.of_row (hS.ok_row 6 rfl)) R.length hR.1 (by omega) (are_small hR (show_are hR hV hal plan _).1) hs)) (And.intro rfl rfl))
  refine ⟨fun a w vs248 hA hS hd => ?_, ?_⟩
  ·skip
   obtain ⟨e29, rs29, hy29, hp29⟩ := hd 29 (by decide)
   obtain ⟨hv29, hr29⟩ := hy29; subst hr29
   rw [hv29] at e29
   obtain ⟨e32, rs32, hy32, hp32⟩ := hd 32 (by decide)
   obtain ⟨hv32, hr32⟩ := hy32; subst hr32
   rw [hv32] at e32
   exact opG_yes rfl rfl (slot_ev e29 rfl) (vv (op_fieldV rfl (tmp_ev (slot_ev e32 rfl)) (bd_fv_48_1_i64i64 _ _)) (And.intro rfl rfl))
  refine ⟨fun a w vs248 hA hS hd => ?_, ?_⟩
  ·skip
   obtain ⟨e29, rs29, hy29, hp29⟩ := hd 29 (by decide)
   obtain ⟨hv29, hr29⟩ := hy29; subst hr29
   rw [hv29] at e29
   exact opG_yes rfl rfl (slot_ev e29 rfl) (vv (op_field rfl fd_42_1 (hA.ev rfl)) (And.intro rfl rfl))
  refine ⟨fun a w vs248 hA hS hd => ?_, ?_⟩
  ·skip
   obtain ⟨e29, rs29, hy29, hp29⟩ := hd 29 (by decide)
   obtain ⟨hv29, hr29⟩ := hy29; subst hr29
   rw [hv29] at e29
   obtain ⟨e34, rs34, hy34, hp34⟩ := hd 34 (by decide)
   obtain ⟨hv34, hr34⟩ := hy34; subst hr34
   rw [hv34] at e34
   exact opG_yes rfl rfl (slot_ev e29 rfl) (vv (op_load1 rfl ty_3 (tmp_ev (slot_ev e34 rfl)) (hS.bk 14 rfl) rfl) (And.intro rfl rfl))
  trivial
 intro a249 w250 vs248 rsf254 hA251 hH253 hS252; clear hA247 hS234
 obtain ⟨hs_0, hy_0⟩ := hH253 0 (by decide)
 obtain ⟨hv_0, hr_0⟩ := hy_0
 obtain ⟨hs_1, hy_1⟩ := hH253 1 (by decide)
 obtain ⟨hv_1, hr_1⟩ := hy_1
 obtain ⟨hs_2, hy_2⟩ := hH253 2 (by decide)
 obtain ⟨hv_2, hr_2⟩ := hy_2
 obtain ⟨hs_3, hy_3⟩ := hH253 3 (by decide)
 obtain ⟨hv_3, hr_3⟩ := hy_3
 obtain ⟨hs_4, hy_4⟩ := hH253 4 (by decide)
 obtain ⟨hv_4, hr_4⟩ := hy_4
 obtain ⟨hs_5, hy_5⟩ := hH253 5 (by decide)
 obtain ⟨hv_5, hr_5⟩ := hy_5
 obtain ⟨hs_6, hy_6⟩ := hH253 6 (by decide)
 obtain ⟨hv_6, hr_6⟩ := hy_6
 obtain ⟨hs_7, hy_7⟩ := hH253 7 (by decide)
 obtain ⟨hv_7, hr_7⟩ := hy_7
 obtain ⟨hs_8, hy_8⟩ := hH253 8 (by decide)
 obtain ⟨hv_8, hr_8⟩ := hy_8
 obtain ⟨hs_9, hy_9⟩ := hH253 9 (by decide)
 obtain ⟨hv_9, hr_9⟩ := hy_9
 obtain ⟨hs_10, hy_10⟩ := hH253 10 (by decide)
 obtain ⟨hv_10, hr_10⟩ := hy_10
 obtain ⟨hs_11, hy_11⟩ := hH253 11 (by decide)
 obtain ⟨hv_11, hr_11⟩ := hy_11
 obtain ⟨hs_12, hy_12⟩ := hH253 12 (by decide)
 obtain ⟨hv_12, hr_12⟩ := hy_12
 obtain ⟨hs_13, hy_13⟩ := hH253 13 (by decide)
 obtain ⟨hv_13, hr_13⟩ := hy_13
 obtain ⟨hs_14, hy_14⟩ := hH253 14 (by decide)
 obtain ⟨hv_14, hr_14⟩ := hy_14
 obtain ⟨hs_15, hy_15⟩ := hH253 15 (by decide)
 obtain ⟨hv_15, hr_15⟩ := hy_15
 obtain ⟨hs_16, hy_16⟩ := hH253 16 (by decide)
 obtain ⟨hv_16, hr_16⟩ := hy_16
 obtain ⟨hs_17, hy_17⟩ := hH253 17 (by decide)
 obtain ⟨hv_17, hr_17⟩ := hy_17
 obtain ⟨hs_18, hy_18⟩ := hH253 18 (by decide)
 obtain ⟨hv_18, hr_18⟩ := hy_18
 obtain ⟨hs_19, hy_19⟩ := hH253 19 (by decide)
 obtain ⟨hv_19, hr_19⟩ := hy_19
 obtain ⟨hs_20, hy_20⟩ := hH253 20 (by decide)
 obtain ⟨hv_20, hr_20⟩ := hy_20
 obtain ⟨hs_21, hy_21⟩ := hH253 21 (by decide)
 obtain ⟨hv_21, hr_21⟩ := hy_21
 obtain ⟨hs_22, hy_22⟩ := hH253 22 (by decide)
 obtain ⟨hv_22, hr_22⟩ := hy_22
 obtain ⟨hs_23, hy_23⟩ := hH253 23 (by decide)
 obtain ⟨hv_23, hr_23⟩ := hy_23
 obtain ⟨hs_24, hy_24⟩ := hH253 24 (by decide)
 obtain ⟨hv_24, hr_24⟩ := hy_24
 obtain ⟨hs_25, hy_25⟩ := hH253 25 (by decide)
 obtain ⟨hv_25, hr_25⟩ := hy_25
 obtain ⟨hs_26, hy_26⟩ := hH253 26 (by decide)
 obtain ⟨hv_26, hr_26⟩ := hy_26
 obtain ⟨hs_27, hy_27⟩ := hH253 27 (by decide)
 obtain ⟨hv_27, hr_27⟩ := hy_27
 obtain ⟨hs_28, hy_28⟩ := hH253 28 (by decide)
 obtain ⟨hv_28, hr_28⟩ := hy_28
 obtain ⟨hs_29, hy_29⟩ := hH253 29 (by decide)
 obtain ⟨hv_29, hr_29⟩ := hy_29
 obtain ⟨hs_30, hy_30⟩ := hH253 30 (by decide)
 obtain ⟨hv_30, hr_30⟩ := hy_30
 obtain ⟨hs_31, hy_31⟩ := hH253 31 (by decide)
 obtain ⟨hv_31, hr_31⟩ := hy_31
 obtain ⟨hs_32, hy_32⟩ := hH253 32 (by decide)
 obtain ⟨hv_32, hr_32⟩ := hy_32
 obtain ⟨hs_33, hy_33⟩ := hH253 33 (by decide)
 obtain ⟨hv_33, hr_33⟩ := hy_33
 obtain ⟨hs_34, hy_34⟩ := hH253 34 (by decide)
 obtain ⟨hv_34, hr_34⟩ := hy_34
 obtain ⟨hs_35, hy_35⟩ := hH253 35 (by decide)
 obtain ⟨hv_35, hr_35⟩ := hy_35
 have hS255 : Sep NoB w w250 [(row v229 3 1 ((showF R rs plan true).length) (ints (showF R rs plan true))), (runsR true v219 lv220 rs), (row u211 42 2 R.length (pairs R)), (row v186 3 1 ((showF R rs plan false).length) (ints (showF R rs plan false))), (runsR true v176 lv177 rs), (row u168 42 2 R.length (pairs R)), (row u145 3 1 ((showF R rs plan true).length) (ints (showF R rs plan true))), (row v139 67 3 plan.length (trips plan)), (runsR true v129 lv130 rs), (row u121 42 2 R.length (pairs R)), (row u102 3 1 ((showF R rs plan false).length) (ints (showF R rs plan false))), (row v96 67 3 plan.length (trips plan)), (runsR true v86 lv87 rs), (row u78 42 2 R.length (pairs R)), (blk b62 42 [(Value.int .i64 (stLo plan (leastR R rs plan))), (Value.int .i64 (stHi plan (mostR R rs plan)))]), (row v47 67 3 plan.length (trips plan)), (runsR true v37 lv38 rs), (row u29 42 2 R.length (pairs R)), (blk b4 24 [vr]), (sl vr 2 R.length (pairs R)), (runsR false vu lv rs), (sl vp 3 plan.length (trips plan))] := by rw [show catR rsf254 0 36 = ([] : List Res) by (try simp only [catR, hr_0, hr_1, hr_2, hr_3, hr_4, hr_5, hr_6, hr_7, hr_8, hr_9, hr_10, hr_11, hr_12, hr_13, hr_14, hr_15, hr_16, hr_17, hr_18, hr_19, hr_20, hr_21, hr_22, hr_23, hr_24, hr_25, hr_26, hr_27, hr_28, hr_29, hr_30, hr_31, hr_32, hr_33, hr_34, hr_35]); (try rfl)] at hS252; exact hS252
 rw [hv_29] at hs_29
 have hA256 : Fr 131 [] [(119, (Value.bool true)), (16, (Value.int .i64 0)), (15, (Value.bool true)), (14, (Value.int .i64 0)), (13, (Value.bool true)), (12, (Value.int .i64 0)), (11, u145), (10, (Value.int .i64 0)), (9, u102), (7, (bptr b62 0)), (2, vp)] a249 := hA251.add (slot_ev hs_29 rfl); clear hA251
 rw [hv_33] at hs_33
 have hA257 : Fr 131 [] [(123, (Value.int .i64 (stHi plan (showF R rs plan true)))), (119, (Value.bool true)), (16, (Value.int .i64 0)), (15, (Value.bool true)), (14, (Value.int .i64 0)), (13, (Value.bool true)), (12, (Value.int .i64 0)), (11, u145), (10, (Value.int .i64 0)), (9, u102), (7, (bptr b62 0)), (2, vp)] a249 := hA256.add (slot_ev hs_33 rfl); clear hA256
 rw [hv_35] at hs_35
 have hA258 : Fr 131 [] [(125, (Value.int .i64 (stHi plan (mostR R rs plan)))), (123, (Value.int .i64 (stHi plan (showF R rs plan true)))), (119, (Value.bool true)), (16, (Value.int .i64 0)), (15, (Value.bool true)), (14, (Value.int .i64 0)), (13, (Value.bool true)), (12, (Value.int .i64 0)), (11, u145), (10, (Value.int .i64 0)), (9, u102), (7, (bptr b62 0)), (2, vp)] a249 := hA257.add (slot_ev hs_35 rfl); clear hA257
 clear hH253 hS252 hs_0 hs_1 hs_2 hs_3 hs_4 hs_5 hs_6 hs_7 hs_8 hs_9 hs_10 hs_11 hs_12 hs_13 hs_14 hs_15 hs_16 hs_17 hs_18 hs_19 hs_20 hs_21 hs_22 hs_23 hs_24 hs_25 hs_26 hs_27 hs_28 hs_29 hs_30 hs_31 hs_32 hs_33 hs_34 hs_35
 clear hr_0
 clear hv_0
 clear hr_1
 clear hv_1
 clear hr_2
 clear hv_2
 clear hr_3
 clear hv_3
 clear hr_4
 clear hv_4
 clear hr_5
 clear hv_5
 clear hr_6
 clear hv_6
 clear hr_7
 clear hv_7
 clear hr_8
 clear hv_8
 clear hr_9
 clear hv_9
 clear hr_10
 clear hv_10
 clear hr_11
 clear hv_11
 clear hr_12
 clear hv_12
 clear hr_13
 clear hv_13
 clear hr_14
 clear hv_14
 clear hr_15
 clear hv_15
 clear hr_16
 clear hv_16
 clear hr_17
 clear hv_17
 clear hr_18
 clear hv_18
 clear hr_19
 clear hv_19
 clear hr_20
 clear hv_20
 clear hr_21
 clear hv_21
 clear hr_22
 clear hv_22
 clear hr_23
 clear hv_23
 clear hr_24
 clear hv_24
 clear hr_25
 clear hv_25
 clear hr_26
 clear hv_26
 clear hr_27
 clear hv_27
 clear hr_28
 clear hv_28
 clear hr_29
 clear hv_29
 clear hr_30
 clear hv_30
 clear hr_31
 clear hv_31
 clear hr_32
 clear hv_32
 clear hr_33
 clear hv_33
 clear hr_34
 clear hv_34
 clear hr_35
 clear hv_35
 refine stg hA258 (op_eql rfl (hA258.ev rfl) (hA258.ev rfl)) rfl rfl rfl rfl (by decide) fun a259 hA260 => ?_; clear hA258 a249
 have hd261 : (stHi plan (showF R rs plan true)) = (stHi plan (mostR R rs plan)) := (show_hi hs rfl)
 rw [decide_eq_true hd261] at hA260
 refine st hA260 (op_pick_t rfl (hA260.ev rfl) (hA260.ev rfl)) rfl rfl (by decide) fun a262 hA263 => ?_; clear hA260 a259
 refine st hA263 (op_move rfl (hA263.ev rfl)) rfl rfl (by decide) fun a264 hA265 => ?_; clear hA263 a262
 refine stwg hA265 (op_call rfl en_17 ev0 (awake_ok _)) rfl rfl rfl rfl (by decide) ?_
 rintro a266 _ w268 ⟨rfl, hE269⟩ hA267; have hS270 := hS255.step hE269; clear hE269 hA265 hS255 a264
 refine st hA267 (op_pick_t rfl (hA267.ev rfl) (hA267.ev rfl)) rfl rfl (by decide) fun a271 hA272 => ?_; clear hA267 a266
 refine st hA272 (op_assign rfl (hA272.ev rfl)) rfl rfl (by decide) fun a273 hA274 => ?_; clear hA272 a271
 refine wl_nil ?_
 refine then_n ?_
 refine c_ret ?_
 refine fin_run hA274 (.inl rfl) (run_results1 hA274 rfl (.tmp rfl)) ?_
 exact ⟨rfl, hS270.ext⟩
theorem CreepEnds_ok (w : World) (R : List (Int × Int)) (vr : Value) (hm : SlAt w vr 2 R.length (pairs R)) (rs : List RunD) (lv : List Value) (vu : Value) (hx : RunsAt w vu lv rs) (plan : List Seg) (vp : Value) (hp : SlAt w vp 3 plan.length (trips plan)) : Calls Try.prog 11 #[.agg #[vr], vu, vp] w (Ret fun v w' => v = .bool true ∧ Ext NoB w w') := by
 rcases Bool.eq_false_or_eq_true (readyB R rs plan) with hf | hf
 ·rcases poss_09 (ready_is hf).2.1 with hc | hc
  ·exact CreepEnds_c w R vr hm rs lv vu hx plan vp hp hf hc
  ·exact CreepEnds_b w R vr hm rs lv vu hx plan vp hp hf hc
 ·exact CreepEnds_a w R vr hm rs lv vu hx plan vp hp hf
end Go.Proofs.Ytkkglkdnnfegkaa
