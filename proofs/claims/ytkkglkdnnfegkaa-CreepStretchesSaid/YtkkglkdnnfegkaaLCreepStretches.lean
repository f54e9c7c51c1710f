/-
  Walks through the functions of the seat, printed by a program of ours (gowalk), a theorem a function: what the call returns and what it leaves in memory.
-/
import Derived.Test.YtkkglkdnnfegkaaBd
import Derived.Test.YtkkglkdnnfegkaaBe
set_option linter.unusedSimpArgs false
set_option linter.unusedVariables false
namespace Go.Proofs.Ytkkglkdnnfegkaa
open Go.RowKit Go.Shelf Go.Eng
set_option maxHeartbeats 4000000 in
theorem CreepStretches_a (w : World) (R : List (Int × Int)) (vr : Value) (hm : SlAt w vr 2 R.length (pairs R)) (rs : List RunD) (lv : List Value) (vu : Value) (hx : RunsAt w vu lv rs) (plan : List Seg) (vp : Value) (hp : SlAt w vp 3 plan.length (trips plan)) (hi : Bool) (hf : thinB R rs plan.length = false) :
  Calls Try.prog 9 #[(Value.agg #[vr]), vu, vp, (Value.bool hi)] w (Ret fun v w' => v = .bool true ∧ Ext NoB w w') := by
 refine calls_enter Try.func9 rfl fun a0 hA0 => ?_
 replace hA0 : Fr 160 [] [(0, (Value.agg #[vr])), (1, vu), (2, vp), (3, (Value.bool hi))] a0 := hA0
 have hS0 : Sep NoB w w [(sl vr 2 R.length (pairs R)), (runsR false vu lv rs), (sl vp 3 plan.length (trips plan))] := sep_ro ⟨rfl, hm, rfl, hx, rfl, hp, trivial⟩
 refine c_seq ?_
 refine c_region ?_
 refine stw hA0 (op_box hS0 rfl (hA0.ev rfl) (cs := [vr]) rfl) rfl rfl (by decide) ?_
 rintro a1 _ w3 ⟨b4, rfl, hS5⟩ hA2; clear hA0 hS0 a0
 refine st hA2 (op_assign rfl (evc _ _)) rfl rfl (by decide) fun a6 hA7 => ?_; clear hA2 a1
 refine wl_nil ?_
 refine then_n ?_
 refine c_seq ?_
 refine c_seq ?_
 refine c_region ?_
 refine st hA7 (op_loadA rfl ty_24 (hA7.ev rfl) (hS5.bk 0 rfl) (l := [vr]) rfl rfl) rfl rfl (by decide) fun a8 hA9 => ?_; clear hA7 a6
 refine st hA9 (op_move rfl (hA9.ev rfl)) rfl rfl (by decide) fun a10 hA11 => ?_; clear hA9 a8
 refine st hA11 (op_move rfl (hA11.ev rfl)) rfl rfl (by decide) fun a12 hA13 => ?_; clear hA11 a10
 refine stw hA13 (op_call rfl en_16 (ev3 (hA13.ev rfl) (hA13.ev rfl) (hA13.ev rfl)) (Thin_ok _ R _ (hS5.sk 1 rfl) rs _ _ (runs_at (hS5.ok 2 _ rfl)) plan _ (hS5.sk 3 rfl))) rfl rfl (by decide) ?_
 rintro a14 _ w16 ⟨rfl, hE17⟩ hA15; have hS18 := hS5.step hE17; clear hE17 hA13 hS5 a12
 rw [hf] at hA15
 refine st hA15 (op_not rfl (hA15.ev rfl)) rfl rfl (by decide) fun a19 hA20 => ?_; clear hA15 a14
 refine wl_nil ?_
 refine then_n ?_
 refine c_true hA20 rfl ?_
 refine c_seq ?_
 have hA21 := hA20.as [] rfl; clear hA20
 refine c_region ?_
 refine stw hA21 (op_call rfl en_17 ev0 (awake_ok _)) rfl rfl (by decide) ?_
 rintro a22 _ w24 ⟨rfl, hE25⟩ hA23; have hS26 := hS18.step hE25; clear hE25 hA21 hS18 a19
 refine st hA23 (op_assign rfl (hA23.ev rfl)) rfl rfl (by decide) fun a27 hA28 => ?_; clear hA23 a22
 refine wl_nil ?_
 refine then_n ?_
 refine c_ret ?_
 refine then_ret ?_
 refine fin_run hA28 (.inl rfl) (run_results1 hA28 rfl (.tmp rfl)) ?_
 exact ⟨rfl, hS26.ext⟩
set_option maxHeartbeats 4000000 in
theorem CreepStretches_b (w : World) (R : List (Int × Int)) (vr : Value) (hm : SlAt w vr 2 R.length (pairs R)) (rs : List RunD) (lv : List Value) (vu : Value) (hx : RunsAt w vu lv rs) (plan : List Seg) (vp : Value) (hp : SlAt w vp 3 plan.length (trips plan)) (hi : Bool) (hf : thinB R rs plan.length = true) (hc : possF R rs ≠ 0) :
  Calls Try.prog 9 #[(Value.agg #[vr]), vu, vp, (Value.bool hi)] w (Ret fun v w' => v = .bool true ∧ Ext NoB w w') := by
 refine calls_enter Try.func9 rfl fun a0 hA0 => ?_
 replace hA0 : Fr 160 [] [(0, (Value.agg #[vr])), (1, vu), (2, vp), (3, (Value.bool hi))] a0 := hA0
 have hth := thin_of hf; have h6 := hth.mat; have h9 := hth.runs; have h12 := hth.plan; have hle_ := plan_p (plan := plan) hc; have hlz : planF R rs plan ≠ 0 := by rw [hle_]; exact hc
 have hS0 : Sep NoB w w [(sl vr 2 R.length (pairs R)), (runsR false vu lv rs), (sl vp 3 plan.length (trips plan))] := sep_ro ⟨rfl, hm, rfl, hx, rfl, hp, trivial⟩
 refine c_seq ?_
 refine c_region ?_
 refine stw hA0 (op_box hS0 rfl (hA0.ev rfl) (cs := [vr]) rfl) rfl rfl (by decide) ?_
 rintro a1 _ w3 ⟨b4, rfl, hS5⟩ hA2; clear hA0 hS0 a0
 refine st hA2 (op_assign rfl (evc _ _)) rfl rfl (by decide) fun a6 hA7 => ?_; clear hA2 a1
 refine wl_nil ?_
 refine then_n ?_
 refine c_seq ?_
 refine c_seq ?_
 refine c_region ?_
 refine st hA7 (op_loadA rfl ty_24 (hA7.ev rfl) (hS5.bk 0 rfl) (l := [vr]) rfl rfl) rfl rfl (by decide) fun a8 hA9 => ?_; clear hA7 a6
 refine st hA9 (op_move rfl (hA9.ev rfl)) rfl rfl (by decide) fun a10 hA11 => ?_; clear hA9 a8
 refine st hA11 (op_move rfl (hA11.ev rfl)) rfl rfl (by decide) fun a12 hA13 => ?_; clear hA11 a10
 refine stw hA13 (op_call rfl en_16 (ev3 (hA13.ev rfl) (hA13.ev rfl) (hA13.ev rfl)) (Thin_ok _ R _ (hS5.sk 1 rfl) rs _ _ (runs_at (hS5.ok 2 _ rfl)) plan _ (hS5.sk 3 rfl))) rfl rfl (by decide) ?_
 rintro a14 _ w16 ⟨rfl, hE17⟩ hA15; have hS18 := hS5.step hE17; clear hE17 hA13 hS5 a12
 rw [hf] at hA15
 refine st hA15 (op_not rfl (hA15.ev rfl)) rfl rfl (by decide) fun a19 hA20 => ?_; clear hA15 a14
 refine wl_nil ?_
 refine then_n ?_
 refine c_false hA20 rfl ?_
 refine c_skip ?_
 refine then_n ?_
 refine c_seq ?_
 have hA21 := hA20.as [(4, (bptr b4 0)), (1, vu), (2, vp), (3, (Value.bool hi))] rfl; clear hA20
 refine c_region ?_
 refine st hA21 (op_loadA rfl ty_24 (hA21.ev rfl) (hS18.bk 0 rfl) (l := [vr]) rfl rfl) rfl rfl (by decide) fun a22 hA23 => ?_; clear hA21 a19
 refine stw hA23 (op_call rfl en_19 (ev1 (hA23.ev rfl)) (Material_ok _ R _ (hS18.sk 1 rfl) hth.mat)) rfl rfl (by decide) ?_
 rintro a24 _ w26 ⟨u29, rfl, hT27⟩ hA25; have hS28 := hS18.callS hT27 rfl; clear hT27 hA23 hS18 a22
 refine st hA25 (op_move rfl (hA25.ev rfl)) rfl rfl (by decide) fun a30 hA31 => ?_; clear hA25 a24
 refine stw hA31 (op_call rfl en_20 (ev1 (hA31.ev rfl)) (Runs_ok _ rs _ _ (runs_at (hS28.ok 3 _ rfl)) hth.runs hth.segs)) rfl rfl (by decide) ?_
 rintro a32 v37 w34 ⟨lv38, hT35⟩ hA33; have hS36 := hS28.callS hT35 rfl; clear hT35 hA31 hS28 a30
 refine st hA33 (op_move rfl (hA33.ev rfl)) rfl rfl (by decide) fun a39 hA40 => ?_; clear hA33 a32
 refine stw hA40 (op_call rfl en_29 (ev1 (hA40.ev rfl)) (Plan_ok _ plan _ (hS36.sk 5 rfl) (by omega))) rfl rfl (by decide) ?_
 rintro a41 v47 w43 ⟨hE44, hO45⟩ hA42; have hS46 := hS36.new_row hE44 hO45; clear hE44 hO45 hA40 hS36 a39
 refine stw hA42 (op_call rfl en_28 (ev3 (hA42.ev rfl) (hA42.ev rfl) (hA42.ev rfl)) (stretch_bad R rs lv38 u29 v37 _ (SlAt.of_row (hS46.ok_row 2 rfl)) (runs_at (hS46.ok 1 _ rfl)) (by omega) (by omega) plan v47 (SlAt.of_row (hS46.ok_row 0 rfl)) (by omega) hlz)) rfl rfl (by decide) ?_
 rintro a48 _ w50 ⟨rfl, hE51⟩ hA49; have hS52 := hS46.step hE51; clear hE51 hA42 hS46 a41
 refine st hA49 (op_move rfl (hA49.ev rfl)) rfl rfl (by decide) fun a53 hA54 => ?_; clear hA49 a48
 refine st hA54 (op_extract rfl (hA54.ev rfl) rfl) rfl rfl (by decide) fun a55 hA56 => ?_; clear hA54 a53
 refine st hA56 (op_extract rfl (hA56.ev rfl) rfl) rfl rfl (by decide) fun a57 hA58 => ?_; clear hA56 a55
 refine stw hA58 (op_alloc hS52 rfl ze_42 (cs := [(Value.int .i64 0), (Value.int .i64 0)]) rfl) rfl rfl (by decide) ?_
 rintro a59 _ w61 ⟨b62, rfl, hS63⟩ hA60; clear hA58 hS52 a57
 refine sts hA60 (op_store hS63 rfl ty_42 (hA60.ev rfl) (hA60.ev rfl) (i := 0) rfl (vs := [(Value.int .i64 0), (Value.int .i64 0)]) rfl rfl rfl (Nat.le_of_ble_eq_true rfl)) rfl rfl ?_
 intro _ w64 hS65 hA66; clear hA60
 have hS67 : Sep NoB w w64 [(blk b62 42 [(Value.int .i64 0), (Value.int .i64 0)]), (row v47 67 3 plan.length (trips plan)), (runsR true v37 lv38 rs), (row u29 42 2 R.length (pairs R)), (blk b4 24 [vr]), (sl vr 2 R.length (pairs R)), (runsR false vu lv rs), (sl vp 3 plan.length (trips plan))] := hS65; clear hS65 hS63
 refine st hA66 (op_assign rfl (hA66.ev rfl)) rfl rfl (by decide) fun a68 hA69 => ?_; clear hA66 a59
 refine wl_nil ?_
 refine then_n ?_
 refine c_seq ?_
 have hA70 := hA69.as [(10, (Value.int .i64 (planF R rs plan))), (9, (bptr b62 0)), (4, (bptr b4 0)), (1, vu), (2, vp), (3, (Value.bool hi))] rfl; clear hA69
 refine c_region ?_
 refine st hA70 (op_loadA rfl ty_24 (hA70.ev rfl) (hS67.bk 4 rfl) (l := [vr]) rfl rfl) rfl rfl (by decide) fun a71 hA72 => ?_; clear hA70 a68
 refine stw hA72 (op_call rfl en_19 (ev1 (hA72.ev rfl)) (Material_ok _ R _ (hS67.sk 5 rfl) hth.mat)) rfl rfl (by decide) ?_
 rintro a73 _ w75 ⟨u78, rfl, hT76⟩ hA74; have hS77 := hS67.callS hT76 rfl; clear hT76 hA72 hS67 a71
 refine st hA74 (op_move rfl (hA74.ev rfl)) rfl rfl (by decide) fun a79 hA80 => ?_; clear hA74 a73
 refine stw hA80 (op_call rfl en_20 (ev1 (hA80.ev rfl)) (Runs_ok _ rs _ _ (runs_at (hS77.ok 7 _ rfl)) hth.runs hth.segs)) rfl rfl (by decide) ?_
 rintro a81 v86 w83 ⟨lv87, hT84⟩ hA82; have hS85 := hS77.callS hT84 rfl; clear hT84 hA80 hS77 a79
 refine st hA82 (op_move rfl (hA82.ev rfl)) rfl rfl (by decide) fun a88 hA89 => ?_; clear hA82 a81
 refine stw hA89 (op_call rfl en_29 (ev1 (hA89.ev rfl)) (Plan_ok _ plan _ (hS85.sk 9 rfl) (by omega))) rfl rfl (by decide) ?_
 rintro a90 v96 w92 ⟨hE93, hO94⟩ hA91; have hS95 := hS85.new_row hE93 hO94; clear hE93 hO94 hA89 hS85 a88
 refine st hA91 (op_move rfl (hA91.ev rfl)) rfl rfl (by decide) fun a97 hA98 => ?_; clear hA91 a90
 refine stw hA98 (op_call rfl en_32 (ev4 (hA98.ev rfl) (hA98.ev rfl) (hA98.ev rfl) (hA98.ev rfl)) (shows_bad R rs lv87 u78 v86 _ (SlAt.of_row (hS95.ok_row 2 rfl)) (runs_at (hS95.ok 1 _ rfl)) (by omega) (by omega) plan v96 (SlAt.of_row (hS95.ok_row 0 rfl)) (by omega) hi hlz)) rfl rfl (by decide) ?_
 rintro a99 _ w101 ⟨rfl, hE102⟩ hA100; have hS103 := hS95.step hE102; clear hE102 hA98 hS95 a97
 refine st hA100 (op_move rfl (hA100.ev rfl)) rfl rfl (by decide) fun a104 hA105 => ?_; clear hA100 a99
 refine st hA105 (op_extract rfl (hA105.ev rfl) rfl) rfl rfl (by decide) fun a106 hA107 => ?_; clear hA105 a104
 refine st hA107 (op_extract rfl (hA107.ev rfl) rfl) rfl rfl (by decide) fun a108 hA109 => ?_; clear hA107 a106
 refine st hA109 (op_assign rfl (hA109.ev rfl)) rfl rfl (by decide) fun a110 hA111 => ?_; clear hA109 a108
 refine st hA111 (op_assign rfl (hA111.ev rfl)) rfl rfl (by decide) fun a112 hA113 => ?_; clear hA111 a110
 refine wl_nil ?_
 refine then_n ?_
 refine c_seq ?_
 have hA114 := hA113.as [(12, (Value.int .i64 (planF R rs plan))), (11, (Value.slice none 0 0)), (10, (Value.int .i64 (planF R rs plan))), (9, (bptr b62 0)), (4, (bptr b4 0)), (1, vu), (2, vp), (3, (Value.bool hi))] rfl; clear hA113
 refine c_region ?_
 refine st hA114 (op_loadA rfl ty_24 (hA114.ev rfl) (hS103.bk 7 rfl) (l := [vr]) rfl rfl) rfl rfl (by decide) fun a115 hA116 => ?_; clear hA114 a112
 refine st hA116 (op_move rfl (hA116.ev rfl)) rfl rfl (by decide) fun a117 hA118 => ?_; clear hA116 a115
 refine stw hA118 (op_call rfl en_21 (ev2 (hA118.ev rfl) (hA118.ev rfl)) (asked_ok _ R _ (hS103.sk 8 rfl) rs _ _ (runs_at (hS103.ok 9 _ rfl)))) rfl rfl (by decide) ?_
 rintro a119 _ w121 ⟨rfl, hE122⟩ hA120; have hS123 := hS103.step hE122; clear hE122 hA118 hS103 a117
 refine st hA120 (op_assign rfl (hA120.ev rfl)) rfl rfl (by decide) fun a124 hA125 => ?_; clear hA120 a119
 refine wl_nil ?_
 refine then_n ?_
 refine c_seq ?_
 refine c_seq ?_
 refine c_region ?_
 refine st hA125 (op_move rfl (hA125.ev rfl)) rfl rfl (by decide) fun a126 hA127 => ?_; clear hA125 a124
 refine st hA127 (op_eql rfl (hA127.ev rfl) (evc _ _)) rfl rfl (by decide) fun a128 hA129 => ?_; clear hA127 a126
 have hd130 : ¬ ((possF R rs) = 0) := hc
 rw [decide_eq_false hd130] at hA129
 refine st hA129 (op_move rfl (hA129.ev rfl)) rfl rfl (by decide) fun a131 hA132 => ?_; clear hA129 a128
 refine skp hA132 rfl rfl rfl rfl rfl (by decide) fun a133 hA134 => ?_; clear hA132 a131
 refine skp hA134 rfl rfl rfl rfl rfl (by decide) fun a135 hA136 => ?_; clear hA134 a133
 refine skp hA136 rfl rfl rfl rfl rfl (by decide) fun a137 hA138 => ?_; clear hA136 a135
 refine skp hA138 rfl rfl rfl rfl rfl (by decide) fun a139 hA140 => ?_; clear hA138 a137
 refine st hA140 (op_pick_f rfl (hA140.ev rfl) (evc _ _)) rfl rfl (by decide) fun a141 hA142 => ?_; clear hA140 a139
 refine wl_nil ?_
 refine then_n ?_
 refine c_false hA142 rfl ?_
 refine c_skip ?_
 refine then_n ?_
 refine c_seq ?_
 refine c_seq ?_
 have hA143 := hA142.as [(13, (Value.int .i64 (possF R rs))), (12, (Value.int .i64 (planF R rs plan))), (11, (Value.slice none 0 0)), (10, (Value.int .i64 (planF R rs plan))), (9, (bptr b62 0)), (4, (bptr b4 0)), (1, vu), (2, vp), (3, (Value.bool hi))] rfl; clear hA142
 refine c_region ?_
 refine st hA143 (op_move rfl (hA143.ev rfl)) rfl rfl (by decide) fun a144 hA145 => ?_; clear hA143 a141
 refine st hA145 (op_neq rfl (hA145.ev rfl) (evc _ _)) rfl rfl (by decide) fun a146 hA147 => ?_; clear hA145 a144
 rw [decide_eq_false hd130] at hA147
 refine wl_nil ?_
 refine then_n ?_
 refine c_true hA147 rfl ?_
 refine c_seq ?_
 have hA148 := hA147.as [(13, (Value.int .i64 (possF R rs))), (12, (Value.int .i64 (planF R rs plan))), (11, (Value.slice none 0 0)), (10, (Value.int .i64 (planF R rs plan))), (9, (bptr b62 0))] rfl; clear hA147
 refine c_region ?_
 refine st hA148 (op_move rfl (hA148.ev rfl)) rfl rfl (by decide) fun a149 hA150 => ?_; clear hA148 a146
 refine st hA150 (op_move rfl (hA150.ev rfl)) rfl rfl (by decide) fun a151 hA152 => ?_; clear hA150 a149
 refine st hA152 (op_eql rfl (hA152.ev rfl) (hA152.ev rfl)) rfl rfl (by decide) fun a153 hA154 => ?_; clear hA152 a151
 have hd155 : (planF R rs plan) = (possF R rs) := hle_
 rw [decide_eq_true hd155] at hA154
 refine st hA154 (op_move rfl (hA154.ev rfl)) rfl rfl (by decide) fun a156 hA157 => ?_; clear hA154 a153
 refine stg hA157 (op_move rfl (hA157.ev rfl)) rfl rfl rfl rfl (by decide) fun a158 hA159 => ?_; clear hA157 a156
 refine stg hA159 (op_move rfl (hA159.ev rfl)) rfl rfl rfl rfl (by decide) fun a160 hA161 => ?_; clear hA159 a158
 refine stg hA161 (op_eql rfl (hA161.ev rfl) (hA161.ev rfl)) rfl rfl rfl rfl (by decide) fun a162 hA163 => ?_; clear hA161 a160
 rw [decide_eq_true hd155] at hA163
 refine st hA163 (op_pick_t rfl (hA163.ev rfl) (hA163.ev rfl)) rfl rfl (by decide) fun a164 hA165 => ?_; clear hA163 a162
 refine st hA165 (op_move rfl (hA165.ev rfl)) rfl rfl (by decide) fun a166 hA167 => ?_; clear hA165 a164
 refine stg hA167 (op_loadA rfl ty_42 (hA167.ev rfl) (hS123.bk 3 rfl) (l := [(Value.int .i64 0), (Value.int .i64 0)]) rfl rfl) rfl rfl rfl rfl (by decide) fun a168 hA169 => ?_; clear hA167 a166
 refine stg hA169 (op_build rfl pv0 bd_42_) rfl rfl rfl rfl (by decide) fun a170 hA171 => ?_; clear hA169 a168
 refine stg hA171 (op_eqlP tw_42 rfl (hA171.ev rfl) (hA171.ev rfl)) rfl rfl rfl rfl (by decide) fun a172 hA173 => ?_; clear hA171 a170
 have hd174 : (decide ((0 : Int) = 0) && decide ((0 : Int) = 0)) = true := by simp only [decide_true, Bool.and_self]
 rw [hd174] at hA173
 have hq175 := hd174; simp only [Bool.and_eq_true, Bool.and_eq_false_iff, decide_eq_true_eq, decide_eq_false_iff_not] at hq175
 refine st hA173 (op_pick_t rfl (hA173.ev rfl) (hA173.ev rfl)) rfl rfl (by decide) fun a176 hA177 => ?_; clear hA173 a172
 refine st hA177 (op_move rfl (hA177.ev rfl)) rfl rfl (by decide) fun a178 hA179 => ?_; clear hA177 a176
 refine stg hA179 (op_move rfl (hA179.ev rfl)) rfl rfl rfl rfl (by decide) fun a180 hA181 => ?_; clear hA179 a178
 refine stg hA181 (op_len rfl un_40 (hA181.ev rfl)) rfl rfl rfl rfl (by decide) fun a182 hA183 => ?_; clear hA181 a180
 refine stg hA183 (op_eql rfl (hA183.ev rfl) (evc _ _)) rfl rfl rfl rfl (by decide) fun a184 hA185 => ?_; clear hA183 a182
 have hd186 : ((0 : Nat) : Int) = 0 := rfl
 rw [decide_eq_true hd186] at hA185
 refine st hA185 (op_pick_t rfl (hA185.ev rfl) (hA185.ev rfl)) rfl rfl (by decide) fun a187 hA188 => ?_; clear hA185 a184
 refine st hA188 (op_move rfl (hA188.ev rfl)) rfl rfl (by decide) fun a189 hA190 => ?_; clear hA188 a187
 refine stwg hA190 (op_call rfl en_17 ev0 (awake_ok _)) rfl rfl rfl rfl (by decide) ?_
 rintro a191 _ w193 ⟨rfl, hE194⟩ hA192; have hS195 := hS123.step hE194; clear hE194 hA190 hS123 a189
 refine st hA192 (op_pick_t rfl (hA192.ev rfl) (hA192.ev rfl)) rfl rfl (by decide) fun a196 hA197 => ?_; clear hA192 a191
 refine st hA197 (op_assign rfl (hA197.ev rfl)) rfl rfl (by decide) fun a198 hA199 => ?_; clear hA197 a196
 refine wl_nil ?_
 refine then_n ?_
 refine c_ret ?_
 refine then_ret ?_
 refine fin_run hA199 (.inl rfl) (run_results1 hA199 rfl (.tmp rfl)) ?_
 exact ⟨rfl, hS195.ext⟩
set_option maxHeartbeats 4000000 in
theorem CreepStretches_c (w : World) (R : List (Int × Int)) (vr : Value) (hm : SlAt w vr 2 R.length (pairs R)) (rs : List RunD) (lv : List Value) (vu : Value) (hx : RunsAt w vu lv rs) (plan : List Seg) (vp : Value) (hp : SlAt w vp 3 plan.length (trips plan)) (hi : Bool) (hf : thinB R rs plan.length = true) (hc : possF R rs = 0) (hb : planB R plan = false) :
  Calls Try.prog 9 #[(Value.agg #[vr]), vu, vp, (Value.bool hi)] w (Ret fun v w' => v = .bool true ∧ Ext NoB w w') := by
 refine calls_enter Try.func9 rfl fun a0 hA0 => ?_
 replace hA0 : Fr 160 [] [(0, (Value.agg #[vr])), (1, vu), (2, vp), (3, (Value.bool hi))] a0 := hA0
 have hth := thin_of hf; have h6 := hth.mat; have h9 := hth.runs; have h12 := hth.plan; have hle_ : planF R rs plan = 2 := plan_2 hc (fun h => by simp [planB, h.1, h.2] at hb); have hlz : planF R rs plan ≠ 0 := by rw [hle_]; decide
 have hS0 : Sep NoB w w [(sl vr 2 R.length (pairs R)), (runsR false vu lv rs), (sl vp 3 plan.length (trips plan))] := sep_ro ⟨rfl, hm, rfl, hx, rfl, hp, trivial⟩
 refine c_seq ?_
 refine c_region ?_
 refine stw hA0 (op_box hS0 rfl (hA0.ev rfl) (cs := [vr]) rfl) rfl rfl (by decide) ?_
 rintro a1 _ w3 ⟨b4, rfl, hS5⟩ hA2; clear hA0 hS0 a0
 refine st hA2 (op_assign rfl (evc _ _)) rfl rfl (by decide) fun a6 hA7 => ?_; clear hA2 a1
 refine wl_nil ?_
 refine then_n ?_
 refine c_seq ?_
 refine c_seq ?_
 refine c_region ?_
 refine st hA7 (op_loadA rfl ty_24 (hA7.ev rfl) (hS5.bk 0 rfl) (l := [vr]) rfl rfl) rfl rfl (by decide) fun a8 hA9 => ?_; clear hA7 a6
 refine st hA9 (op_move rfl (hA9.ev rfl)) rfl rfl (by decide) fun a10 hA11 => ?_; clear hA9 a8
 refine st hA11 (op_move rfl (hA11.ev rfl)) rfl rfl (by decide) fun a12 hA13 => ?_; clear hA11 a10
 refine stw hA13 (op_call rfl en_16 (ev3 (hA13.ev rfl) (hA13.ev rfl) (hA13.ev rfl)) (Thin_ok _ R _ (hS5.sk 1 rfl) rs _ _ (runs_at (hS5.ok 2 _ rfl)) plan _ (hS5.sk 3 rfl))) rfl rfl (by decide) ?_
 rintro a14 _ w16 ⟨rfl, hE17⟩ hA15; have hS18 := hS5.step hE17; clear hE17 hA13 hS5 a12
 rw [hf] at hA15
 refine st hA15 (op_not rfl (hA15.ev rfl)) rfl rfl (by decide) fun a19 hA20 => ?_; clear hA15 a14
 refine wl_nil ?_
 refine then_n ?_
 refine c_false hA20 rfl ?_
 refine c_skip ?_
 refine then_n ?_
 refine c_seq ?_
 have hA21 := hA20.as [(4, (bptr b4 0)), (1, vu), (2, vp), (3, (Value.bool hi))] rfl; clear hA20
 refine c_region ?_
 refine st hA21 (op_loadA rfl ty_24 (hA21.ev rfl) (hS18.bk 0 rfl) (l := [vr]) rfl rfl) rfl rfl (by decide) fun a22 hA23 => ?_; clear hA21 a19
 refine stw hA23 (op_call rfl en_19 (ev1 (hA23.ev rfl)) (Material_ok _ R _ (hS18.sk 1 rfl) hth.mat)) rfl rfl (by decide) ?_
 rintro a24 _ w26 ⟨u29, rfl, hT27⟩ hA25; have hS28 := hS18.callS hT27 rfl; clear hT27 hA23 hS18 a22
 refine st hA25 (op_move rfl (hA25.ev rfl)) rfl rfl (by decide) fun a30 hA31 => ?_; clear hA25 a24
 refine stw hA31 (op_call rfl en_20 (ev1 (hA31.ev rfl)) (Runs_ok _ rs _ _ (runs_at (hS28.ok 3 _ rfl)) hth.runs hth.segs)) rfl rfl (by decide) ?_
 rintro a32 v37 w34 ⟨lv38, hT35⟩ hA33; have hS36 := hS28.callS hT35 rfl; clear hT35 hA31 hS28 a30
 refine st hA33 (op_move rfl (hA33.ev rfl)) rfl rfl (by decide) fun a39 hA40 => ?_; clear hA33 a32
 refine stw hA40 (op_call rfl en_29 (ev1 (hA40.ev rfl)) (Plan_ok _ plan _ (hS36.sk 5 rfl) (by omega))) rfl rfl (by decide) ?_
 rintro a41 v47 w43 ⟨hE44, hO45⟩ hA42; have hS46 := hS36.new_row hE44 hO45; clear hE44 hO45 hA40 hS36 a39
 refine stw hA42 (op_call rfl en_28 (ev3 (hA42.ev rfl) (hA42.ev rfl) (hA42.ev rfl)) (stretch_bad R rs lv38 u29 v37 _ (SlAt.of_row (hS46.ok_row 2 rfl)) (runs_at (hS46.ok 1 _ rfl)) (by omega) (by omega) plan v47 (SlAt.of_row (hS46.ok_row 0 rfl)) (by omega) hlz)) rfl rfl (by decide) ?_
 rintro a48 _ w50 ⟨rfl, hE51⟩ hA49; have hS52 := hS46.step hE51; clear hE51 hA42 hS46 a41
 refine st hA49 (op_move rfl (hA49.ev rfl)) rfl rfl (by decide) fun a53 hA54 => ?_; clear hA49 a48
 refine st hA54 (op_extract rfl (hA54.ev rfl) rfl) rfl rfl (by decide) fun a55 hA56 => ?_; clear hA54 a53
 refine st hA56 (op_extract rfl (hA56.ev rfl) rfl) rfl rfl (by decide) fun a57 hA58 => ?_; clear hA56 a55
 refine stw hA58 (op_alloc hS52 rfl ze_42 (cs := [(Value.int .i64 0), (Value.int .i64 0)]) rfl) rfl rfl (by decide) ?_
 rintro a59 _ w61 ⟨b62, rfl, hS63⟩ hA60; clear hA58 hS52 a57
 refine sts hA60 (op_store hS63 rfl ty_42 (hA60.ev rfl) (hA60.ev rfl) (i := 0) rfl (vs := [(Value.int .i64 0), (Value.int .i64 0)]) rfl rfl rfl (Nat.le_of_ble_eq_true rfl)) rfl rfl ?_
 intro _ w64 hS65 hA66; clear hA60
 have hS67 : Sep NoB w w64 [(blk b62 42 [(Value.int .i64 0), (Value.int .i64 0)]), (row v47 67 3 plan.length (trips plan)), (runsR true v37 lv38 rs), (row u29 42 2 R.length (pairs R)), (blk b4 24 [vr]), (sl vr 2 R.length (pairs R)), (runsR false vu lv rs), (sl vp 3 plan.length (trips plan))] := hS65; clear hS65 hS63
 refine st hA66 (op_assign rfl (hA66.ev rfl)) rfl rfl (by decide) fun a68 hA69 => ?_; clear hA66 a59
 refine wl_nil ?_
 refine then_n ?_
 refine c_seq ?_
 have hA70 := hA69.as [(10, (Value.int .i64 (planF R rs plan))), (9, (bptr b62 0)), (4, (bptr b4 0)), (1, vu), (2, vp), (3, (Value.bool hi))] rfl; clear hA69
 refine c_region ?_
 refine st hA70 (op_loadA rfl ty_24 (hA70.ev rfl) (hS67.bk 4 rfl) (l := [vr]) rfl rfl) rfl rfl (by decide) fun a71 hA72 => ?_; clear hA70 a68
 refine stw hA72 (op_call rfl en_19 (ev1 (hA72.ev rfl)) (Material_ok _ R _ (hS67.sk 5 rfl) hth.mat)) rfl rfl (by decide) ?_
 rintro a73 _ w75 ⟨u78, rfl, hT76⟩ hA74; have hS77 := hS67.callS hT76 rfl; clear hT76 hA72 hS67 a71
 refine st hA74 (op_move rfl (hA74.ev rfl)) rfl rfl (by decide) fun a79 hA80 => ?_; clear hA74 a73
 refine stw hA80 (op_call rfl en_20 (ev1 (hA80.ev rfl)) (Runs_ok _ rs _ _ (runs_at (hS77.ok 7 _ rfl)) hth.runs hth.segs)) rfl rfl (by decide) ?_
 rintro a81 v86 w83 ⟨lv87, hT84⟩ hA82; have hS85 := hS77.callS hT84 rfl; clear hT84 hA80 hS77 a79
 refine st hA82 (op_move rfl (hA82.ev rfl)) rfl rfl (by decide) fun a88 hA89 => ?_; clear hA82 a81
 refine stw hA89 (op_call rfl en_29 (ev1 (hA89.ev rfl)) (Plan_ok _ plan _ (hS85.sk 9 rfl) (by omega))) rfl rfl (by decide) ?_
 rintro a90 v96 w92 ⟨hE93, hO94⟩ hA91; have hS95 := hS85.new_row hE93 hO94; clear hE93 hO94 hA89 hS85 a88
 refine st hA91 (op_move rfl (hA91.ev rfl)) rfl rfl (by decide) fun a97 hA98 => ?_; clear hA91 a90
 refine stw hA98 (op_call rfl en_32 (ev4 (hA98.ev rfl) (hA98.ev rfl) (hA98.ev rfl) (hA98.ev rfl)) (shows_bad R rs lv87 u78 v86 _ (SlAt.of_row (hS95.ok_row 2 rfl)) (runs_at (hS95.ok 1 _ rfl)) (by omega) (by omega) plan v96 (SlAt.of_row (hS95.ok_row 0 rfl)) (by omega) hi hlz)) rfl rfl (by decide) ?_
 rintro a99 _ w101 ⟨rfl, hE102⟩ hA100; have hS103 := hS95.step hE102; clear hE102 hA98 hS95 a97
 refine st hA100 (op_move rfl (hA100.ev rfl)) rfl rfl (by decide) fun a104 hA105 => ?_; clear hA100 a99
 refine st hA105 (op_extract rfl (hA105.ev rfl) rfl) rfl rfl (by decide) fun a106 hA107 => ?_; clear hA105 a104
 refine st hA107 (op_extract rfl (hA107.ev rfl) rfl) rfl rfl (by decide) fun a108 hA109 => ?_; clear hA107 a106
 refine st hA109 (op_assign rfl (hA109.ev rfl)) rfl rfl (by decide) fun a110 hA111 => ?_; clear hA109 a108
 refine st hA111 (op_assign rfl (hA111.ev rfl)) rfl rfl (by decide) fun a112 hA113 => ?_; clear hA111 a110
 refine wl_nil ?_
 refine then_n ?_
 refine c_seq ?_
 have hA114 := hA113.as [(12, (Value.int .i64 (planF R rs plan))), (11, (Value.slice none 0 0)), (10, (Value.int .i64 (planF R rs plan))), (9, (bptr b62 0)), (4, (bptr b4 0)), (1, vu), (2, vp), (3, (Value.bool hi))] rfl; clear hA113
 refine c_region ?_
 refine st hA114 (op_loadA rfl ty_24 (hA114.ev rfl) (hS103.bk 7 rfl) (l := [vr]) rfl rfl) rfl rfl (by decide) fun a115 hA116 => ?_; clear hA114 a112
 refine st hA116 (op_move rfl (hA116.ev rfl)) rfl rfl (by decide) fun a117 hA118 => ?_; clear hA116 a115
 refine stw hA118 (op_call rfl en_21 (ev2 (hA118.ev rfl) (hA118.ev rfl)) (asked_ok _ R _ (hS103.sk 8 rfl) rs _ _ (runs_at (hS103.ok 9 _ rfl)))) rfl rfl (by decide) ?_
 rintro a119 _ w121 ⟨rfl, hE122⟩ hA120; have hS123 := hS103.step hE122; clear hE122 hA118 hS103 a117
 refine st hA120 (op_assign rfl (hA120.ev rfl)) rfl rfl (by decide) fun a124 hA125 => ?_; clear hA120 a119
 refine wl_nil ?_
 refine then_n ?_
 refine c_seq ?_
 refine c_seq ?_
 refine c_region ?_
 refine st hA125 (op_move rfl (hA125.ev rfl)) rfl rfl (by decide) fun a126 hA127 => ?_; clear hA125 a124
 refine st hA127 (op_eql rfl (hA127.ev rfl) (evc _ _)) rfl rfl (by decide) fun a128 hA129 => ?_; clear hA127 a126
 have hd130 : (possF R rs) = 0 := hc
 rw [decide_eq_true hd130] at hA129
 refine st hA129 (op_move rfl (hA129.ev rfl)) rfl rfl (by decide) fun a131 hA132 => ?_; clear hA129 a128
 refine stg hA132 (op_loadA rfl ty_24 (hA132.ev rfl) (hS123.bk 7 rfl) (l := [vr]) rfl rfl) rfl rfl rfl rfl (by decide) fun a133 hA134 => ?_; clear hA132 a131
 refine stg hA134 (op_move rfl (hA134.ev rfl)) rfl rfl rfl rfl (by decide) fun a135 hA136 => ?_; clear hA134 a133
 refine stwg hA136 (op_call rfl en_33 (ev2 (hA136.ev rfl) (hA136.ev rfl)) (IsPlan_ok _ R _ (hS123.sk 8 rfl) plan _ (hS123.sk 10 rfl) (by omega) (by omega))) rfl rfl rfl rfl (by decide) ?_
 rintro a137 _ w139 ⟨rfl, hE140⟩ hA138; have hS141 := hS123.step hE140; clear hE140 hA136 hS123 a135
 rw [hb] at hA138
 refine stg hA138 (op_not rfl (hA138.ev rfl)) rfl rfl rfl rfl (by decide) fun a142 hA143 => ?_; clear hA138 a137
 refine st hA143 (op_pick_t rfl (hA143.ev rfl) (hA143.ev rfl)) rfl rfl (by decide) fun a144 hA145 => ?_; clear hA143 a142
 refine wl_nil ?_
 refine then_n ?_
 refine c_true hA145 rfl ?_
 have hA146 := hA145.as [(12, (Value.int .i64 (planF R rs plan))), (11, (Value.slice none 0 0)), (10, (Value.int .i64 (planF R rs plan))), (9, (bptr b62 0)), (4, (bptr b4 0)), (1, vu), (2, vp), (3, (Value.bool hi))] rfl; clear hA145
 refine c_region ?_
 refine st hA146 (op_assign rfl (evc _ _)) rfl rfl (by decide) fun a147 hA148 => ?_; clear hA146 a144
 refine wl_nil ?_
 refine then_n ?_
 refine c_seq ?_
 refine c_seq ?_
 refine c_region ?_
 refine st hA148 (op_move rfl (hA148.ev rfl)) rfl rfl (by decide) fun a149 hA150 => ?_; clear hA148 a147
 refine st hA150 (op_neq rfl (hA150.ev rfl) (evc _ _)) rfl rfl (by decide) fun a151 hA152 => ?_; clear hA150 a149
 refine wl_nil ?_
 refine then_n ?_
 refine c_true hA152 rfl ?_
 refine c_seq ?_
 have hA153 := hA152.as [(13, (Value.int .i64 2)), (12, (Value.int .i64 (planF R rs plan))), (11, (Value.slice none 0 0)), (10, (Value.int .i64 (planF R rs plan))), (9, (bptr b62 0))] rfl; clear hA152
 refine c_region ?_
 refine st hA153 (op_move rfl (hA153.ev rfl)) rfl rfl (by decide) fun a154 hA155 => ?_; clear hA153 a151
 refine st hA155 (op_move rfl (hA155.ev rfl)) rfl rfl (by decide) fun a156 hA157 => ?_; clear hA155 a154
 refine st hA157 (op_eql rfl (hA157.ev rfl) (hA157.ev rfl)) rfl rfl (by decide) fun a158 hA159 => ?_; clear hA157 a156
 have hd160 : (planF R rs plan) = 2 := hle_
 rw [decide_eq_true hd160] at hA159
 refine st hA159 (op_move rfl (hA159.ev rfl)) rfl rfl (by decide) fun a161 hA162 => ?_; clear hA159 a158
 refine stg hA162 (op_move rfl (hA162.ev rfl)) rfl rfl rfl rfl (by decide) fun a163 hA164 => ?_; clear hA162 a161
 refine stg hA164 (op_move rfl (hA164.ev rfl)) rfl rfl rfl rfl (by decide) fun a165 hA166 => ?_; clear hA164 a163
 refine stg hA166 (op_eql rfl (hA166.ev rfl) (hA166.ev rfl)) rfl rfl rfl rfl (by decide) fun a167 hA168 => ?_; clear hA166 a165
 rw [decide_eq_true hd160] at hA168
 refine st hA168 (op_pick_t rfl (hA168.ev rfl) (hA168.ev rfl)) rfl rfl (by decide) fun a169 hA170 => ?_; clear hA168 a167
 refine st hA170 (op_move rfl (hA170.ev rfl)) rfl rfl (by decide) fun a171 hA172 => ?_; clear hA170 a169
 refine stg hA172 (op_loadA rfl ty_42 (hA172.ev rfl) (hS141.bk 3 rfl) (l := [(Value.int .i64 0), (Value.int .i64 0)]) rfl rfl) rfl rfl rfl rfl (by decide) fun a173 hA174 => ?_; clear hA172 a171
 refine stg hA174 (op_build rfl pv0 bd_42_) rfl rfl rfl rfl (by decide) fun a175 hA176 => ?_; clear hA174 a173
 refine stg hA176 (op_eqlP tw_42 rfl (hA176.ev rfl) (hA176.ev rfl)) rfl rfl rfl rfl (by decide) fun a177 hA178 => ?_; clear hA176 a175
 have hd179 : (decide ((0 : Int) = 0) && decide ((0 : Int) = 0)) = true := by simp only [decide_true, Bool.and_self]
 rw [hd179] at hA178
 have hq180 := hd179; simp only [Bool.and_eq_true, Bool.and_eq_false_iff, decide_eq_true_eq, decide_eq_false_iff_not] at hq180
 refine st hA178 (op_pick_t rfl (hA178.ev rfl) (hA178.ev rfl)) rfl rfl (by decide) fun a181 hA182 => ?_; clear hA178 a177
 refine st hA182 (op_move rfl (hA182.ev rfl)) rfl rfl (by decide) fun a183 hA184 => ?_; clear hA182 a181
 refine stg hA184 (op_move rfl (hA184.ev rfl)) rfl rfl rfl rfl (by decide) fun a185 hA186 => ?_; clear hA184 a183
 refine stg hA186 (op_len rfl un_40 (hA186.ev rfl)) rfl rfl rfl rfl (by decide) fun a187 hA188 => ?_; clear hA186 a185
 refine stg hA188 (op_eql rfl (hA188.ev rfl) (evc _ _)) rfl rfl rfl rfl (by decide) fun a189 hA190 => ?_; clear hA188 a187
 have hd191 : ((0 : Nat) : Int) = 0 := rfl
 rw [decide_eq_true hd191] at hA190
 refine st hA190 (op_pick_t rfl (hA190.ev rfl) (hA190.ev rfl)) rfl rfl (by decide) fun a192 hA193 => ?_; clear hA190 a189
 refine st hA193 (op_move rfl (hA193.ev rfl)) rfl rfl (by decide) fun a194 hA195 => ?_; clear hA193 a192
 refine stwg hA195 (op_call rfl en_17 ev0 (awake_ok _)) rfl rfl rfl rfl (by decide) ?_
 rintro a196 _ w198 ⟨rfl, hE199⟩ hA197; have hS200 := hS141.step hE199; clear hE199 hA195 hS141 a194
 refine st hA197 (op_pick_t rfl (hA197.ev rfl) (hA197.ev rfl)) rfl rfl (by decide) fun a201 hA202 => ?_; clear hA197 a196
 refine st hA202 (op_assign rfl (hA202.ev rfl)) rfl rfl (by decide) fun a203 hA204 => ?_; clear hA202 a201
 refine wl_nil ?_
 refine then_n ?_
 refine c_ret ?_
 refine then_ret ?_
 refine fin_run hA204 (.inl rfl) (run_results1 hA204 rfl (.tmp rfl)) ?_
 exact ⟨rfl, hS200.ext⟩
set_option maxHeartbeats 4000000 in
theorem CreepStretches_d (w : World) (R : List (Int × Int)) (vr : Value) (hm : SlAt w vr 2 R.length (pairs R)) (rs : List RunD) (lv : List Value) (vu : Value) (hx : RunsAt w vu lv rs) (plan : List Seg) (vp : Value) (hp : SlAt w vp 3 plan.length (trips plan)) (hi : Bool) (hf : thinB R rs plan.length = true) (hc : planF R rs plan = 0) (hb : planB R plan = true) :
  Calls Try.prog 9 #[(Value.agg #[vr]), vu, vp, (Value.bool hi)] w (Ret fun v w' => v = .bool true ∧ Ext NoB w w') := by
 refine calls_enter Try.func9 rfl fun a0 hA0 => ?_
 replace hA0 : Fr 160 [] [(0, (Value.agg #[vr])), (1, vu), (2, vp), (3, (Value.bool hi))] a0 := hA0
 have hth := thin_of hf; have h6 := hth.mat; have h9 := hth.runs; have h12 := hth.plan; have hpi := poss_is (plan_is hc).1; have hal := hpi.2; have hcm := check_mat (enter_mat hpi.1); have hR := hcm.1; have hR1 := hcm.2.1; have hV := enter_runs hpi.1; have hrl := rallow_len hR hV; have hra := rallow_len1 hR hV; have hrt := ratesF_len R rs; have hle := allowed_le (rs := rs) hR; have hr0 := hra 0 (by omega); have hpl0 := plan_is hc; have hs := hpl0.2.2; have hsh := fun hi => show_are hR hV hal plan hi; have hshl := (areB_is (hsh hi).1).1; have hp8 := hpl0.2.1; have hcp := hpl0.1
 have hS0 : Sep NoB w w [(sl vr 2 R.length (pairs R)), (runsR false vu lv rs), (sl vp 3 plan.length (trips plan))] := sep_ro ⟨rfl, hm, rfl, hx, rfl, hp, trivial⟩
 refine c_seq ?_
 refine c_region ?_
 refine stw hA0 (op_box hS0 rfl (hA0.ev rfl) (cs := [vr]) rfl) rfl rfl (by decide) ?_
 rintro a1 _ w3 ⟨b4, rfl, hS5⟩ hA2; clear hA0 hS0 a0
 refine st hA2 (op_assign rfl (evc _ _)) rfl rfl (by decide) fun a6 hA7 => ?_; clear hA2 a1
 refine wl_nil ?_
 refine then_n ?_
 refine c_seq ?_
 refine c_seq ?_
 refine c_region ?_
 refine st hA7 (op_loadA rfl ty_24 (hA7.ev rfl) (hS5.bk 0 rfl) (l := [vr]) rfl rfl) rfl rfl (by decide) fun a8 hA9 => ?_; clear hA7 a6
 refine st hA9 (op_move rfl (hA9.ev rfl)) rfl rfl (by decide) fun a10 hA11 => ?_; clear hA9 a8
 refine st hA11 (op_move rfl (hA11.ev rfl)) rfl rfl (by decide) fun a12 hA13 => ?_; clear hA11 a10
 refine stw hA13 (op_call rfl en_16 (ev3 (hA13.ev rfl) (hA13.ev rfl) (hA13.ev rfl)) (Thin_ok _ R _ (hS5.sk 1 rfl) rs _ _ (runs_at (hS5.ok 2 _ rfl)) plan _ (hS5.sk 3 rfl))) rfl rfl (by decide) ?_
 rintro a14 _ w16 ⟨rfl, hE17⟩ hA15; have hS18 := hS5.step hE17; clear hE17 hA13 hS5 a12
 rw [hf] at hA15
 refine st hA15 (op_not rfl (hA15.ev rfl)) rfl rfl (by decide) fun a19 hA20 => ?_; clear hA15 a14
 refine wl_nil ?_
 refine then_n ?_
 refine c_false hA20 rfl ?_
 refine c_skip ?_
 refine then_n ?_
 refine c_seq ?_
 have hA21 := hA20.as [(4, (bptr b4 0)), (1, vu), (2, vp), (3, (Value.bool hi))] rfl; clear hA20
 refine c_region ?_
 refine st hA21 (op_loadA rfl ty_24 (hA21.ev rfl) (hS18.bk 0 rfl) (l := [vr]) rfl rfl) rfl rfl (by decide) fun a22 hA23 => ?_; clear hA21 a19
 refine stw hA23 (op_call rfl en_19 (ev1 (hA23.ev rfl)) (Material_ok _ R _ (hS18.sk 1 rfl) hth.mat)) rfl rfl (by decide) ?_
 rintro a24 _ w26 ⟨u29, rfl, hT27⟩ hA25; have hS28 := hS18.callS hT27 rfl; clear hT27 hA23 hS18 a22
 refine st hA25 (op_move rfl (hA25.ev rfl)) rfl rfl (by decide) fun a30 hA31 => ?_; clear hA25 a24
 refine stw hA31 (op_call rfl en_20 (ev1 (hA31.ev rfl)) (Runs_ok _ rs _ _ (runs_at (hS28.ok 3 _ rfl)) hth.runs hth.segs)) rfl rfl (by decide) ?_
 rintro a32 v37 w34 ⟨lv38, hT35⟩ hA33; have hS36 := hS28.callS hT35 rfl; clear hT35 hA31 hS28 a30
 refine st hA33 (op_move rfl (hA33.ev rfl)) rfl rfl (by decide) fun a39 hA40 => ?_; clear hA33 a32
 refine stw hA40 (op_call rfl en_29 (ev1 (hA40.ev rfl)) (Plan_ok _ plan _ (hS36.sk 5 rfl) (by omega))) rfl rfl (by decide) ?_
 rintro a41 v47 w43 ⟨hE44, hO45⟩ hA42; have hS46 := hS36.new_row hE44 hO45; clear hE44 hO45 hA40 hS36 a39
 refine stw hA42 (op_call rfl en_28 (ev3 (hA42.ev rfl) (hA42.ev rfl) (hA42.ev rfl)) (stretch_fine R rs lv38 u29 v37 _ (SlAt.of_row (hS46.ok_row 2 rfl)) (runs_at (hS46.ok 1 _ rfl)) (by omega) (by omega) plan v47 (SlAt.of_row (hS46.ok_row 0 rfl)) (by omega) hc)) rfl rfl (by decide) ?_
 rintro a48 _ w50 ⟨rfl, hE51⟩ hA49; have hS52 := hS46.step hE51; clear hE51 hA42 hS46 a41
 refine st hA49 (op_move rfl (hA49.ev rfl)) rfl rfl (by decide) fun a53 hA54 => ?_; clear hA49 a48
 refine st hA54 (op_extract rfl (hA54.ev rfl) rfl) rfl rfl (by decide) fun a55 hA56 => ?_; clear hA54 a53
 refine st hA56 (op_extract rfl (hA56.ev rfl) rfl) rfl rfl (by decide) fun a57 hA58 => ?_; clear hA56 a55
 refine stw hA58 (op_alloc hS52 rfl ze_42 (cs := [(Value.int .i64 0), (Value.int .i64 0)]) rfl) rfl rfl (by decide) ?_
 rintro a59 _ w61 ⟨b62, rfl, hS63⟩ hA60; clear hA58 hS52 a57
 refine sts hA60 (op_store hS63 rfl ty_42 (hA60.ev rfl) (hA60.ev rfl) (i := 0) rfl (vs := [(Value.int .i64 (stLo plan (leastR R rs plan))), (Value.int .i64 (stHi plan (mostR R rs plan)))]) rfl rfl rfl (Nat.le_of_ble_eq_true rfl)) rfl rfl ?_
 intro _ w64 hS65 hA66; clear hA60
 have hS67 : Sep NoB w w64 [(blk b62 42 [(Value.int .i64 (stLo plan (leastR R rs plan))), (Value.int .i64 (stHi plan (mostR R rs plan)))]), (row v47 67 3 plan.length (trips plan)), (runsR true v37 lv38 rs), (row u29 42 2 R.length (pairs R)), (blk b4 24 [vr]), (sl vr 2 R.length (pairs R)), (runsR false vu lv rs), (sl vp 3 plan.length (trips plan))] := hS65; clear hS65 hS63
 refine st hA66 (op_assign rfl (hA66.ev rfl)) rfl rfl (by decide) fun a68 hA69 => ?_; clear hA66 a59
 refine wl_nil ?_
 refine then_n ?_
 refine c_seq ?_
 have hA70 := hA69.as [(10, (Value.int .i64 0)), (9, (bptr b62 0)), (4, (bptr b4 0)), (1, vu), (2, vp), (3, (Value.bool hi))] rfl; clear hA69
 refine c_region ?_
 refine st hA70 (op_loadA rfl ty_24 (hA70.ev rfl) (hS67.bk 4 rfl) (l := [vr]) rfl rfl) rfl rfl (by decide) fun a71 hA72 => ?_; clear hA70 a68
 refine stw hA72 (op_call rfl en_19 (ev1 (hA72.ev rfl)) (Material_ok _ R _ (hS67.sk 5 rfl) hth.mat)) rfl rfl (by decide) ?_
 rintro a73 _ w75 ⟨u78, rfl, hT76⟩ hA74; have hS77 := hS67.callS hT76 rfl; clear hT76 hA72 hS67 a71
 refine st hA74 (op_move rfl (hA74.ev rfl)) rfl rfl (by decide) fun a79 hA80 => ?_; clear hA74 a73
 refine stw hA80 (op_call rfl en_20 (ev1 (hA80.ev rfl)) (Runs_ok _ rs _ _ (runs_at (hS77.ok 7 _ rfl)) hth.runs hth.segs)) rfl rfl (by decide) ?_
 rintro a81 v86 w83 ⟨lv87, hT84⟩ hA82; have hS85 := hS77.callS hT84 rfl; clear hT84 hA80 hS77 a79
 refine st hA82 (op_move rfl (hA82.ev rfl)) rfl rfl (by decide) fun a88 hA89 => ?_; clear hA82 a81
 refine stw hA89 (op_call rfl en_29 (ev1 (hA89.ev rfl)) (Plan_ok _ plan _ (hS85.sk 9 rfl) (by omega))) rfl rfl (by decide) ?_
 rintro a90 v96 w92 ⟨hE93, hO94⟩ hA91; have hS95 := hS85.new_row hE93 hO94; clear hE93 hO94 hA89 hS85 a88
 refine st hA91 (op_move rfl (hA91.ev rfl)) rfl rfl (by decide) fun a97 hA98 => ?_; clear hA91 a90
 refine stw hA98 (op_call rfl en_32 (ev4 (hA98.ev rfl) (hA98.ev rfl) (hA98.ev rfl) (hA98.ev rfl)) (shows_fine R rs lv87 u78 v86 _ (SlAt.of_row (hS95.ok_row 2 rfl)) (runs_at (hS95.ok 1 _ rfl)) (by omega) (by omega) plan v96 (SlAt.of_row (hS95.ok_row 0 rfl)) (by omega) hi hc)) rfl rfl (by decide) ?_
 rintro a99 _ w101 ⟨u104, rfl, hT102⟩ hA100; have hS103 := hS95.callS hT102 rfl; clear hT102 hA98 hS95 a97
 refine st hA100 (op_move rfl (hA100.ev rfl)) rfl rfl (by decide) fun a105 hA106 => ?_; clear hA100 a99
 refine st hA106 (op_extract rfl (hA106.ev rfl) rfl) rfl rfl (by decide) fun a107 hA108 => ?_; clear hA106 a105
 refine st hA108 (op_extract rfl (hA108.ev rfl) rfl) rfl rfl (by decide) fun a109 hA110 => ?_; clear hA108 a107
 refine st hA110 (op_assign rfl (hA110.ev rfl)) rfl rfl (by decide) fun a111 hA112 => ?_; clear hA110 a109
 refine st hA112 (op_assign rfl (hA112.ev rfl)) rfl rfl (by decide) fun a113 hA114 => ?_; clear hA112 a111
 refine wl_nil ?_
 refine then_n ?_
 refine c_seq ?_
 have hA115 := hA114.as [(12, (Value.int .i64 0)), (11, u104), (10, (Value.int .i64 0)), (9, (bptr b62 0)), (4, (bptr b4 0)), (1, vu), (2, vp), (3, (Value.bool hi))] rfl; clear hA114
 refine c_region ?_
 refine st hA115 (op_loadA rfl ty_24 (hA115.ev rfl) (hS103.bk 8 rfl) (l := [vr]) rfl rfl) rfl rfl (by decide) fun a116 hA117 => ?_; clear hA115 a113
 refine st hA117 (op_move rfl (hA117.ev rfl)) rfl rfl (by decide) fun a118 hA119 => ?_; clear hA117 a116
 refine stw hA119 (op_call rfl en_21 (ev2 (hA119.ev rfl) (hA119.ev rfl)) (asked_ok _ R _ (hS103.sk 9 rfl) rs _ _ (runs_at (hS103.ok 10 _ rfl)))) rfl rfl (by decide) ?_
 rintro a120 _ w122 ⟨rfl, hE123⟩ hA121; have hS124 := hS103.step hE123; clear hE123 hA119 hS103 a118
 refine st hA121 (op_assign rfl (hA121.ev rfl)) rfl rfl (by decide) fun a125 hA126 => ?_; clear hA121 a120
 refine wl_nil ?_
 refine then_n ?_
 refine c_seq ?_
 refine c_seq ?_
 refine c_region ?_
 refine st hA126 (op_move rfl (hA126.ev rfl)) rfl rfl (by decide) fun a127 hA128 => ?_; clear hA126 a125
 refine st hA128 (op_eql rfl (hA128.ev rfl) (evc _ _)) rfl rfl (by decide) fun a129 hA130 => ?_; clear hA128 a127
 have hd131 : (possF R rs) = 0 := hcp
 rw [decide_eq_true hd131] at hA130
 refine st hA130 (op_move rfl (hA130.ev rfl)) rfl rfl (by decide) fun a132 hA133 => ?_; clear hA130 a129
 refine stg hA133 (op_loadA rfl ty_24 (hA133.ev rfl) (hS124.bk 8 rfl) (l := [vr]) rfl rfl) rfl rfl rfl rfl (by decide) fun a134 hA135 => ?_; clear hA133 a132
 refine stg hA135 (op_move rfl (hA135.ev rfl)) rfl rfl rfl rfl (by decide) fun a136 hA137 => ?_; clear hA135 a134
 refine stwg hA137 (op_call rfl en_33 (ev2 (hA137.ev rfl) (hA137.ev rfl)) (IsPlan_ok _ R _ (hS124.sk 9 rfl) plan _ (hS124.sk 11 rfl) (by omega) (by omega))) rfl rfl rfl rfl (by decide) ?_
 rintro a138 _ w140 ⟨rfl, hE141⟩ hA139; have hS142 := hS124.step hE141; clear hE141 hA137 hS124 a136
 rw [hb] at hA139
 refine stg hA139 (op_not rfl (hA139.ev rfl)) rfl rfl rfl rfl (by decide) fun a143 hA144 => ?_; clear hA139 a138
 refine st hA144 (op_pick_t rfl (hA144.ev rfl) (hA144.ev rfl)) rfl rfl (by decide) fun a145 hA146 => ?_; clear hA144 a143
 refine wl_nil ?_
 refine then_n ?_
 refine c_false hA146 rfl ?_
 refine c_skip ?_
 refine then_n ?_
 refine c_seq ?_
 refine c_seq ?_
 have hA147 := hA146.as [(13, (Value.int .i64 (possF R rs))), (12, (Value.int .i64 0)), (11, u104), (10, (Value.int .i64 0)), (9, (bptr b62 0)), (4, (bptr b4 0)), (1, vu), (2, vp), (3, (Value.bool hi))] rfl; clear hA146
 refine c_region ?_
 refine st hA147 (op_move rfl (hA147.ev rfl)) rfl rfl (by decide) fun a148 hA149 => ?_; clear hA147 a145
 refine st hA149 (op_neq rfl (hA149.ev rfl) (evc _ _)) rfl rfl (by decide) fun a150 hA151 => ?_; clear hA149 a148
 rw [decide_eq_true hd131] at hA151
 refine wl_nil ?_
 refine then_n ?_
 refine c_false hA151 rfl ?_
 refine c_skip ?_
 refine then_n ?_
 refine c_seq ?_
 refine c_region ?_
 refine st hA151 (op_loadA rfl ty_24 (hA151.ev rfl) (hS142.bk 8 rfl) (l := [vr]) rfl rfl) rfl rfl (by decide) fun a152 hA153 => ?_; clear hA151 a150
 refine st hA153 (op_move rfl (hA153.ev rfl)) rfl rfl (by decide) fun a154 hA155 => ?_; clear hA153 a152
 refine stw hA155 (op_call rfl en_22 (ev2 (hA155.ev rfl) (hA155.ev rfl)) (rAllowed_ok _ R _ (hS142.sk 9 rfl) rs _ _ (runs_at (hS142.ok 10 _ rfl)) hR hR1 hV)) rfl rfl (by decide) ?_
 rintro a156 v159 w158 ⟨ov160, hT161⟩ hA157; have hS162 : Sep NoB w w158 [(row v159 40 1 ov160.length ov160), (lstR ov160 (rallowF R rs)), (row u104 3 1 ((showF R rs plan hi).length) (ints (showF R rs plan hi))), (row v96 67 3 plan.length (trips plan)), (runsR true v86 lv87 rs), (row u78 42 2 R.length (pairs R)), (blk b62 42 [(Value.int .i64 (stLo plan (leastR R rs plan))), (Value.int .i64 (stHi plan (mostR R rs plan)))]), (row v47 67 3 plan.length (trips plan)), (runsR true v37 lv38 rs), (row u29 42 2 R.length (pairs R)), (blk b4 24 [vr]), (sl vr 2 R.length (pairs R)), (runsR false vu lv rs), (sl vp 3 plan.length (trips plan))] := hS142.callS hT161 rfl; clear hT161 hA155 hS142 a154
 have hol_ral : ov160.length = (rallowF R rs).length := hS162.lst_len 1 rfl
 refine st hA157 (op_assign rfl (hA157.ev rfl)) rfl rfl (by decide) fun a163 hA164 => ?_; clear hA157 a156
 refine wl_nil ?_
 refine then_n ?_
 refine c_seq ?_
 have hA165 := hA164.as [(14, v159), (12, (Value.int .i64 0)), (11, u104), (10, (Value.int .i64 0)), (9, (bptr b62 0)), (4, (bptr b4 0)), (1, vu), (2, vp), (3, (Value.bool hi))] rfl; clear hA164
 refine c_region ?_
 refine st hA165 (op_move rfl (hA165.ev rfl)) rfl rfl (by decide) fun a166 hA167 => ?_; clear hA165 a163
 refine st hA167 (op_move rfl (hA167.ev rfl)) rfl rfl (by decide) fun a168 hA169 => ?_; clear hA167 a166
 refine st hA169 (op_indexS rfl un_38 ty_40 (hA169.ev rfl) (i := 0) (show _ = Value.int .i64 ((0 : Nat) : Int) from (evc _ _)) (SlAt.of_row (hS162.ok_row 0 rfl)) (by decide) (by omega)) rfl rfl (by decide) fun a170 hA171 => ?_; clear hA169 a168
 refine st hA171 (op_load1E rfl ty_40 (hA171.ev rfl) (SlAt.of_row (hS162.ok_row 0 rfl)) (vals_at (by omega))) rfl rfl (by decide) fun a172 hA173 => ?_; clear hA171 a170
 refine stw hA173 (op_call rfl en_34 (ev2 (hA173.ev rfl) (hA173.ev rfl)) (rStretch_ok _ plan _ (hS162.sk 13 rfl) (by omega) ((rallowF R rs).getD 0 []) _ ((hS162.ok 1 _ rfl).2 0 (by omega)) R.length hR.1 (by omega) (rallow_small hR hV _) hs)) rfl rfl (by decide) ?_
 rintro a174 _ w176 ⟨rfl, hE177⟩ hA175; have hS178 := hS162.step hE177; clear hE177 hA173 hS162 a172
 refine stw hA175 (op_alloc hS178 rfl ze_48 (cs := [(Value.int .i64 0), (Value.int .i64 0)]) rfl) rfl rfl (by decide) ?_
 rintro a179 _ w181 ⟨b182, rfl, hS183⟩ hA180; clear hA175 hS178 a174
 refine sts hA180 (op_store hS183 rfl ty_48 (hA180.ev rfl) (hA180.ev rfl) (i := 0) rfl (vs := [(Value.int .i64 (stLo plan ((rallowF R rs).getD 0 []))), (Value.int .i64 (stHi plan ((rallowF R rs).getD 0 [])))]) rfl rfl rfl (Nat.le_of_ble_eq_true rfl)) rfl rfl ?_
 intro _ w184 hS185 hA186; clear hA180
 have hS187 : Sep NoB w w184 [(blk b182 48 [(Value.int .i64 (stLo plan ((rallowF R rs).getD 0 []))), (Value.int .i64 (stHi plan ((rallowF R rs).getD 0 [])))]), (row v159 40 1 ov160.length ov160), (lstR ov160 (rallowF R rs)), (row u104 3 1 ((showF R rs plan hi).length) (ints (showF R rs plan hi))), (row v96 67 3 plan.length (trips plan)), (runsR true v86 lv87 rs), (row u78 42 2 R.length (pairs R)), (blk b62 42 [(Value.int .i64 (stLo plan (leastR R rs plan))), (Value.int .i64 (stHi plan (mostR R rs plan)))]), (row v47 67 3 plan.length (trips plan)), (runsR true v37 lv38 rs), (row u29 42 2 R.length (pairs R)), (blk b4 24 [vr]), (sl vr 2 R.length (pairs R)), (runsR false vu lv rs), (sl vp 3 plan.length (trips plan))] := hS185; clear hS185 hS183
 refine wl_nil ?_
 refine then_n ?_
 refine c_seq ?_
 refine c_seq ?_
 refine c_region ?_
 refine st hA186 (op_assign rfl (evc _ _)) rfl rfl (by decide) fun a188 hA189 => ?_; clear hA186 a179
 refine wl_nil ?_
 refine then_n ?_
 refine c_block ?_
 have hA190 := hA189.as [(16, (Value.int .i64 0)), (15, (bptr b182 0)), (14, v159), (12, (Value.int .i64 0)), (11, u104), (10, (Value.int .i64 0)), (9, (bptr b62 0)), (4, (bptr b4 0)), (1, vu), (2, vp), (3, (Value.bool hi))] rfl; clear hA189
 refine c_loop (G := Nat) (fun (k : Nat) a_ w_ => Fr 160 [] [(16, (Value.int .i64 (k : Int))), (15, (bptr b182 0)), (14, v159), (12, (Value.int .i64 0)), (11, u104), (10, (Value.int .i64 0)), (9, (bptr b62 0)), (4, (bptr b4 0)), (1, vu), (2, vp), (3, (Value.bool hi))] a_ ∧ Sep NoB w w_ [(blk b182 48 [(Value.int .i64 ((strU plan (rallowF R rs) k).1)), (Value.int .i64 ((strU plan (rallowF R rs) k).2))]), (row v159 40 1 ov160.length ov160), (lstR ov160 (rallowF R rs)), (row u104 3 1 ((showF R rs plan hi).length) (ints (showF R rs plan hi))), (row v96 67 3 plan.length (trips plan)), (runsR true v86 lv87 rs), (row u78 42 2 R.length (pairs R)), (blk b62 42 [(Value.int .i64 (stLo plan (leastR R rs plan))), (Value.int .i64 (stHi plan (mostR R rs plan)))]), (row v47 67 3 plan.length (trips plan)), (runsR true v37 lv38 rs), (row u29 42 2 R.length (pairs R)), (blk b4 24 [vr]), (sl vr 2 R.length (pairs R)), (runsR false vu lv rs), (sl vp 3 plan.length (trips plan))] ∧ (k ≤ (rallowF R rs).length)) (fun k => (rallowF R rs).length - k) 0 ⟨hA190.as _ rfl, hS187, by omega⟩ ?_
 clear hA190 hS187 a188
 rintro k a191 w193 ⟨hA192, hS194, hk⟩
 refine c_seq ?_
 refine c_seq ?_
 refine c_region ?_
 refine st hA192 (op_move rfl (hA192.ev rfl)) rfl rfl (by decide) fun a195 hA196 => ?_; clear hA192 a191
 refine st hA196 (op_move rfl (hA196.ev rfl)) rfl rfl (by decide) fun a197 hA198 => ?_; clear hA196 a195
 refine st hA198 (op_lenS rfl un_38 (hA198.ev rfl) (SlAt.of_row (hS194.ok_row 1 rfl))) rfl rfl (by decide) fun a199 hA200 => ?_; clear hA198 a197
 refine st hA200 (op_lss rfl (hA200.ev rfl) (hA200.ev rfl)) rfl rfl (by decide) fun a201 hA202 => ?_; clear hA200 a199
 refine wl_nil ?_
 refine then_n ?_
 by_cases hb203 : (k : Int) < (ov160.length : Int)
 ·skip
  rw [decide_eq_true hb203] at hA202
  have hil := hra k (by omega)
  refine c_true hA202 rfl ?_
  refine c_skip ?_
  refine then_n ?_
  refine c_seq ?_
  refine c_block ?_
  refine c_seq ?_
  refine c_region ?_
  refine st hA202 (op_move rfl (hA202.ev rfl)) rfl rfl (by decide) fun a204 hA205 => ?_; clear hA202 a201
  refine st hA205 (op_move rfl (hA205.ev rfl)) rfl rfl (by decide) fun a206 hA207 => ?_; clear hA205 a204
  refine st hA207 (op_move rfl (hA207.ev rfl)) rfl rfl (by decide) fun a208 hA209 => ?_; clear hA207 a206
  refine st hA209 (op_indexS rfl un_38 ty_40 (hA209.ev rfl) (i := k) (hA209.ev rfl) (SlAt.of_row (hS194.ok_row 1 rfl)) (by decide) (by omega)) rfl rfl (by decide) fun a210 hA211 => ?_; clear hA209 a208
  refine st hA211 (op_load1E rfl ty_40 (hA211.ev rfl) (SlAt.of_row (hS194.ok_row 1 rfl)) (vals_at (by omega))) rfl rfl (by decide) fun a212 hA213 => ?_; clear hA211 a210
  refine stw hA213 (op_call rfl en_34 (ev2 (hA213.ev rfl) (hA213.ev rfl)) (rStretch_ok _ plan _ (hS194.sk 14 rfl) (by omega) ((rallowF R rs).getD k []) _ ((hS194.ok 2 _ rfl).2 k (by omega)) R.length hR.1 (by omega) (rallow_small hR hV _) hs)) rfl rfl (by decide) ?_
  rintro a214 _ w216 ⟨rfl, hE217⟩ hA215; have hS218 := hS194.step hE217; clear hE217 hA213 hS194 a212
  refine stw hA215 (op_alloc hS218 rfl ze_48 (cs := [(Value.int .i64 0), (Value.int .i64 0)]) rfl) rfl rfl (by decide) ?_
  rintro a219 _ w221 ⟨b222, rfl, hS223⟩ hA220; clear hA215 hS218 a214
  refine sts hA220 (op_store hS223 rfl ty_48 (hA220.ev rfl) (hA220.ev rfl) (i := 0) rfl (vs := [(Value.int .i64 (stLo plan ((rallowF R rs).getD k []))), (Value.int .i64 (stHi plan ((rallowF R rs).getD k [])))]) rfl rfl rfl (Nat.le_of_ble_eq_true rfl)) rfl rfl ?_
  intro _ w224 hS225 hA226; clear hA220
  have hS227 : Sep NoB w w224 [(blk b222 48 [(Value.int .i64 (stLo plan ((rallowF R rs).getD k []))), (Value.int .i64 (stHi plan ((rallowF R rs).getD k [])))]), (blk b182 48 [(Value.int .i64 ((strU plan (rallowF R rs) k).1)), (Value.int .i64 ((strU plan (rallowF R rs) k).2))]), (row v159 40 1 ov160.length ov160), (lstR ov160 (rallowF R rs)), (row u104 3 1 ((showF R rs plan hi).length) (ints (showF R rs plan hi))), (row v96 67 3 plan.length (trips plan)), (runsR true v86 lv87 rs), (row u78 42 2 R.length (pairs R)), (blk b62 42 [(Value.int .i64 (stLo plan (leastR R rs plan))), (Value.int .i64 (stHi plan (mostR R rs plan)))]), (row v47 67 3 plan.length (trips plan)), (runsR true v37 lv38 rs), (row u29 42 2 R.length (pairs R)), (blk b4 24 [vr]), (sl vr 2 R.length (pairs R)), (runsR false vu lv rs), (sl vp 3 plan.length (trips plan))] := hS225; clear hS225 hS223
  refine wl_nil ?_
  refine then_n ?_
  have hA228 := hA226.as [(17, (bptr b222 0)), (16, (Value.int .i64 (k : Int))), (15, (bptr b182 0)), (14, v159), (12, (Value.int .i64 0)), (11, u104), (10, (Value.int .i64 0)), (9, (bptr b62 0)), (4, (bptr b4 0)), (1, vu), (2, vp), (3, (Value.bool hi))] rfl; clear hA226
  refine c_region ?_
  refine st hA228 (op_field rfl fd_48_0 (hA228.ev rfl)) rfl rfl (by decide) fun a229 hA230 => ?_; clear hA228 a219
  refine st hA230 (op_load1 rfl ty_3 (hA230.ev rfl) (hS227.bk 1 rfl) rfl) rfl rfl (by decide) fun a231 hA232 => ?_; clear hA230 a229
  refine st hA232 (op_field rfl fd_48_0 (hA232.ev rfl)) rfl rfl (by decide) fun a233 hA234 => ?_; clear hA232 a231
  refine st hA234 (op_load1 rfl ty_3 (hA234.ev rfl) (hS227.bk 0 rfl) rfl) rfl rfl (by decide) fun a235 hA236 => ?_; clear hA234 a233
  refine st hA236 (op_min rfl (hA236.ev rfl) (hA236.ev rfl)) rfl rfl (by decide) fun a237 hA238 => ?_; clear hA236 a235
  refine st hA238 (op_field rfl fd_48_1 (hA238.ev rfl)) rfl rfl (by decide) fun a239 hA240 => ?_; clear hA238 a237
  refine st hA240 (op_load1 rfl ty_3 (hA240.ev rfl) (hS227.bk 1 rfl) rfl) rfl rfl (by decide) fun a241 hA242 => ?_; clear hA240 a239
  refine st hA242 (op_field rfl fd_48_1 (hA242.ev rfl)) rfl rfl (by decide) fun a243 hA244 => ?_; clear hA242 a241
  refine st hA244 (op_load1 rfl ty_3 (hA244.ev rfl) (hS227.bk 0 rfl) rfl) rfl rfl (by decide) fun a245 hA246 => ?_; clear hA244 a243
  refine st hA246 (op_max rfl (hA246.ev rfl) (hA246.ev rfl)) rfl rfl (by decide) fun a247 hA248 => ?_; clear hA246 a245
  refine st hA248 (op_build rfl (pv2 (hA248.ev rfl) (hA248.ev rfl)) (bd_48_0i_1i _ _)) rfl rfl (by decide) fun a249 hA250 => ?_; clear hA248 a247
  refine sts hA250 (op_store hS227 rfl ty_48 (hA250.ev rfl) (hA250.ev rfl) (i := 1) rfl (vs := [(Value.int .i64 (min ((strU plan (rallowF R rs) k).1) (stLo plan ((rallowF R rs).getD k [])))), (Value.int .i64 (max ((strU plan (rallowF R rs) k).2) (stHi plan ((rallowF R rs).getD k []))))]) rfl rfl rfl (Nat.le_of_ble_eq_true rfl)) rfl rfl ?_
  intro _ w251 hS252 hA253; clear hA250
  have hS254 : Sep NoB w w251 [(blk b222 48 [(Value.int .i64 (stLo plan ((rallowF R rs).getD k []))), (Value.int .i64 (stHi plan ((rallowF R rs).getD k [])))]), (blk b182 48 [(Value.int .i64 (min ((strU plan (rallowF R rs) k).1) (stLo plan ((rallowF R rs).getD k [])))), (Value.int .i64 (max ((strU plan (rallowF R rs) k).2) (stHi plan ((rallowF R rs).getD k []))))]), (row v159 40 1 ov160.length ov160), (lstR ov160 (rallowF R rs)), (row u104 3 1 ((showF R rs plan hi).length) (ints (showF R rs plan hi))), (row v96 67 3 plan.length (trips plan)), (runsR true v86 lv87 rs), (row u78 42 2 R.length (pairs R)), (blk b62 42 [(Value.int .i64 (stLo plan (leastR R rs plan))), (Value.int .i64 (stHi plan (mostR R rs plan)))]), (row v47 67 3 plan.length (trips plan)), (runsR true v37 lv38 rs), (row u29 42 2 R.length (pairs R)), (blk b4 24 [vr]), (sl vr 2 R.length (pairs R)), (runsR false vu lv rs), (sl vp 3 plan.length (trips plan))] := hS252; clear hS252 hS227
  refine wl_nil ?_
  refine blk_n ?_
  refine then_n ?_
  have hA255 := hA253.as [(16, (Value.int .i64 (k : Int))), (15, (bptr b182 0)), (14, v159), (12, (Value.int .i64 0)), (11, u104), (10, (Value.int .i64 0)), (9, (bptr b62 0)), (4, (bptr b4 0)), (1, vu), (2, vp), (3, (Value.bool hi))] rfl; clear hA253
  refine c_region ?_
  refine st hA255 (op_move rfl (hA255.ev rfl)) rfl rfl (by decide) fun a256 hA257 => ?_; clear hA255 a249
  refine st hA257 (op_add rfl (hA257.ev rfl) (evc _ _) (by omega) (by omega)) rfl rfl (by decide) fun a258 hA259 => ?_; clear hA257 a256
  refine st hA259 (op_assign rfl (hA259.ev rfl)) rfl rfl (by decide) fun a260 hA261 => ?_; clear hA259 a258
  refine wl_nil ?_
  have hS262 : Sep NoB w w251 [(blk b182 48 [(Value.int .i64 (min ((strU plan (rallowF R rs) k).1) (stLo plan ((rallowF R rs).getD k [])))), (Value.int .i64 (max ((strU plan (rallowF R rs) k).2) (stHi plan ((rallowF R rs).getD k []))))]), (row v159 40 1 ov160.length ov160), (lstR ov160 (rallowF R rs)), (row u104 3 1 ((showF R rs plan hi).length) (ints (showF R rs plan hi))), (row v96 67 3 plan.length (trips plan)), (runsR true v86 lv87 rs), (row u78 42 2 R.length (pairs R)), (blk b62 42 [(Value.int .i64 (stLo plan (leastR R rs plan))), (Value.int .i64 (stHi plan (mostR R rs plan)))]), (row v47 67 3 plan.length (trips plan)), (runsR true v37 lv38 rs), (row u29 42 2 R.length (pairs R)), (blk b4 24 [vr]), (sl vr 2 R.length (pairs R)), (runsR false vu lv rs), (sl vp 3 plan.length (trips plan))] := hS254.keep [1, 2, 3, 4, 5, 6, 7, 8, 9, 10, 11, 12, 13, 14, 15] (by decide) _ rfl rfl; clear hS254
  exact then_n ⟨k + 1, ⟨hA261.as _ rfl, hS262, by omega⟩, by omega⟩
 ·skip
  rw [decide_eq_false hb203] at hA202
  refine c_false hA202 rfl ?_
  refine c_exit ?_
  refine then_exit ?_
  refine then_exit ?_
  refine blk_hit ?_
  refine then_n ?_
  refine c_seq ?_
  refine c_seq ?_
  have hA263 := hA202.as [(15, (bptr b182 0)), (12, (Value.int .i64 0)), (11, u104), (10, (Value.int .i64 0)), (9, (bptr b62 0)), (4, (bptr b4 0)), (1, vu), (2, vp), (3, (Value.bool hi))] rfl; clear hA202
  have hA264 := hA263.as [(15, (bptr b182 0)), (12, (Value.int .i64 0)), (11, u104), (10, (Value.int .i64 0)), (9, (bptr b62 0)), (4, (bptr b4 0)), (1, vu), (2, vp), (3, (Value.bool hi))] rfl; clear hA263
  refine c_drawV mixed hA264 hS194 21 [[], [0], [1], [2], [2], [2, 4], [2, 3, 5], [2, 6], [7], [8], [8, 9], [8, 10], [11], [12], [12], [12, 13, 14], [12, 15], [12, 16], [17], [18], [18]] [(fun (vs265 : Nat → Value) (v_ : Value) (rs_ : List Res) => v_ = (Value.int .i64 0) ∧ rs_ = []), (fun (vs265 : Nat → Value) (v_ : Value) (rs_ : List Res) => v_ = (Value.bool false) ∧ rs_ = []), (fun (vs265 : Nat → Value) (v_ : Value) (rs_ : List Res) => v_ = (Value.bool false) ∧ rs_ = []), (fun (vs265 : Nat → Value) (v_ : Value) (rs_ : List Res) => v_ = (Value.agg #[(Value.int .i64 (stLo plan (leastR R rs plan))), (Value.int .i64 (stHi plan (mostR R rs plan)))]) ∧ rs_ = []), (fun (vs265 : Nat → Value) (v_ : Value) (rs_ : List Res) => v_ = (Value.agg #[(Value.int .i64 ((strU plan (rallowF R rs) k).1)), (Value.int .i64 ((strU plan (rallowF R rs) k).2))]) ∧ rs_ = []), (fun (vs265 : Nat → Value) (v_ : Value) (rs_ : List Res) => v_ = (Value.agg #[(Value.int .i64 ((strU plan (rallowF R rs) k).1)), (Value.int .i64 ((strU plan (rallowF R rs) k).2))]) ∧ rs_ = []), (fun (vs265 : Nat → Value) (v_ : Value) (rs_ : List Res) => v_ = (Value.bool (!true)) ∧ rs_ = []), (fun (vs265 : Nat → Value) (v_ : Value) (rs_ : List Res) => v_ = (Value.bool (!true)) ∧ rs_ = []), (fun (vs265 : Nat → Value) (v_ : Value) (rs_ : List Res) => v_ = (Value.bool (!true)) ∧ rs_ = []), (fun (vs265 : Nat → Value) (v_ : Value) (rs_ : List Res) => v_ = (Value.int .i64 0) ∧ rs_ = []), (fun (vs265 : Nat → Value) (v_ : Value) (rs_ : List Res) => v_ = (Value.bool false) ∧ rs_ = []), (fun (vs265 : Nat → Value) (v_ : Value) (rs_ : List Res) => v_ = (Value.bool false) ∧ rs_ = []), (fun (vs265 : Nat → Value) (v_ : Value) (rs_ : List Res) => v_ = (Value.bool false) ∧ rs_ = []), (fun (vs265 : Nat → Value) (v_ : Value) (rs_ : List Res) => v_ = (Value.agg #[vr]) ∧ rs_ = []), (fun (vs265 : Nat → Value) (v_ : Value) (rs_ : List Res) => v_ = u104 ∧ rs_ = []), (fun (vs265 : Nat → Value) (v_ : Value) (rs_ : List Res) => v_ = (Value.bool true) ∧ rs_ = []), (fun (vs265 : Nat → Value) (v_ : Value) (rs_ : List Res) => v_ = (Value.bool (!true)) ∧ rs_ = []), (fun (vs265 : Nat → Value) (v_ : Value) (rs_ : List Res) => v_ = (Value.bool (!true)) ∧ rs_ = []), (fun (vs265 : Nat → Value) (v_ : Value) (rs_ : List Res) => v_ = (Value.bool (!true)) ∧ rs_ = []), (fun (vs265 : Nat → Value) (v_ : Value) (rs_ : List Res) => v_ = vu ∧ rs_ = []), (fun (vs265 : Nat → Value) (v_ : Value) (rs_ : List Res) => v_ = u104 ∧ rs_ = [])] (by decide +kernel) (by decide +kernel) rfl rfl ⟨(fun _ _ _ _ _ h_ => h_), (fun _ _ _ _ _ h_ => h_), (fun _ _ _ _ _ h_ => h_), (fun _ _ _ _ _ h_ => h_), (fun _ _ _ _ _ h_ => h_), (fun _ _ _ _ _ h_ => h_), (fun _ _ _ _ _ h_ => h_), (fun _ _ _ _ _ h_ => h_), (fun _ _ _ _ _ h_ => h_), (fun _ _ _ _ _ h_ => h_), (fun _ _ _ _ _ h_ => h_), (fun _ _ _ _ _ h_ => h_), (fun _ _ _ _ _ h_ => h_), (fun _ _ _ _ _ h_ => h_), (fun _ _ _ _ _ h_ => h_), (fun _ _ _ _ _ h_ => h_), (fun _ _ _ _ _ h_ => h_), (fun _ _ _ _ _ h_ => h_), (fun _ _ _ _ _ h_ => h_), (fun _ _ _ _ _ h_ => h_), (fun _ _ _ _ _ h_ => h_), trivial⟩ ?_ ?_
  ·skip
   refine ⟨fun a w vs265 hA hS hd => ?_, ?_⟩
   ·skip
    exact opG_of rfl (vv (op_move rfl (hA.ev rfl)) (And.intro rfl rfl))
   refine ⟨fun a w vs265 hA hS hd => ?_, ?_⟩
   ·skip
    obtain ⟨e0, rs0, hy0, hp0⟩ := hd 0 (by decide)
    obtain ⟨hv0, hr0⟩ := hy0; subst hr0
    rw [hv0] at e0
    exact opG_of rfl (vv (op_neq rfl (tmp_ev (slot_ev e0 rfl)) (evc _ _)) (And.intro rfl rfl))
   refine ⟨fun a w vs265 hA hS hd => ?_, ?_⟩
   ·skip
    obtain ⟨e1, rs1, hy1, hp1⟩ := hd 1 (by decide)
    obtain ⟨hv1, hr1⟩ := hy1; subst hr1
    rw [hv1] at e1
    exact opG_of rfl (vv (op_move rfl (tmp_ev (slot_ev e1 rfl))) (And.intro rfl rfl))
   refine ⟨fun a w vs265 hA hS hd => ?_, ?_⟩
   ·skip
    obtain ⟨e2, rs2, hy2, hp2⟩ := hd 2 (by decide)
    obtain ⟨hv2, hr2⟩ := hy2; subst hr2
    rw [hv2] at e2
    exact opG_yes rfl rfl (slot_ev e2 rfl) (vv (op_loadA rfl ty_42 (hA.ev rfl) (hS.bk 7 rfl) (l := [(Value.int .i64 (stLo plan (leastR R rs plan))), (Value.int .i64 (stHi plan (mostR R rs plan)))]) rfl rfl) (And.intro rfl rfl))
   refine ⟨fun a w vs265 hA hS hd => ?_, ?_⟩
   ·skip
    obtain ⟨e2, rs2, hy2, hp2⟩ := hd 2 (by decide)
    obtain ⟨hv2, hr2⟩ := hy2; subst hr2
    rw [hv2] at e2
    exact opG_yes rfl rfl (slot_ev e2 rfl) (vv (op_loadA rfl ty_48 (hA.ev rfl) (hS.bk 0 rfl) (l := [(Value.int .i64 ((strU plan (rallowF R rs) k).1)), (Value.int .i64 ((strU plan (rallowF R rs) k).2))]) rfl rfl) (And.intro rfl rfl))
   refine ⟨fun a w vs265 hA hS hd => ?_, ?_⟩
   ·skip
    obtain ⟨e2, rs2, hy2, hp2⟩ := hd 2 (by decide)
    obtain ⟨hv2, hr2⟩ := hy2; subst hr2
    rw [hv2] at e2
    obtain ⟨e4, rs4, hy4, hp4⟩ := hd 4 (by decide)
    obtain ⟨hv4, hr4⟩ := hy4; subst hr4
    rw [hv4] at e4
    exact opG_yes rfl rfl (slot_ev e2 rfl) (vx (op_call rfl en_25 (ev1 (tmp_ev (slot_ev e4 rfl))) (to_ok _ _ _)) (And.intro rfl rfl))
   refine ⟨fun a w vs265 hA hS hd => ?_, ?_⟩
   ·skip
    obtain ⟨e2, rs2, hy2, hp2⟩ := hd 2 (by decide)
    obtain ⟨hv2, hr2⟩ := hy2; subst hr2
    rw [hv2] at e2
    obtain ⟨e3, rs3, hy3, hp3⟩ := hd 3 (by decide)
    obtain ⟨hv3, hr3⟩ := hy3; subst hr3
    rw [hv3] at e3
    obtain ⟨e5, rs5, hy5, hp5⟩ := hd 5 (by decide)
    obtain ⟨hv5, hr5⟩ := hy5; subst hr5
    rw [hv5] at e5
    exact opG_yes rfl rfl (slot_ev e2 rfl) (vv (op_neqP tw_42 rfl (tmp_ev (slot_ev e3 rfl)) (tmp_ev (slot_ev e5 rfl))) (And.intro (by show Value.bool _ = _; simp only [(show (decide (((stLo plan (leastR R rs plan)) : Int) = ((strU plan (rallowF R rs) k).1)) && decide (((stHi plan (mostR R rs plan)) : Int) = ((strU plan (rallowF R rs) k).2))) = true from (by rw [(str_ends hR hV hal hs (m := k) (by omega)).1, (str_ends hR hV hal hs (m := k) (by omega)).2]; simp)), decide_true, decide_false, Bool.not_true, Bool.not_false]) rfl))
   refine ⟨fun a w vs265 hA hS hd => ?_, ?_⟩
   ·skip
    obtain ⟨e2, rs2, hy2, hp2⟩ := hd 2 (by decide)
    obtain ⟨hv2, hr2⟩ := hy2; subst hr2
    rw [hv2] at e2
    obtain ⟨e6, rs6, hy6, hp6⟩ := hd 6 (by decide)
    obtain ⟨hv6, hr6⟩ := hy6; subst hr6
    rw [hv6] at e6
    exact opG_of rfl (vv (op_pick_f rfl (tmp_ev (slot_ev e2 rfl)) (tmp_ev (slot_ev e6 rfl))) (And.intro rfl rfl))
   refine ⟨fun a w vs265 hA hS hd => ?_, ?_⟩
   ·skip
    obtain ⟨e7, rs7, hy7, hp7⟩ := hd 7 (by decide)
    obtain ⟨hv7, hr7⟩ := hy7; subst hr7
    rw [hv7] at e7
    exact opG_of rfl (vv (op_move rfl (tmp_ev (slot_ev e7 rfl))) (And.intro rfl rfl))
   refine ⟨fun a w vs265 hA hS hd => ?_, ?_⟩
   ·skip
    obtain ⟨e8, rs8, hy8, hp8⟩ := hd 8 (by decide)
    obtain ⟨hv8, hr8⟩ := hy8; subst hr8
    rw [hv8] at e8
    exact opG_yes rfl rfl (slot_ev e8 rfl) (vv (op_move rfl (hA.ev rfl)) (And.intro rfl rfl))
   refine ⟨fun a w vs265 hA hS hd => ?_, ?_⟩
   ·skip
    obtain ⟨e8, rs8, hy8, hp8⟩ := hd 8 (by decide)
    obtain ⟨hv8, hr8⟩ := hy8; subst hr8
    rw [hv8] at e8
    obtain ⟨e9, rs9, hy9, hp9⟩ := hd 9 (by decide)
    obtain ⟨hv9, hr9⟩ := hy9; subst hr9
    rw [hv9] at e9
    exact opG_yes rfl rfl (slot_ev e8 rfl) (vv (op_neq rfl (tmp_ev (slot_ev e9 rfl)) (evc _ _)) (And.intro rfl rfl))
   refine ⟨fun a w vs265 hA hS hd => ?_, ?_⟩
   ·skip
    obtain ⟨e8, rs8, hy8, hp8⟩ := hd 8 (by decide)
    obtain ⟨hv8, hr8⟩ := hy8; subst hr8
    rw [hv8] at e8
    obtain ⟨e10, rs10, hy10, hp10⟩ := hd 10 (by decide)
    obtain ⟨hv10, hr10⟩ := hy10; subst hr10
    rw [hv10] at e10
    exact opG_of rfl (vv (op_pick_f rfl (tmp_ev (slot_ev e8 rfl)) (tmp_ev (slot_ev e10 rfl))) (And.intro rfl rfl))
   refine ⟨fun a w vs265 hA hS hd => ?_, ?_⟩
   ·skip
    obtain ⟨e11, rs11, hy11, hp11⟩ := hd 11 (by decide)
    obtain ⟨hv11, hr11⟩ := hy11; subst hr11
    rw [hv11] at e11
    exact opG_of rfl (vv (op_move rfl (tmp_ev (slot_ev e11 rfl))) (And.intro rfl rfl))
   refine ⟨fun a w vs265 hA hS hd => ?_, ?_⟩
   ·skip
    obtain ⟨e12, rs12, hy12, hp12⟩ := hd 12 (by decide)
    obtain ⟨hv12, hr12⟩ := hy12; subst hr12
    rw [hv12] at e12
    exact opG_yes rfl rfl (slot_ev e12 rfl) (vv (op_loadA rfl ty_24 (hA.ev rfl) (hS.bk 11 rfl) (l := [vr]) rfl rfl) (And.intro rfl rfl))
   refine ⟨fun a w vs265 hA hS hd => ?_, ?_⟩
   ·skip
    obtain ⟨e12, rs12, hy12, hp12⟩ := hd 12 (by decide)
    obtain ⟨hv12, hr12⟩ := hy12; subst hr12
    rw [hv12] at e12
    exact opG_yes rfl rfl (slot_ev e12 rfl) (vv (op_move rfl (hA.ev rfl)) (And.intro rfl rfl))
   refine ⟨fun a w vs265 hA hS hd => ?_, ?_⟩
   ·skip
    obtain ⟨e12, rs12, hy12, hp12⟩ := hd 12 (by decide)
    obtain ⟨hv12, hr12⟩ := hy12; subst hr12
    rw [hv12] at e12
    obtain ⟨e13, rs13, hy13, hp13⟩ := hd 13 (by decide)
    obtain ⟨hv13, hr13⟩ := hy13; subst hr13
    rw [hv13] at e13
    obtain ⟨e14, rs14, hy14, hp14⟩ := hd 14 (by decide)
    obtain ⟨hv14, hr14⟩ := hy14; subst hr14
    rw [hv14] at e14
    exact opG_yes rfl rfl (slot_ev e12 rfl) (vx (op_call rfl en_35 (ev2 (tmp_ev (slot_ev e13 rfl)) (tmp_ev (slot_ev e14 rfl))) (AreRates_ok _ R _ (hS.sk 12 rfl) (showF R rs plan hi) _ (SlAt.of_row (hS.ok_row 3 rfl)) (by omega))) (And.intro (by show Value.bool _ = _; simp only [(show (areB R (showF R rs plan hi)) = true from (hsh _).1), decide_true, decide_false, Bool.not_true, Bool.not_false]) rfl))
   refine ⟨fun a w vs265 hA hS hd => ?_, ?_⟩
   ·skip
    obtain ⟨e12, rs12, hy12, hp12⟩ := hd 12 (by decide)
    obtain ⟨hv12, hr12⟩ := hy12; subst hr12
    rw [hv12] at e12
    obtain ⟨e15, rs15, hy15, hp15⟩ := hd 15 (by decide)
    obtain ⟨hv15, hr15⟩ := hy15; subst hr15
    rw [hv15] at e15
    exact opG_yes rfl rfl (slot_ev e12 rfl) (vv (op_not rfl (tmp_ev (slot_ev e15 rfl))) (And.intro rfl rfl))
   refine ⟨fun a w vs265 hA hS hd => ?_, ?_⟩
   ·skip
    obtain ⟨e12, rs12, hy12, hp12⟩ := hd 12 (by decide)
    obtain ⟨hv12, hr12⟩ := hy12; subst hr12
    rw [hv12] at e12
    obtain ⟨e16, rs16, hy16, hp16⟩ := hd 16 (by decide)
    obtain ⟨hv16, hr16⟩ := hy16; subst hr16
    rw [hv16] at e16
    exact opG_of rfl (vv (op_pick_f rfl (tmp_ev (slot_ev e12 rfl)) (tmp_ev (slot_ev e16 rfl))) (And.intro rfl rfl))
   refine ⟨fun a w vs265 hA hS hd => ?_, ?_⟩
   ·skip
    obtain ⟨e17, rs17, hy17, hp17⟩ := hd 17 (by decide)
    obtain ⟨hv17, hr17⟩ := hy17; subst hr17
    rw [hv17] at e17
    exact opG_of rfl (vv (op_move rfl (tmp_ev (slot_ev e17 rfl))) (And.intro rfl rfl))
   refine ⟨fun a w vs265 hA hS hd => ?_, ?_⟩
   ·skip
    obtain ⟨e18, rs18, hy18, hp18⟩ := hd 18 (by decide)
    obtain ⟨hv18, hr18⟩ := hy18; subst hr18
    rw [hv18] at e18
    exact opG_yes rfl rfl (slot_ev e18 rfl) (vv (op_move rfl (hA.ev rfl)) (And.intro rfl rfl))
   refine ⟨fun a w vs265 hA hS hd => ?_, ?_⟩
   ·skip
    obtain ⟨e18, rs18, hy18, hp18⟩ := hd 18 (by decide)
    obtain ⟨hv18, hr18⟩ := hy18; subst hr18
    rw [hv18] at e18
    exact opG_yes rfl rfl (slot_ev e18 rfl) (vv (op_move rfl (hA.ev rfl)) (And.intro rfl rfl))
   trivial
  intro a266 w267 vs265 rsf271 hA268 hH270 hS269; clear hA264 hS194
  obtain ⟨hs_0, hy_0⟩ := hH270 0 (by decide)
  obtain ⟨hv_0, hr_0⟩ := hy_0
  obtain ⟨hs_1, hy_1⟩ := hH270 1 (by decide)
  obtain ⟨hv_1, hr_1⟩ := hy_1
  obtain ⟨hs_2, hy_2⟩ := hH270 2 (by decide)
  obtain ⟨hv_2, hr_2⟩ := hy_2
  obtain ⟨hs_3, hy_3⟩ := hH270 3 (by decide)
  obtain ⟨hv_3, hr_3⟩ := hy_3
  obtain ⟨hs_4, hy_4⟩ := hH270 4 (by decide)
  obtain ⟨hv_4, hr_4⟩ := hy_4
  obtain ⟨hs_5, hy_5⟩ := hH270 5 (by decide)
  obtain ⟨hv_5, hr_5⟩ := hy_5
  obtain ⟨hs_6, hy_6⟩ := hH270 6 (by decide)
  obtain ⟨hv_6, hr_6⟩ := hy_6
  obtain ⟨hs_7, hy_7⟩ := hH270 7 (by decide)
  obtain ⟨hv_7, hr_7⟩ := hy_7
  obtain ⟨hs_8, hy_8⟩ := hH270 8 (by decide)
  obtain ⟨hv_8, hr_8⟩ := hy_8
  obtain ⟨hs_9, hy_9⟩ := hH270 9 (by decide)
  obtain ⟨hv_9, hr_9⟩ := hy_9
  obtain ⟨hs_10, hy_10⟩ := hH270 10 (by decide)
  obtain ⟨hv_10, hr_10⟩ := hy_10
  obtain ⟨hs_11, hy_11⟩ := hH270 11 (by decide)
  obtain ⟨hv_11, hr_11⟩ := hy_11
  obtain ⟨hs_12, hy_12⟩ := hH270 12 (by decide)
  obtain ⟨hv_12, hr_12⟩ := hy_12
  obtain ⟨hs_13, hy_13⟩ := hH270 13 (by decide)
  obtain ⟨hv_13, hr_13⟩ := hy_13
  obtain ⟨hs_14, hy_14⟩ := hH270 14 (by decide)
  obtain ⟨hv_14, hr_14⟩ := hy_14
  obtain ⟨hs_15, hy_15⟩ := hH270 15 (by decide)
  obtain ⟨hv_15, hr_15⟩ := hy_15
  obtain ⟨hs_16, hy_16⟩ := hH270 16 (by decide)
  obtain ⟨hv_16, hr_16⟩ := hy_16
  obtain ⟨hs_17, hy_17⟩ := hH270 17 (by decide)
  obtain ⟨hv_17, hr_17⟩ := hy_17
  obtain ⟨hs_18, hy_18⟩ := hH270 18 (by decide)
  obtain ⟨hv_18, hr_18⟩ := hy_18
  obtain ⟨hs_19, hy_19⟩ := hH270 19 (by decide)
  obtain ⟨hv_19, hr_19⟩ := hy_19
  obtain ⟨hs_20, hy_20⟩ := hH270 20 (by decide)
  obtain ⟨hv_20, hr_20⟩ := hy_20
  have hS272 : Sep NoB w w267 [(blk b182 48 [(Value.int .i64 ((strU plan (rallowF R rs) k).1)), (Value.int .i64 ((strU plan (rallowF R rs) k).2))]), (row v159 40 1 ov160.length ov160), (lstR ov160 (rallowF R rs)), (row u104 3 1 ((showF R rs plan hi).length) (ints (showF R rs plan hi))), (row v96 67 3 plan.length (trips plan)), (runsR true v86 lv87 rs), (row u78 42 2 R.length (pairs R)), (blk b62 42 [(Value.int .i64 (stLo plan (leastR R rs plan))), (Value.int .i64 (stHi plan (mostR R rs plan)))]), (row v47 67 3 plan.length (trips plan)), (runsR true v37 lv38 rs), (row u29 42 2 R.length (pairs R)), (blk b4 24 [vr]), (sl vr 2 R.length (pairs R)), (runsR false vu lv rs), (sl vp 3 plan.length (trips plan))] := by rw [show catR rsf271 0 21 = ([] : List Res) by (try simp only [catR, hr_0, hr_1, hr_2, hr_3, hr_4, hr_5, hr_6, hr_7, hr_8, hr_9, hr_10, hr_11, hr_12, hr_13, hr_14, hr_15, hr_16, hr_17, hr_18, hr_19, hr_20]); (try rfl)] at hS269; exact hS269
  rw [hv_18] at hs_18
  have hA273 : Fr 160 [] [(129, (Value.bool (!true))), (15, (bptr b182 0)), (12, (Value.int .i64 0)), (11, u104), (10, (Value.int .i64 0)), (9, (bptr b62 0)), (4, (bptr b4 0)), (1, vu), (2, vp), (3, (Value.bool hi))] a266 := hA268.add (slot_ev hs_18 rfl); clear hA268
  rw [hv_19] at hs_19
  have hA274 : Fr 160 [] [(130, vu), (129, (Value.bool (!true))), (15, (bptr b182 0)), (12, (Value.int .i64 0)), (11, u104), (10, (Value.int .i64 0)), (9, (bptr b62 0)), (4, (bptr b4 0)), (1, vu), (2, vp), (3, (Value.bool hi))] a266 := hA273.add (slot_ev hs_19 rfl); clear hA273
  rw [hv_20] at hs_20
  have hA275 : Fr 160 [] [(131, u104), (130, vu), (129, (Value.bool (!true))), (15, (bptr b182 0)), (12, (Value.int .i64 0)), (11, u104), (10, (Value.int .i64 0)), (9, (bptr b62 0)), (4, (bptr b4 0)), (1, vu), (2, vp), (3, (Value.bool hi))] a266 := hA274.add (slot_ev hs_20 rfl); clear hA274
  clear hH270 hS269 hs_0 hs_1 hs_2 hs_3 hs_4 hs_5 hs_6 hs_7 hs_8 hs_9 hs_10 hs_11 hs_12 hs_13 hs_14 hs_15 hs_16 hs_17 hs_18 hs_19 hs_20
  clear hr_0
  clear hv_0
  clear hr_1
  clear hv_1
  clear hr_2
  clear hv_2
  clear hr_3
  clear hv_3
  clear hr_4
  clear hv_4
  clear hr_5
  clear hv_5
  clear hr_6
  clear hv_6
  clear hr_7
  clear hv_7
  clear hr_8
  clear hv_8
  clear hr_9
  clear hv_9
  clear hr_10
  clear hv_10
  clear hr_11
  clear hv_11
  clear hr_12
  clear hv_12
  clear hr_13
  clear hv_13
  clear hr_14
  clear hv_14
  clear hr_15
  clear hv_15
  clear hr_16
  clear hv_16
  clear hr_17
  clear hv_17
  clear hr_18
  clear hv_18
  clear hr_19
  clear hv_19
  clear hr_20
  clear hv_20
  refine stwg hA275 (op_call rfl en_36 (ev2 (hA275.ev rfl) (hA275.ev rfl)) (rAllows_ok _ rs _ _ (runs_at (hS272.ok 13 _ rfl)) (showF R rs plan hi) _ (SlAt.of_row (hS272.ok_row 3 rfl)) R.length hR.1 (by omega) (are_small hR (hsh _).1) hV)) rfl rfl rfl rfl (by decide) ?_
  rintro a276 _ w278 ⟨rfl, hE279⟩ hA277; have hS280 := hS272.step hE279; clear hE279 hA275 hS272 a266
  have hd281 : (allowB rs (showF R rs plan hi)) = true := (hsh _).2
  rw [hd281] at hA277
  refine stg hA277 (op_not rfl (hA277.ev rfl)) rfl rfl rfl rfl (by decide) fun a282 hA283 => ?_; clear hA277 a276
  refine st hA283 (op_pick_f rfl (hA283.ev rfl) (hA283.ev rfl)) rfl rfl (by decide) fun a284 hA285 => ?_; clear hA283 a282
  refine wl_nil ?_
  refine then_n ?_
  refine c_false hA285 rfl ?_
  refine c_skip ?_
  refine then_n ?_
  refine c_seq ?_
  have hA286 := hA285.as [(15, (bptr b182 0)), (11, u104), (2, vp), (3, (Value.bool hi))] rfl; clear hA285
  refine c_region ?_
  refine st hA286 (op_move rfl (hA286.ev rfl)) rfl rfl (by decide) fun a287 hA288 => ?_; clear hA286 a284
  refine st hA288 (op_move rfl (hA288.ev rfl)) rfl rfl (by decide) fun a289 hA290 => ?_; clear hA288 a287
  refine stw hA290 (op_call rfl en_34 (ev2 (hA290.ev rfl) (hA290.ev rfl)) (rStretch_ok _ plan _ (hS280.sk 14 rfl) (by omega) (showF R rs plan hi) _ (SlAt.of_row (hS280.ok_row 3 rfl)) R.length hR.1 (by omega) (are_small hR (hsh _).1) hs)) rfl rfl (by decide) ?_
  rintro a291 _ w293 ⟨rfl, hE294⟩ hA292; have hS295 := hS280.step hE294; clear hE294 hA290 hS280 a289
  refine stw hA292 (op_alloc hS295 rfl ze_48 (cs := [(Value.int .i64 0), (Value.int .i64 0)]) rfl) rfl rfl (by decide) ?_
  rintro a296 _ w298 ⟨b299, rfl, hS300⟩ hA297; clear hA292 hS295 a291
  refine sts hA297 (op_store hS300 rfl ty_48 (hA297.ev rfl) (hA297.ev rfl) (i := 0) rfl (vs := [(Value.int .i64 (stLo plan (showF R rs plan hi))), (Value.int .i64 (stHi plan (showF R rs plan hi)))]) rfl rfl rfl (Nat.le_of_ble_eq_true rfl)) rfl rfl ?_
  intro _ w301 hS302 hA303; clear hA297
  have hS304 : Sep NoB w w301 [(blk b299 48 [(Value.int .i64 (stLo plan (showF R rs plan hi))), (Value.int .i64 (stHi plan (showF R rs plan hi)))]), (blk b182 48 [(Value.int .i64 ((strU plan (rallowF R rs) k).1)), (Value.int .i64 ((strU plan (rallowF R rs) k).2))]), (row v159 40 1 ov160.length ov160), (lstR ov160 (rallowF R rs)), (row u104 3 1 ((showF R rs plan hi).length) (ints (showF R rs plan hi))), (row v96 67 3 plan.length (trips plan)), (runsR true v86 lv87 rs), (row u78 42 2 R.length (pairs R)), (blk b62 42 [(Value.int .i64 (stLo plan (leastR R rs plan))), (Value.int .i64 (stHi plan (mostR R rs plan)))]), (row v47 67 3 plan.length (trips plan)), (runsR true v37 lv38 rs), (row u29 42 2 R.length (pairs R)), (blk b4 24 [vr]), (sl vr 2 R.length (pairs R)), (runsR false vu lv rs), (sl vp 3 plan.length (trips plan))] := hS302; clear hS302 hS300
  refine wl_nil ?_
  refine then_n ?_
  refine c_seq ?_
  refine c_region ?_
  refine st hA303 (op_move rfl (hA303.ev rfl)) rfl rfl (by decide) fun a305 hA306 => ?_; clear hA303 a296
  refine st hA306 (op_move rfl (hA306.ev rfl)) rfl rfl (by decide) fun a307 hA308 => ?_; clear hA306 a305
  rcases Bool.eq_false_or_eq_true (hi) with hb309 | hb309
  ·skip
   rw [hb309] at hA308
   refine stg hA308 (op_field rfl fd_48_1 (hA308.ev rfl)) rfl rfl rfl rfl (by decide) fun a310 hA311 => ?_; clear hA308 a307
   refine stg hA311 (op_load1 rfl ty_3 (hA311.ev rfl) (hS304.bk 0 rfl) rfl) rfl rfl rfl rfl (by decide) fun a312 hA313 => ?_; clear hA311 a310
   refine stg hA313 (op_field rfl fd_48_1 (hA313.ev rfl)) rfl rfl rfl rfl (by decide) fun a314 hA315 => ?_; clear hA313 a312
   refine stg hA315 (op_load1 rfl ty_3 (hA315.ev rfl) (hS304.bk 1 rfl) rfl) rfl rfl rfl rfl (by decide) fun a316 hA317 => ?_; clear hA315 a314
   refine stg hA317 (op_eql rfl (hA317.ev rfl) (hA317.ev rfl)) rfl rfl rfl rfl (by decide) fun a318 hA319 => ?_; clear hA317 a316
   have hd320 : (stHi plan (showF R rs plan hi)) = ((strU plan (rallowF R rs) k).2) := (by rw [show_hi hs (by assumption), (str_ends hR hV hal hs (m := k) (by omega)).2])
   rw [decide_eq_true hd320] at hA319
   refine st hA319 (op_pick_t rfl (hA319.ev rfl) (hA319.ev rfl)) rfl rfl (by decide) fun a321 hA322 => ?_; clear hA319 a318
   refine st hA322 (op_move rfl (hA322.ev rfl)) rfl rfl (by decide) fun a323 hA324 => ?_; clear hA322 a321
   refine skp hA324 rfl rfl rfl rfl rfl (by decide) fun a325 hA326 => ?_; clear hA324 a323
   refine skp hA326 rfl rfl rfl rfl rfl (by decide) fun a327 hA328 => ?_; clear hA326 a325
   refine skp hA328 rfl rfl rfl rfl rfl (by decide) fun a329 hA330 => ?_; clear hA328 a327
   refine skpU hA330 rfl rfl rfl rfl (by decide) fun a331 hA332 => ?_; clear hA330 a329
   refine skpU hA332 rfl rfl rfl rfl (by decide) fun a333 hA334 => ?_; clear hA332 a331
   refine skpU hA334 rfl rfl rfl rfl (by decide) fun a335 hA336 => ?_; clear hA334 a333
   refine skpU hA336 rfl rfl rfl rfl (by decide) fun a337 hA338 => ?_; clear hA336 a335
   refine skpU hA338 rfl rfl rfl rfl (by decide) fun a339 hA340 => ?_; clear hA338 a337
   refine skp hA340 rfl rfl rfl rfl rfl (by decide) fun a341 hA342 => ?_; clear hA340 a339
   refine st hA342 (op_pick_t rfl (hA342.ev rfl) (evc _ _)) rfl rfl (by decide) fun a343 hA344 => ?_; clear hA342 a341
   refine st hA344 (op_move rfl (hA344.ev rfl)) rfl rfl (by decide) fun a345 hA346 => ?_; clear hA344 a343
   refine stwg hA346 (op_call rfl en_17 ev0 (awake_ok _)) rfl rfl rfl rfl (by decide) ?_
   rintro a347 _ w349 ⟨rfl, hE350⟩ hA348; have hS351 := hS304.step hE350; clear hE350 hA346 hS304 a345
   refine st hA348 (op_pick_t rfl (hA348.ev rfl) (hA348.ev rfl)) rfl rfl (by decide) fun a352 hA353 => ?_; clear hA348 a347
   refine st hA353 (op_assign rfl (hA353.ev rfl)) rfl rfl (by decide) fun a354 hA355 => ?_; clear hA353 a352
   refine wl_nil ?_
   refine then_n ?_
   refine c_ret ?_
   refine fin_run hA355 (.inl rfl) (run_results1 hA355 rfl (.tmp rfl)) ?_
   exact ⟨rfl, hS351.ext⟩
  ·skip
   rw [hb309] at hA308
   refine skp hA308 rfl rfl rfl rfl rfl (by decide) fun a356 hA357 => ?_; clear hA308 a307
   refine skp hA357 rfl rfl rfl rfl rfl (by decide) fun a358 hA359 => ?_; clear hA357 a356
   refine skp hA359 rfl rfl rfl rfl rfl (by decide) fun a360 hA361 => ?_; clear hA359 a358
   refine skp hA361 rfl rfl rfl rfl rfl (by decide) fun a362 hA363 => ?_; clear hA361 a360
   refine skp hA363 rfl rfl rfl rfl rfl (by decide) fun a364 hA365 => ?_; clear hA363 a362
   refine st hA365 (op_pick_f rfl (hA365.ev rfl) (evc _ _)) rfl rfl (by decide) fun a366 hA367 => ?_; clear hA365 a364
   refine st hA367 (op_move rfl (hA367.ev rfl)) rfl rfl (by decide) fun a368 hA369 => ?_; clear hA367 a366
   refine stg hA369 (op_move rfl (hA369.ev rfl)) rfl rfl rfl rfl (by decide) fun a370 hA371 => ?_; clear hA369 a368
   refine stg hA371 (op_not rfl (hA371.ev rfl)) rfl rfl rfl rfl (by decide) fun a372 hA373 => ?_; clear hA371 a370
   refine stg hA373 (op_move rfl (hA373.ev rfl)) rfl rfl rfl rfl (by decide) fun a374 hA375 => ?_; clear hA373 a372
   refine stg hA375 (op_field rfl fd_48_0 (hA375.ev rfl)) rfl rfl rfl rfl (by decide) fun a376 hA377 => ?_; clear hA375 a374
   refine stg hA377 (op_load1 rfl ty_3 (hA377.ev rfl) (hS304.bk 0 rfl) rfl) rfl rfl rfl rfl (by decide) fun a378 hA379 => ?_; clear hA377 a376
   refine stg hA379 (op_field rfl fd_48_0 (hA379.ev rfl)) rfl rfl rfl rfl (by decide) fun a380 hA381 => ?_; clear hA379 a378
   refine stg hA381 (op_load1 rfl ty_3 (hA381.ev rfl) (hS304.bk 1 rfl) rfl) rfl rfl rfl rfl (by decide) fun a382 hA383 => ?_; clear hA381 a380
   refine stg hA383 (op_eql rfl (hA383.ev rfl) (hA383.ev rfl)) rfl rfl rfl rfl (by decide) fun a384 hA385 => ?_; clear hA383 a382
   have hd386 : (stLo plan (showF R rs plan hi)) = ((strU plan (rallowF R rs) k).1) := (by rw [show_lo hs (by assumption), (str_ends hR hV hal hs (m := k) (by omega)).1])
   rw [decide_eq_true hd386] at hA385
   refine stg hA385 (op_pick_t rfl (hA385.ev rfl) (hA385.ev rfl)) rfl rfl rfl rfl (by decide) fun a387 hA388 => ?_; clear hA385 a384
   refine st hA388 (op_pick_f rfl (hA388.ev rfl) (hA388.ev rfl)) rfl rfl (by decide) fun a389 hA390 => ?_; clear hA388 a387
   refine st hA390 (op_move rfl (hA390.ev rfl)) rfl rfl (by decide) fun a391 hA392 => ?_; clear hA390 a389
   refine stwg hA392 (op_call rfl en_17 ev0 (awake_ok _)) rfl rfl rfl rfl (by decide) ?_
   rintro a393 _ w395 ⟨rfl, hE396⟩ hA394; have hS397 := hS304.step hE396; clear hE396 hA392 hS304 a391
   refine st hA394 (op_pick_t rfl (hA394.ev rfl) (hA394.ev rfl)) rfl rfl (by decide) fun a398 hA399 => ?_; clear hA394 a393
   refine st hA399 (op_assign rfl (hA399.ev rfl)) rfl rfl (by decide) fun a400 hA401 => ?_; clear hA399 a398
   refine wl_nil ?_
   refine then_n ?_
   refine c_ret ?_
   refine fin_run hA401 (.inl rfl) (run_results1 hA401 rfl (.tmp rfl)) ?_
   exact ⟨rfl, hS397.ext⟩
theorem CreepStretches_ok (w : World) (R : List (Int × Int)) (vr : Value) (hm : SlAt w vr 2 R.length (pairs R)) (rs : List RunD) (lv : List Value) (vu : Value) (hx : RunsAt w vu lv rs) (plan : List Seg) (vp : Value) (hp : SlAt w vp 3 plan.length (trips plan)) (hi : Bool) : Calls Try.prog 9 #[.agg #[vr], vu, vp, .bool hi] w (Ret fun v w' => v = .bool true ∧ Ext NoB w w') := by
 rcases Bool.eq_false_or_eq_true (thinB R rs plan.length) with hf | hf
 ·by_cases hc : possF R rs = 0
  ·rcases Bool.eq_false_or_eq_true (planB R plan) with hb | hb
   ·exact CreepStretches_d w R vr hm rs lv vu hx plan vp hp hi hf (plan_0 hc (by simp only [planB, Bool.and_eq_true, decide_eq_true_eq] at hb; exact hb.2) (by simp only [planB, Bool.and_eq_true] at hb; exact hb.1)) hb
   ·exact CreepStretches_c w R vr hm rs lv vu hx plan vp hp hi hf hc hb
  ·exact CreepStretches_b w R vr hm rs lv vu hx plan vp hp hi hf hc
 ·exact CreepStretches_a w R vr hm rs lv vu hx plan vp hp hi hf
end Go.Proofs.Ytkkglkdnnfegkaa
