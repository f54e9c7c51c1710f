/-
  Walks through the functions of the seat, printed by a program of ours (gowalk), a theorem a function: what the call returns and what it leaves in memory.
-/
import Derived.Test.YtkkglkdnnfegkaaBc
import Derived.Test.YtkkglkdnnfegkaaBd
set_option linter.unusedSimpArgs false
set_option linter.unusedVariables false
namespace Go.Proofs.Ytkkglkdnnfegkaa
open Go.RowKit Go.Shelf Go.Eng
def prF (k : Nat) : Int := (k : Int) + 3
theorem sum_in {n k : Nat} {ws r : List Int} {plan : List Seg} (hw : WordsV ws) (hr : ∀ i, 0 ≤ r.getD i 0 ∧ r.getD i 0 ≤ 1000) (hs : ∀ i, i < plan.length → SegV n (plan.getD i (0, 0, 0))) (hk : k = plan.length) : stLo plan r ≤ mdU ws r prF plan k ∧ mdU ws r prF plan k ≤ stHi plan r := by
 subst hk
 have h := (mdU_bd (f := prF) hw hr hs _ (Nat.le_refl _)).2
 rwa [stU_lo, stU_hi] at h
set_option maxHeartbeats 4000000 in
theorem CreepTruth_a (w : World) (R : List (Int × Int)) (vr : Value) (hm : SlAt w vr 2 R.length (pairs R)) (rs : List RunD) (lv : List Value) (vu : Value) (hx : RunsAt w vu lv rs) (plan : List Seg) (vp : Value) (hp : SlAt w vp 3 plan.length (trips plan)) (ws : List Int) (xw : Value) (hxw : SlAt w xw 1 ws.length (ws.map (Value.int .u16))) (hw : WordsV ws) (s : Int) (hS_ : 0 ≤ s ∧ s ≤ 4294967295) (hf : readyB R rs plan = false) :
  Calls Try.prog 14 #[(Value.agg #[vr]), vu, vp, xw, (Value.int .u32 s)] w (Ret fun v w' => v = .bool true ∧ Ext NoB w w') := by
 refine calls_enter Try.func14 rfl fun a0 hA0 => ?_
 replace hA0 : Fr 243 [] [(0, (Value.agg #[vr])), (1, vu), (2, vp), (3, xw), (4, (Value.int .u32 s))] a0 := hA0
 have hS0 : Sep NoB w w [(sl xw 1 ws.length (ws.map (Value.int .u16))), (sl vr 2 R.length (pairs R)), (runsR false vu lv rs), (sl vp 3 plan.length (trips plan))] := sep_ro ⟨rfl, hxw, rfl, hm, rfl, hx, rfl, hp, trivial⟩
 refine c_seq ?_
 refine c_region ?_
 refine stw hA0 (op_box hS0 rfl (hA0.ev rfl) (cs := [vr]) rfl) rfl rfl (by decide) ?_
 rintro a1 _ w3 ⟨b4, rfl, hS5⟩ hA2; clear hA0 hS0 a0
 refine st hA2 (op_assign rfl (evc _ _)) rfl rfl (by decide) fun a6 hA7 => ?_; clear hA2 a1
 refine wl_nil ?_
 refine then_n ?_
 refine c_seq ?_
 refine c_seq ?_
 refine c_region ?_
 refine st hA7 (op_loadA rfl ty_24 (hA7.ev rfl) (hS5.bk 0 rfl) (l := [vr]) rfl rfl) rfl rfl (by decide) fun a8 hA9 => ?_; clear hA7 a6
 refine st hA9 (op_move rfl (hA9.ev rfl)) rfl rfl (by decide) fun a10 hA11 => ?_; clear hA9 a8
 refine st hA11 (op_move rfl (hA11.ev rfl)) rfl rfl (by decide) fun a12 hA13 => ?_; clear hA11 a10
 refine stw hA13 (op_call rfl en_27 (ev3 (hA13.ev rfl) (hA13.ev rfl) (hA13.ev rfl)) (ready_ok _ R _ (hS5.sk 2 rfl) rs _ _ (runs_at (hS5.ok 3 _ rfl)) plan _ (hS5.sk 4 rfl))) rfl rfl (by decide) ?_
 rintro a14 _ w16 ⟨rfl, hE17⟩ hA15; have hS18 := hS5.step hE17; clear hE17 hA13 hS5 a12
 rw [hf] at hA15
 refine st hA15 (op_not rfl (hA15.ev rfl)) rfl rfl (by decide) fun a19 hA20 => ?_; clear hA15 a14
 refine wl_nil ?_
 refine then_n ?_
 refine c_true hA20 rfl ?_
 refine c_seq ?_
 have hA21 := hA20.as [] rfl; clear hA20
 refine c_region ?_
 refine stw hA21 (op_call rfl en_17 ev0 (awake_ok _)) rfl rfl (by decide) ?_
 rintro a22 _ w24 ⟨rfl, hE25⟩ hA23; have hS26 := hS18.step hE25; clear hE25 hA21 hS18 a19
 refine st hA23 (op_assign rfl (hA23.ev rfl)) rfl rfl (by decide) fun a27 hA28 => ?_; clear hA23 a22
 refine wl_nil ?_
 refine then_n ?_
 refine c_ret ?_
 refine then_ret ?_
 refine fin_run hA28 (.inl rfl) (run_results1 hA28 rfl (.tmp rfl)) ?_
 exact ⟨rfl, hS26.ext⟩
set_option maxHeartbeats 4000000 in
theorem CreepTruth_b (w : World) (R : List (Int × Int)) (vr : Value) (hm : SlAt w vr 2 R.length (pairs R)) (rs : List RunD) (lv : List Value) (vu : Value) (hx : RunsAt w vu lv rs) (plan : List Seg) (vp : Value) (hp : SlAt w vp 3 plan.length (trips plan)) (ws : List Int) (xw : Value) (hxw : SlAt w xw 1 ws.length (ws.map (Value.int .u16))) (hw : WordsV ws) (s : Int) (hS_ : 0 ≤ s ∧ s ≤ 4294967295) (hf : readyB R rs plan = true) :
  Calls Try.prog 14 #[(Value.agg #[vr]), vu, vp, xw, (Value.int .u32 s)] w (Ret fun v w' => v = .bool true ∧ Ext NoB w w') := by
 refine calls_enter Try.func14 rfl fun a0 hA0 => ?_
 replace hA0 : Fr 243 [] [(0, (Value.agg #[vr])), (1, vu), (2, vp), (3, xw), (4, (Value.int .u32 s))] a0 := hA0
 have hrd := ready_is hf; have hth := hrd.1; have he := hrd.2.1; have h6 := hth.mat; have h9 := hth.runs; have h12 := hth.plan; have hp8 := hrd.2.2.1; have hsb := hrd.2.2.2; have hcm := check_mat (enter_mat he); have hR := hcm.1; have hR1 := hcm.2.1; have hR3 := hR.1; have hV := enter_runs he; have hs : ∀ i, i < plan.length → SegV R.length (plan.getD i (0, 0, 0)) := fun i hi => segV_of (List.all_eq_true.1 hsb i (List.mem_range.2 hi)); have hrt := ratesF_len R rs; have hle := allowed_le (rs := rs) hR; have hck := enter_mat he; have hlst := check_least hck; have hT := truly_are hR hw hlst; have hTl := truly_len R ws; have hsm := are_small hR hT; have hMV := made_valid (ws := ws) (r := trulyF R ws) hw hsm hV; have hMA := made_allow (ws := ws) (r := trulyF R ws) hw hsm hV; have heM := enter_of hck hMV; have hposM := truth_pos hR hMV hT hMA; have hpM := poss_0 heM hposM; have hMl := made_len ws (trulyF R ws) rs; have hdd := truth_doubt heM hpM; have hcM : planF R (madeF ws (trulyF R ws) rs) plan = 0 := plan_0 hpM hp8 hsb; have hls := truth_str hR hMV hT hMA hs; have hrtM := ratesF_len R (madeF ws (trulyF R ws) rs)
 have hS0 : Sep NoB w w [(sl xw 1 ws.length (ws.map (Value.int .u16))), (sl vr 2 R.length (pairs R)), (runsR false vu lv rs), (sl vp 3 plan.length (trips plan))] := sep_ro ⟨rfl, hxw, rfl, hm, rfl, hx, rfl, hp, trivial⟩
 refine c_seq ?_
 refine c_region ?_
 refine stw hA0 (op_box hS0 rfl (hA0.ev rfl) (cs := [vr]) rfl) rfl rfl (by decide) ?_
 rintro a1 _ w3 ⟨b4, rfl, hS5⟩ hA2; clear hA0 hS0 a0
 refine st hA2 (op_assign rfl (evc _ _)) rfl rfl (by decide) fun a6 hA7 => ?_; clear hA2 a1
 refine wl_nil ?_
 refine then_n ?_
 refine c_seq ?_
 refine c_seq ?_
 refine c_region ?_
 refine st hA7 (op_loadA rfl ty_24 (hA7.ev rfl) (hS5.bk 0 rfl) (l := [vr]) rfl rfl) rfl rfl (by decide) fun a8 hA9 => ?_; clear hA7 a6
 refine st hA9 (op_move rfl (hA9.ev rfl)) rfl rfl (by decide) fun a10 hA11 => ?_; clear hA9 a8
 refine st hA11 (op_move rfl (hA11.ev rfl)) rfl rfl (by decide) fun a12 hA13 => ?_; clear hA11 a10
 refine stw hA13 (op_call rfl en_27 (ev3 (hA13.ev rfl) (hA13.ev rfl) (hA13.ev rfl)) (ready_ok _ R _ (hS5.sk 2 rfl) rs _ _ (runs_at (hS5.ok 3 _ rfl)) plan _ (hS5.sk 4 rfl))) rfl rfl (by decide) ?_
 rintro a14 _ w16 ⟨rfl, hE17⟩ hA15; have hS18 := hS5.step hE17; clear hE17 hA13 hS5 a12
 rw [hf] at hA15
 refine st hA15 (op_not rfl (hA15.ev rfl)) rfl rfl (by decide) fun a19 hA20 => ?_; clear hA15 a14
 refine wl_nil ?_
 refine then_n ?_
 refine c_false hA20 rfl ?_
 refine c_skip ?_
 refine then_n ?_
 refine c_seq ?_
 have hA21 := hA20.as [(5, (bptr b4 0)), (1, vu), (2, vp), (3, xw), (4, (Value.int .u32 s))] rfl; clear hA20
 refine c_region ?_
 refine st hA21 (op_loadA rfl ty_24 (hA21.ev rfl) (hS18.bk 0 rfl) (l := [vr]) rfl rfl) rfl rfl (by decide) fun a22 hA23 => ?_; clear hA21 a19
 refine st hA23 (op_move rfl (hA23.ev rfl)) rfl rfl (by decide) fun a24 hA25 => ?_; clear hA23 a22
 refine stw hA25 (op_call rfl en_47 (ev2 (hA25.ev rfl) (hA25.ev rfl)) (Truly_ok _ R _ (hS18.sk 2 rfl) ws _ (hS18.sk 1 rfl) hw hR)) rfl rfl (by decide) ?_
 rintro a26 v32 w28 ⟨hE29, hO30⟩ hA27; have hS31 := hS18.new_row hE29 hO30; clear hE29 hO30 hA25 hS18 a24
 refine st hA27 (op_assign rfl (hA27.ev rfl)) rfl rfl (by decide) fun a33 hA34 => ?_; clear hA27 a26
 refine wl_nil ?_
 refine then_n ?_
 refine c_seq ?_
 refine c_region ?_
 refine st hA34 (op_move rfl (hA34.ev rfl)) rfl rfl (by decide) fun a35 hA36 => ?_; clear hA34 a33
 refine st hA36 (op_move rfl (hA36.ev rfl)) rfl rfl (by decide) fun a37 hA38 => ?_; clear hA36 a35
 refine st hA38 (op_move rfl (hA38.ev rfl)) rfl rfl (by decide) fun a39 hA40 => ?_; clear hA38 a37
 refine stw hA40 (op_call rfl en_48 (ev3 (hA40.ev rfl) (hA40.ev rfl) (hA40.ev rfl)) (Made_ok _ rs _ _ (runs_at (hS31.ok 4 _ rfl)) (trulyF R ws) _ (SlAt.of_row (hS31.ok_row 0 rfl)) ws _ (hS31.sk 2 rfl) hw R.length (by omega) hsm hV)) rfl rfl (by decide) ?_
 rintro a41 v47 w43 ⟨hE44, hO45⟩ hA42; have hS46 := hS31.new_row hE44 hO45; clear hE44 hO45 hA40 hS31 a39
 have hS48 := hS46.segs_made ws (trulyF R ws) (i := 5) rfl; clear hS46
 have hS49 : Sep NoB w w43 [(row v47 54 3 ((madeF ws (trulyF R ws) rs).length) (vtrips (runV lv (madeF ws (trulyF R ws) rs)))), (segsR false lv (madeF ws (trulyF R ws) rs)), (row v32 3 1 ((trulyF R ws).length) (ints (trulyF R ws))), (blk b4 24 [vr]), (sl xw 1 ws.length (ws.map (Value.int .u16))), (sl vr 2 R.length (pairs R)), (runsR false vu lv rs), (sl vp 3 plan.length (trips plan))] := hS48.keep [1, 0, 2, 3, 4, 5, 6, 7] (by decide) _ rfl rfl; clear hS48
 have hS50 := hS49.runs_ro rfl; clear hS49
 refine st hA42 (op_assign rfl (hA42.ev rfl)) rfl rfl (by decide) fun a51 hA52 => ?_; clear hA42 a41
 refine wl_nil ?_
 refine then_n ?_
 refine c_seq ?_
 have hA53 := hA52.as [(12, v47), (11, v32), (5, (bptr b4 0)), (2, vp), (3, xw), (4, (Value.int .u32 s))] rfl; clear hA52
 refine c_region ?_
 refine st hA53 (op_loadA rfl ty_24 (hA53.ev rfl) (hS50.bk 2 rfl) (l := [vr]) rfl rfl) rfl rfl (by decide) fun a54 hA55 => ?_; clear hA53 a51
 refine stw hA55 (op_call rfl en_19 (ev1 (hA55.ev rfl)) (Material_ok _ R _ (hS50.sk 4 rfl) hth.mat)) rfl rfl (by decide) ?_
 rintro a56 _ w58 ⟨u61, rfl, hT59⟩ hA57; have hS60 := hS50.callS hT59 rfl; clear hT59 hA55 hS50 a54
 refine st hA57 (op_move rfl (hA57.ev rfl)) rfl rfl (by decide) fun a62 hA63 => ?_; clear hA57 a56
 refine stw hA63 (op_call rfl en_20 (ev1 (hA63.ev rfl)) (Runs_ok _ (madeF ws (trulyF R ws) rs) _ _ (runs_at (hS60.ok 1 _ rfl)) (by omega) (fun i hi => by have := (hMV.runs i hi).len; omega))) rfl rfl (by decide) ?_
 rintro a64 v69 w66 ⟨lv70, hT67⟩ hA65; have hS68 := hS60.callS hT67 rfl; clear hT67 hA63 hS60 a62
 refine st hA65 (op_move rfl (hA65.ev rfl)) rfl rfl (by decide) fun a71 hA72 => ?_; clear hA65 a64
 refine stw hA72 (op_call rfl en_39 (ev1 (hA72.ev rfl)) (list_ok _ (trulyF R ws) _ (SlAt.of_row (hS68.ok_row 3 rfl)) (by omega))) rfl rfl (by decide) ?_
 rintro a73 v79 w75 ⟨hE76, hO77⟩ hA74; have hS78 := hS68.new_row hE76 hO77; clear hE76 hO77 hA72 hS68 a71
 refine stw hA74 (op_call rfl en_38 (ev3 (hA74.ev rfl) (hA74.ev rfl) (hA74.ev rfl)) (allows_yes R (madeF ws (trulyF R ws) rs) lv70 u61 v69 _ (SlAt.of_row (hS78.ok_row 2 rfl)) (runs_at (hS78.ok 1 _ rfl)) (by omega) (by omega) (trulyF R ws) v79 (SlAt.of_row (hS78.ok_row 0 rfl)) (by omega) heM hT (pad_rates hR hT))) rfl rfl (by decide) ?_
 rintro a80 _ w82 ⟨rfl, hE83⟩ hA81; have hS84 := hS78.step hE83; clear hE83 hA74 hS78 a73
 rw [allow_pad hR hMV hT] at hA81
 refine st hA81 (op_move rfl (hA81.ev rfl)) rfl rfl (by decide) fun a85 hA86 => ?_; clear hA81 a80
 refine st hA86 (op_extract rfl (hA86.ev rfl) rfl) rfl rfl (by decide) fun a87 hA88 => ?_; clear hA86 a85
 have hd89 : (allowB (madeF ws (trulyF R ws) rs) (trulyF R ws)) = true := hMA
 rw [hd89] at hA88
 refine st hA88 (op_extract rfl (hA88.ev rfl) rfl) rfl rfl (by decide) fun a90 hA91 => ?_; clear hA88 a87
 refine st hA91 (op_assign rfl (hA91.ev rfl)) rfl rfl (by decide) fun a92 hA93 => ?_; clear hA91 a90
 refine st hA93 (op_assign rfl (hA93.ev rfl)) rfl rfl (by decide) fun a94 hA95 => ?_; clear hA93 a92
 refine wl_nil ?_
 refine then_n ?_
 refine c_seq ?_
 have hA96 := hA95.as [(14, (Value.int .i64 0)), (13, (Value.bool true)), (12, v47), (11, v32), (5, (bptr b4 0)), (2, vp), (3, xw), (4, (Value.int .u32 s))] rfl; clear hA95
 refine c_region ?_
 refine st hA96 (op_loadA rfl ty_24 (hA96.ev rfl) (hS84.bk 5 rfl) (l := [vr]) rfl rfl) rfl rfl (by decide) fun a97 hA98 => ?_; clear hA96 a94
 refine stw hA98 (op_call rfl en_19 (ev1 (hA98.ev rfl)) (Material_ok _ R _ (hS84.sk 7 rfl) hth.mat)) rfl rfl (by decide) ?_
 rintro a99 _ w101 ⟨u104, rfl, hT102⟩ hA100; have hS103 := hS84.callS hT102 rfl; clear hT102 hA98 hS84 a97
 refine st hA100 (op_move rfl (hA100.ev rfl)) rfl rfl (by decide) fun a105 hA106 => ?_; clear hA100 a99
 refine stw hA106 (op_call rfl en_20 (ev1 (hA106.ev rfl)) (Runs_ok _ (madeF ws (trulyF R ws) rs) _ _ (runs_at (hS103.ok 4 _ rfl)) (by omega) (fun i hi => by have := (hMV.runs i hi).len; omega))) rfl rfl (by decide) ?_
 rintro a107 v112 w109 ⟨lv113, hT110⟩ hA108; have hS111 := hS103.callS hT110 rfl; clear hT110 hA106 hS103 a105
 refine stw hA108 (op_call rfl en_18 (ev2 (hA108.ev rfl) (hA108.ev rfl)) (rates_ok R (madeF ws (trulyF R ws) rs) lv113 u104 v112 _ (SlAt.of_row (hS111.ok_row 1 rfl)) (runs_at (hS111.ok 0 _ rfl)) (by omega) (by omega) hpM)) rfl rfl (by decide) ?_
 rintro a114 _ w116 ⟨u119, rfl, hT117⟩ hA115
 have hS118 : Sep NoB w w116 [(row u119 42 2 R.length (pairs (ratesF R (madeF ws (trulyF R ws) rs)))), (runsR true v112 lv113 (madeF ws (trulyF R ws) rs)), (row u104 42 2 R.length (pairs R)), (row v79 3 1 ((trulyF R ws).length) (ints (trulyF R ws))), (runsR true v69 lv70 (madeF ws (trulyF R ws) rs)), (row u61 42 2 R.length (pairs R)), (runsR false v47 lv (madeF ws (trulyF R ws) rs)), (row v32 3 1 ((trulyF R ws).length) (ints (trulyF R ws))), (blk b4 24 [vr]), (sl xw 1 ws.length (ws.map (Value.int .u16))), (sl vr 2 R.length (pairs R)), (runsR false vu lv rs), (sl vp 3 plan.length (trips plan))] := hS111.callS hT117 rfl; clear hT117 hA108 hS111 a107
 refine st hA115 (op_move rfl (hA115.ev rfl)) rfl rfl (by decide) fun a120 hA121 => ?_; clear hA115 a114
 refine st hA121 (op_extract rfl (hA121.ev rfl) rfl) rfl rfl (by decide) fun a122 hA123 => ?_; clear hA121 a120
 refine st hA123 (op_extract rfl (hA123.ev rfl) rfl) rfl rfl (by decide) fun a124 hA125 => ?_; clear hA123 a122
 refine st hA125 (op_extract rfl (hA125.ev rfl) rfl) rfl rfl (by decide) fun a126 hA127 => ?_; clear hA125 a124
 refine st hA127 (op_assign rfl (hA127.ev rfl)) rfl rfl (by decide) fun a128 hA129 => ?_; clear hA127 a126
 refine st hA129 (op_assign rfl (hA129.ev rfl)) rfl rfl (by decide) fun a130 hA131 => ?_; clear hA129 a128
 refine st hA131 (op_assign rfl (hA131.ev rfl)) rfl rfl (by decide) fun a132 hA133 => ?_; clear hA131 a130
 refine wl_nil ?_
 refine then_n ?_
 refine c_seq ?_
 have hA134 := hA133.as [(17, (Value.int .i64 0)), (16, (Value.int .i64 (((allowedF R (madeF ws (trulyF R ws) rs)).length : Nat) : Int))), (15, u119), (14, (Value.int .i64 0)), (13, (Value.bool true)), (12, v47), (11, v32), (5, (bptr b4 0)), (2, vp), (3, xw), (4, (Value.int .u32 s))] rfl; clear hA133
 refine c_region ?_
 refine st hA134 (op_loadA rfl ty_24 (hA134.ev rfl) (hS118.bk 8 rfl) (l := [vr]) rfl rfl) rfl rfl (by decide) fun a135 hA136 => ?_; clear hA134 a132
 refine stw hA136 (op_call rfl en_19 (ev1 (hA136.ev rfl)) (Material_ok _ R _ (hS118.sk 10 rfl) hth.mat)) rfl rfl (by decide) ?_
 rintro a137 _ w139 ⟨u142, rfl, hT140⟩ hA138; have hS141 := hS118.callS hT140 rfl; clear hT140 hA136 hS118 a135
 refine st hA138 (op_move rfl (hA138.ev rfl)) rfl rfl (by decide) fun a143 hA144 => ?_; clear hA138 a137
 refine stw hA144 (op_call rfl en_20 (ev1 (hA144.ev rfl)) (Runs_ok _ (madeF ws (trulyF R ws) rs) _ _ (runs_at (hS141.ok 7 _ rfl)) (by omega) (fun i hi => by have := (hMV.runs i hi).len; omega))) rfl rfl (by decide) ?_
 rintro a145 v150 w147 ⟨lv151, hT148⟩ hA146; have hS149 := hS141.callS hT148 rfl; clear hT148 hA144 hS141 a143
 refine st hA146 (op_move rfl (hA146.ev rfl)) rfl rfl (by decide) fun a152 hA153 => ?_; clear hA146 a145
 refine stw hA153 (op_call rfl en_29 (ev1 (hA153.ev rfl)) (Plan_ok _ plan _ (hS149.sk 14 rfl) (by omega))) rfl rfl (by decide) ?_
 rintro a154 v160 w156 ⟨hE157, hO158⟩ hA155; have hS159 := hS149.new_row hE157 hO158; clear hE157 hO158 hA153 hS149 a152
 refine stw hA155 (op_call rfl en_28 (ev3 (hA155.ev rfl) (hA155.ev rfl) (hA155.ev rfl)) (stretch_fine R (madeF ws (trulyF R ws) rs) lv151 u142 v150 _ (SlAt.of_row (hS159.ok_row 2 rfl)) (runs_at (hS159.ok 1 _ rfl)) (by omega) (by omega) plan v160 (SlAt.of_row (hS159.ok_row 0 rfl)) (by omega) hcM)) rfl rfl (by decide) ?_
 rintro a161 _ w163 ⟨rfl, hE164⟩ hA162; have hS165 := hS159.step hE164; clear hE164 hA155 hS159 a154
 refine st hA162 (op_move rfl (hA162.ev rfl)) rfl rfl (by decide) fun a166 hA167 => ?_; clear hA162 a161
 refine st hA167 (op_extract rfl (hA167.ev rfl) rfl) rfl rfl (by decide) fun a168 hA169 => ?_; clear hA167 a166
 refine st hA169 (op_extract rfl (hA169.ev rfl) rfl) rfl rfl (by decide) fun a170 hA171 => ?_; clear hA169 a168
 refine stw hA171 (op_alloc hS165 rfl ze_42 (cs := [(Value.int .i64 0), (Value.int .i64 0)]) rfl) rfl rfl (by decide) ?_
 rintro a172 _ w174 ⟨b175, rfl, hS176⟩ hA173; clear hA171 hS165 a170
 refine sts hA173 (op_store hS176 rfl ty_42 (hA173.ev rfl) (hA173.ev rfl) (i := 0) rfl (vs := [(Value.int .i64 (stLo plan (leastR R (madeF ws (trulyF R ws) rs) plan))), (Value.int .i64 (stHi plan (mostR R (madeF ws (trulyF R ws) rs) plan)))]) rfl rfl rfl (Nat.le_of_ble_eq_true rfl)) rfl rfl ?_
 intro _ w177 hS178 hA179; clear hA173
 have hS180 : Sep NoB w w177 [(blk b175 42 [(Value.int .i64 (stLo plan (leastR R (madeF ws (trulyF R ws) rs) plan))), (Value.int .i64 (stHi plan (mostR R (madeF ws (trulyF R ws) rs) plan)))]), (row v160 67 3 plan.length (trips plan)), (runsR true v150 lv151 (madeF ws (trulyF R ws) rs)), (row u142 42 2 R.length (pairs R)), (row u119 42 2 R.length (pairs (ratesF R (madeF ws (trulyF R ws) rs)))), (runsR true v112 lv113 (madeF ws (trulyF R ws) rs)), (row u104 42 2 R.length (pairs R)), (row v79 3 1 ((trulyF R ws).length) (ints (trulyF R ws))), (runsR true v69 lv70 (madeF ws (trulyF R ws) rs)), (row u61 42 2 R.length (pairs R)), (runsR false v47 lv (madeF ws (trulyF R ws) rs)), (row v32 3 1 ((trulyF R ws).length) (ints (trulyF R ws))), (blk b4 24 [vr]), (sl xw 1 ws.length (ws.map (Value.int .u16))), (sl vr 2 R.length (pairs R)), (runsR false vu lv rs), (sl vp 3 plan.length (trips plan))] := hS178; clear hS178 hS176
 refine st hA179 (op_assign rfl (hA179.ev rfl)) rfl rfl (by decide) fun a181 hA182 => ?_; clear hA179 a172
 refine wl_nil ?_
 refine then_n ?_
 refine c_seq ?_
 have hA183 := hA182.as [(19, (Value.int .i64 0)), (18, (bptr b175 0)), (17, (Value.int .i64 0)), (16, (Value.int .i64 (((allowedF R (madeF ws (trulyF R ws) rs)).length : Nat) : Int))), (15, u119), (14, (Value.int .i64 0)), (13, (Value.bool true)), (12, v47), (11, v32), (5, (bptr b4 0)), (2, vp), (3, xw), (4, (Value.int .u32 s))] rfl; clear hA182
 refine c_region ?_
 refine st hA183 (op_loadA rfl ty_24 (hA183.ev rfl) (hS180.bk 12 rfl) (l := [vr]) rfl rfl) rfl rfl (by decide) fun a184 hA185 => ?_; clear hA183 a181
 refine stw hA185 (op_call rfl en_19 (ev1 (hA185.ev rfl)) (Material_ok _ R _ (hS180.sk 14 rfl) hth.mat)) rfl rfl (by decide) ?_
 rintro a186 _ w188 ⟨u191, rfl, hT189⟩ hA187; have hS190 := hS180.callS hT189 rfl; clear hT189 hA185 hS180 a184
 refine st hA187 (op_move rfl (hA187.ev rfl)) rfl rfl (by decide) fun a192 hA193 => ?_; clear hA187 a186
 refine stw hA193 (op_call rfl en_20 (ev1 (hA193.ev rfl)) (Runs_ok _ (madeF ws (trulyF R ws) rs) _ _ (runs_at (hS190.ok 11 _ rfl)) (by omega) (fun i hi => by have := (hMV.runs i hi).len; omega))) rfl rfl (by decide) ?_
 rintro a194 v199 w196 ⟨lv200, hT197⟩ hA195; have hS198 := hS190.callS hT197 rfl; clear hT197 hA193 hS190 a192
 refine stw hA195 (op_call rfl en_43 (ev2 (hA195.ev rfl) (hA195.ev rfl)) (doubt_ok R (madeF ws (trulyF R ws) rs) lv200 u191 v199 _ (SlAt.of_row (hS198.ok_row 1 rfl)) (runs_at (hS198.ok 0 _ rfl)) (by omega) (by omega) heM)) rfl rfl (by decide) ?_
 rintro a201 _ w203 ⟨u206, rfl, hT204⟩ hA202; have hS205 := hS198.callS hT204 rfl; clear hT204 hA195 hS198 a194
 refine st hA202 (op_move rfl (hA202.ev rfl)) rfl rfl (by decide) fun a207 hA208 => ?_; clear hA202 a201
 refine st hA208 (op_extract rfl (hA208.ev rfl) rfl) rfl rfl (by decide) fun a209 hA210 => ?_; clear hA208 a207
 refine st hA210 (op_extract rfl (hA210.ev rfl) rfl) rfl rfl (by decide) fun a211 hA212 => ?_; clear hA210 a209
 refine st hA212 (op_assign rfl (hA212.ev rfl)) rfl rfl (by decide) fun a213 hA214 => ?_; clear hA212 a211
 refine st hA214 (op_assign rfl (hA214.ev rfl)) rfl rfl (by decide) fun a215 hA216 => ?_; clear hA214 a213
 refine wl_nil ?_
 refine then_n ?_
 refine c_seq ?_
 refine c_seq ?_
 have hA217 := hA216.as [(21, (Value.int .i64 0)), (20, u206), (19, (Value.int .i64 0)), (18, (bptr b175 0)), (17, (Value.int .i64 0)), (16, (Value.int .i64 (((allowedF R (madeF ws (trulyF R ws) rs)).length : Nat) : Int))), (15, u119), (14, (Value.int .i64 0)), (13, (Value.bool true)), (12, v47), (11, v32), (5, (bptr b4 0)), (2, vp), (3, xw), (4, (Value.int .u32 s))] rfl; clear hA216
 refine c_region ?_
 refine st hA217 (op_move rfl (hA217.ev rfl)) rfl rfl (by decide) fun a218 hA219 => ?_; clear hA217 a215
 refine st hA219 (op_neq rfl (hA219.ev rfl) (evc _ _)) rfl rfl (by decide) fun a220 hA221 => ?_; clear hA219 a218
 refine st hA221 (op_move rfl (hA221.ev rfl)) rfl rfl (by decide) fun a222 hA223 => ?_; clear hA221 a220
 refine stg hA223 (op_move rfl (hA223.ev rfl)) rfl rfl rfl rfl (by decide) fun a224 hA225 => ?_; clear hA223 a222
 refine stg hA225 (op_not rfl (hA225.ev rfl)) rfl rfl rfl rfl (by decide) fun a226 hA227 => ?_; clear hA225 a224
 refine st hA227 (op_pick_f rfl (hA227.ev rfl) (hA227.ev rfl)) rfl rfl (by decide) fun a228 hA229 => ?_; clear hA227 a226
 refine st hA229 (op_move rfl (hA229.ev rfl)) rfl rfl (by decide) fun a230 hA231 => ?_; clear hA229 a228
 refine stg hA231 (op_move rfl (hA231.ev rfl)) rfl rfl rfl rfl (by decide) fun a232 hA233 => ?_; clear hA231 a230
 refine stg hA233 (op_neq rfl (hA233.ev rfl) (evc _ _)) rfl rfl rfl rfl (by decide) fun a234 hA235 => ?_; clear hA233 a232
 refine st hA235 (op_pick_f rfl (hA235.ev rfl) (hA235.ev rfl)) rfl rfl (by decide) fun a236 hA237 => ?_; clear hA235 a234
 refine st hA237 (op_move rfl (hA237.ev rfl)) rfl rfl (by decide) fun a238 hA239 => ?_; clear hA237 a236
 refine stg hA239 (op_move rfl (hA239.ev rfl)) rfl rfl rfl rfl (by decide) fun a240 hA241 => ?_; clear hA239 a238
 refine stg hA241 (op_lss rfl (hA241.ev rfl) (evc _ _)) rfl rfl rfl rfl (by decide) fun a242 hA243 => ?_; clear hA241 a240
 have hd244 : ¬ ((((allowedF R (madeF ws (trulyF R ws) rs)).length : Nat) : Int) < 1) := (by omega)
 rw [decide_eq_false hd244] at hA243
 refine st hA243 (op_pick_f rfl (hA243.ev rfl) (hA243.ev rfl)) rfl rfl (by decide) fun a245 hA246 => ?_; clear hA243 a242
 refine st hA246 (op_move rfl (hA246.ev rfl)) rfl rfl (by decide) fun a247 hA248 => ?_; clear hA246 a245
 refine stg hA248 (op_move rfl (hA248.ev rfl)) rfl rfl rfl rfl (by decide) fun a249 hA250 => ?_; clear hA248 a247
 refine stg hA250 (op_lenS rfl un_28 (hA250.ev rfl) (SlAt.of_row (hS205.ok_row 7 rfl))) rfl rfl rfl rfl (by decide) fun a251 hA252 => ?_; clear hA250 a249
 refine stg hA252 (op_move rfl (hA252.ev rfl)) rfl rfl rfl rfl (by decide) fun a253 hA254 => ?_; clear hA252 a251
 refine stg hA254 (op_lenS rfl un_40 (hA254.ev rfl) (SlAt.of_row (hS205.ok_row 14 rfl))) rfl rfl rfl rfl (by decide) fun a255 hA256 => ?_; clear hA254 a253
 refine stg hA256 (op_neq rfl (hA256.ev rfl) (hA256.ev rfl)) rfl rfl rfl rfl (by decide) fun a257 hA258 => ?_; clear hA256 a255
 have hd259 : (R.length : Int) = ((trulyF R ws).length : Int) := (by omega)
 rw [decide_eq_true hd259] at hA258
 refine st hA258 (op_pick_f rfl (hA258.ev rfl) (hA258.ev rfl)) rfl rfl (by decide) fun a260 hA261 => ?_; clear hA258 a257
 refine st hA261 (op_move rfl (hA261.ev rfl)) rfl rfl (by decide) fun a262 hA263 => ?_; clear hA261 a260
 refine stg hA263 (op_move rfl (hA263.ev rfl)) rfl rfl rfl rfl (by decide) fun a264 hA265 => ?_; clear hA263 a262
 refine stg hA265 (op_neq rfl (hA265.ev rfl) (evc _ _)) rfl rfl rfl rfl (by decide) fun a266 hA267 => ?_; clear hA265 a264
 refine st hA267 (op_pick_f rfl (hA267.ev rfl) (hA267.ev rfl)) rfl rfl (by decide) fun a268 hA269 => ?_; clear hA267 a266
 refine st hA269 (op_move rfl (hA269.ev rfl)) rfl rfl (by decide) fun a270 hA271 => ?_; clear hA269 a268
 refine stg hA271 (op_move rfl (hA271.ev rfl)) rfl rfl rfl rfl (by decide) fun a272 hA273 => ?_; clear hA271 a270
 refine stg hA273 (op_neq rfl (hA273.ev rfl) (evc _ _)) rfl rfl rfl rfl (by decide) fun a274 hA275 => ?_; clear hA273 a272
 refine st hA275 (op_pick_f rfl (hA275.ev rfl) (hA275.ev rfl)) rfl rfl (by decide) fun a276 hA277 => ?_; clear hA275 a274
 refine st hA277 (op_move rfl (hA277.ev rfl)) rfl rfl (by decide) fun a278 hA279 => ?_; clear hA277 a276
 refine stg hA279 (op_move rfl (hA279.ev rfl)) rfl rfl rfl rfl (by decide) fun a280 hA281 => ?_; clear hA279 a278
 refine stg hA281 (op_lenS rfl un_40 (hA281.ev rfl) (SlAt.of_row (hS205.ok_row 0 rfl))) rfl rfl rfl rfl (by decide) fun a282 hA283 => ?_; clear hA281 a280
 refine stg hA283 (op_neq rfl (hA283.ev rfl) (evc _ _)) rfl rfl rfl rfl (by decide) fun a284 hA285 => ?_; clear hA283 a282
 have hd286 : ((doubtF R (madeF ws (trulyF R ws) rs)).length : Int) = 0 := (by rw [hdd]; rfl)
 rw [decide_eq_true hd286] at hA285
 refine st hA285 (op_pick_f rfl (hA285.ev rfl) (hA285.ev rfl)) rfl rfl (by decide) fun a287 hA288 => ?_; clear hA285 a284
 refine wl_nil ?_
 refine then_n ?_
 refine c_false hA288 rfl ?_
 refine c_skip ?_
 refine then_n ?_
 refine c_seq ?_
 have hA289 := hA288.as [(18, (bptr b175 0)), (15, u119), (12, v47), (11, v32), (5, (bptr b4 0)), (2, vp), (3, xw), (4, (Value.int .u32 s))] rfl; clear hA288
 refine c_region ?_
 refine st hA289 (op_assign rfl (evc _ _)) rfl rfl (by decide) fun a290 hA291 => ?_; clear hA289 a287
 refine wl_nil ?_
 refine then_n ?_
 refine c_seq ?_
 refine c_seq ?_
 refine c_region ?_
 refine st hA291 (op_assign rfl (evc _ _)) rfl rfl (by decide) fun a292 hA293 => ?_; clear hA291 a290
 refine wl_nil ?_
 refine then_n ?_
 refine c_block ?_
 have hA294 := hA293.as [(23, (Value.int .i64 0)), (22, (Value.int .i64 0)), (18, (bptr b175 0)), (15, u119), (12, v47), (11, v32), (5, (bptr b4 0)), (2, vp), (3, xw), (4, (Value.int .u32 s))] rfl; clear hA293
 refine c_loop (G := Nat) (fun (k : Nat) a_ w_ => Fr 243 [] [(23, (Value.int .i64 (k : Int))), (22, (Value.int .i64 (mdU ws (trulyF R ws) prF plan k))), (18, (bptr b175 0)), (15, u119), (12, v47), (11, v32), (5, (bptr b4 0)), (2, vp), (3, xw), (4, (Value.int .u32 s))] a_ ∧ Sep NoB w w_ [(row u206 3 1 ((doubtF R (madeF ws (trulyF R ws) rs)).length) (ints (doubtF R (madeF ws (trulyF R ws) rs)))), (runsR true v199 lv200 (madeF ws (trulyF R ws) rs)), (row u191 42 2 R.length (pairs R)), (blk b175 42 [(Value.int .i64 (stLo plan (leastR R (madeF ws (trulyF R ws) rs) plan))), (Value.int .i64 (stHi plan (mostR R (madeF ws (trulyF R ws) rs) plan)))]), (row v160 67 3 plan.length (trips plan)), (runsR true v150 lv151 (madeF ws (trulyF R ws) rs)), (row u142 42 2 R.length (pairs R)), (row u119 42 2 R.length (pairs (ratesF R (madeF ws (trulyF R ws) rs)))), (runsR true v112 lv113 (madeF ws (trulyF R ws) rs)), (row u104 42 2 R.length (pairs R)), (row v79 3 1 ((trulyF R ws).length) (ints (trulyF R ws))), (runsR true v69 lv70 (madeF ws (trulyF R ws) rs)), (row u61 42 2 R.length (pairs R)), (runsR false v47 lv (madeF ws (trulyF R ws) rs)), (row v32 3 1 ((trulyF R ws).length) (ints (trulyF R ws))), (blk b4 24 [vr]), (sl xw 1 ws.length (ws.map (Value.int .u16))), (sl vr 2 R.length (pairs R)), (runsR false vu lv rs), (sl vp 3 plan.length (trips plan))] ∧ (k ≤ plan.length)) (fun k => plan.length - k) 0 ⟨hA294.as _ rfl, hS205, by omega⟩ ?_
 clear hA294 hS205 a292
 rintro k a295 w297 ⟨hA296, hS298, hk⟩
 have hsb1 := mdU_bd (f := prF) hw hsm hs k hk
 refine c_seq ?_
 refine c_seq ?_
 refine c_region ?_
 refine st hA296 (op_move rfl (hA296.ev rfl)) rfl rfl (by decide) fun a299 hA300 => ?_; clear hA296 a295
 refine st hA300 (op_move rfl (hA300.ev rfl)) rfl rfl (by decide) fun a301 hA302 => ?_; clear hA300 a299
 refine st hA302 (op_lenS rfl un_51 (hA302.ev rfl) (hS298.sk 19 rfl)) rfl rfl (by decide) fun a303 hA304 => ?_; clear hA302 a301
 refine st hA304 (op_lss rfl (hA304.ev rfl) (hA304.ev rfl)) rfl rfl (by decide) fun a305 hA306 => ?_; clear hA304 a303
 refine wl_nil ?_
 refine then_n ?_
 by_cases hb307 : (k : Int) < (plan.length : Int)
 ·skip
  rw [decide_eq_true hb307] at hA306
  have hsk := hs k (by omega); have hskb := hsk.b; have hskh := hsk.h; have hwc := word_bd hw ((k : Int) + 3); have hrc := rem_bd (y := wordF ws ((k : Int) + 3)) (d := (plan.getD k (0, 0, 0)).2.2 - (plan.getD k (0, 0, 0)).2.1 + 1) hwc.1 (by omega); have hmb : 0 ≤ (trulyF R ws).getD (plan.getD k (0, 0, 0)).1.toNat 0 * (((plan.getD k (0, 0, 0)).2.1) + ((wordF ws ((k : Int) + 3)).tmod ((((plan.getD k (0, 0, 0)).2.2) - ((plan.getD k (0, 0, 0)).2.1)) + 1))) ∧ (trulyF R ws).getD (plan.getD k (0, 0, 0)).1.toNat 0 * (((plan.getD k (0, 0, 0)).2.1) + ((wordF ws ((k : Int) + 3)).tmod ((((plan.getD k (0, 0, 0)).2.2) - ((plan.getD k (0, 0, 0)).2.1)) + 1))) ≤ 1000000000 := mul_bd (hsm _) (by omega)
  refine c_true hA306 rfl ?_
  refine c_skip ?_
  refine then_n ?_
  refine c_seq ?_
  refine c_block ?_
  refine c_seq ?_
  refine c_region ?_
  refine st hA306 (op_move rfl (hA306.ev rfl)) rfl rfl (by decide) fun a308 hA309 => ?_; clear hA306 a305
  refine st hA309 (op_move rfl (hA309.ev rfl)) rfl rfl (by decide) fun a310 hA311 => ?_; clear hA309 a308
  refine st hA311 (op_indexS rfl un_51 ty_56 (hA311.ev rfl) (i := k) (hA311.ev rfl) (hS298.sk 19 rfl) (by decide) (by omega)) rfl rfl (by decide) fun a312 hA313 => ?_; clear hA311 a310
  refine st hA313 (op_fieldS rfl fd_56_1 (hA313.ev rfl) (hS298.sk 19 rfl) (by rw [((hS298.sk 19 rfl)).1]; omega)) rfl rfl (by decide) fun a314 hA315 => ?_; clear hA313 a312
  refine st hA315 (op_loadAE rfl ty_48 (hA315.ev rfl) (hS298.sk 19 rfl) (trips_sub (by omega)) rfl (by decide)) rfl rfl (by decide) fun a316 hA317 => ?_; clear hA315 a314
  refine stw hA317 (op_alloc hS298 rfl ze_48 (cs := [(Value.int .i64 0), (Value.int .i64 0)]) rfl) rfl rfl (by decide) ?_
  rintro a318 _ w320 ⟨b321, rfl, hS322⟩ hA319; clear hA317 hS298 a316
  refine sts hA319 (op_store hS322 rfl ty_48 (hA319.ev rfl) (hA319.ev rfl) (i := 0) rfl (vs := [(Value.int .i64 ((plan.getD k (0, 0, 0)).2.1)), (Value.int .i64 ((plan.getD k (0, 0, 0)).2.2))]) rfl rfl rfl (Nat.le_of_ble_eq_true rfl)) rfl rfl ?_
  intro _ w323 hS324 hA325; clear hA319
  have hS326 : Sep NoB w w323 [(blk b321 48 [(Value.int .i64 ((plan.getD k (0, 0, 0)).2.1)), (Value.int .i64 ((plan.getD k (0, 0, 0)).2.2))]), (row u206 3 1 ((doubtF R (madeF ws (trulyF R ws) rs)).length) (ints (doubtF R (madeF ws (trulyF R ws) rs)))), (runsR true v199 lv200 (madeF ws (trulyF R ws) rs)), (row u191 42 2 R.length (pairs R)), (blk b175 42 [(Value.int .i64 (stLo plan (leastR R (madeF ws (trulyF R ws) rs) plan))), (Value.int .i64 (stHi plan (mostR R (madeF ws (trulyF R ws) rs) plan)))]), (row v160 67 3 plan.length (trips plan)), (runsR true v150 lv151 (madeF ws (trulyF R ws) rs)), (row u142 42 2 R.length (pairs R)), (row u119 42 2 R.length (pairs (ratesF R (madeF ws (trulyF R ws) rs)))), (runsR true v112 lv113 (madeF ws (trulyF R ws) rs)), (row u104 42 2 R.length (pairs R)), (row v79 3 1 ((trulyF R ws).length) (ints (trulyF R ws))), (runsR true v69 lv70 (madeF ws (trulyF R ws) rs)), (row u61 42 2 R.length (pairs R)), (runsR false v47 lv (madeF ws (trulyF R ws) rs)), (row v32 3 1 ((trulyF R ws).length) (ints (trulyF R ws))), (blk b4 24 [vr]), (sl xw 1 ws.length (ws.map (Value.int .u16))), (sl vr 2 R.length (pairs R)), (runsR false vu lv rs), (sl vp 3 plan.length (trips plan))] := hS324; clear hS324 hS322
  refine wl_nil ?_
  refine then_n ?_
  have hA327 := hA325.as [(24, (bptr b321 0)), (23, (Value.int .i64 (k : Int))), (22, (Value.int .i64 (mdU ws (trulyF R ws) prF plan k))), (18, (bptr b175 0)), (15, u119), (12, v47), (11, v32), (5, (bptr b4 0)), (2, vp), (3, xw), (4, (Value.int .u32 s))] rfl; clear hA325
  have hA328 := hA327.as [(24, (bptr b321 0)), (23, (Value.int .i64 (k : Int))), (22, (Value.int .i64 (mdU ws (trulyF R ws) prF plan k))), (18, (bptr b175 0)), (15, u119), (12, v47), (11, v32), (5, (bptr b4 0)), (2, vp), (3, xw), (4, (Value.int .u32 s))] rfl; clear hA327
  refine c_drawn mixed hA328 hS326 24 [[], [], [], [], [2, 3], [4], [5], [1, 6], [7], [], [9], [], [], [12], [11, 13], [], [15], [], [17], [16, 18], [19], [14, 20], [10, 21], [8, 22]] [(Yd.val (Value.int .i64 (mdU ws (trulyF R ws) prF plan k))), (Yd.val v32), (Yd.val vp), (Yd.val (Value.int .i64 (k : Int))), (Yd.val (eptr vp (k * 3))), (Yd.val (eptr vp (k * 3 + 0))), (Yd.val (Value.int .i64 ((plan.getD k (0, 0, 0)).1))), (Yd.val (eptr v32 (((plan.getD k (0, 0, 0)).1).toNat * 1))), (Yd.val (Value.int .i64 ((trulyF R ws).getD (((plan.getD k (0, 0, 0)).1).toNat) 0))), (Yd.val (bptr b321 0)), (Yd.val (Value.int .i64 ((plan.getD k (0, 0, 0)).2.1))), (Yd.val xw), (Yd.val (Value.int .i64 (k : Int))), (Yd.val (Value.int .i64 ((k : Int) + 3))), (Yd.val (Value.int .i64 (wordF ws ((k : Int) + 3)))), (Yd.val (bptr b321 1)), (Yd.val (Value.int .i64 ((plan.getD k (0, 0, 0)).2.2))), (Yd.val (bptr b321 0)), (Yd.val (Value.int .i64 ((plan.getD k (0, 0, 0)).2.1))), (Yd.val (Value.int .i64 (((plan.getD k (0, 0, 0)).2.2) - ((plan.getD k (0, 0, 0)).2.1)))), (Yd.val (Value.int .i64 ((((plan.getD k (0, 0, 0)).2.2) - ((plan.getD k (0, 0, 0)).2.1)) + 1))), (Yd.val (Value.int .i64 (((wordF ws ((k : Int) + 3))).tmod ((((plan.getD k (0, 0, 0)).2.2) - ((plan.getD k (0, 0, 0)).2.1)) + 1)))), (Yd.val (Value.int .i64 (((plan.getD k (0, 0, 0)).2.1) + (((wordF ws ((k : Int) + 3))).tmod ((((plan.getD k (0, 0, 0)).2.2) - ((plan.getD k (0, 0, 0)).2.1)) + 1))))), (Yd.val (Value.int .i64 (((trulyF R ws).getD (((plan.getD k (0, 0, 0)).1).toNat) 0) * (((plan.getD k (0, 0, 0)).2.1) + (((wordF ws ((k : Int) + 3))).tmod ((((plan.getD k (0, 0, 0)).2.2) - ((plan.getD k (0, 0, 0)).2.1)) + 1))))))] (by decide +kernel) rfl rfl ?_ ?_
  ·skip
   refine ⟨fun a w hA hS hd => by exact opG_of rfl (dv (op_move rfl (hA.ev rfl)) hS rfl), ?_⟩
   refine ⟨fun a w hA hS hd => by exact opG_of rfl (dv (op_move rfl (hA.ev rfl)) hS rfl), ?_⟩
   refine ⟨fun a w hA hS hd => by exact opG_of rfl (dv (op_move rfl (hA.ev rfl)) hS rfl), ?_⟩
   refine ⟨fun a w hA hS hd => by exact opG_of rfl (dv (op_move rfl (hA.ev rfl)) hS rfl), ?_⟩
   refine ⟨fun a w hA hS hd => by have e2 := has_ev (hd 2 (by decide)) rfl (fun _ h => h); have e3 := has_ev (hd 3 (by decide)) rfl (fun _ h => h); exact opG_of rfl (dv (op_indexS rfl un_51 ty_56 (tmp_ev e2) (i := k) (tmp_ev e3) (hS.sk 20 rfl) (by decide) (by omega)) hS rfl), ?_⟩
   refine ⟨fun a w hA hS hd => by have e4 := has_ev (hd 4 (by decide)) rfl (fun _ h => h); exact opG_of rfl (dv (op_fieldS rfl fd_56_0 (tmp_ev e4) (hS.sk 20 rfl) (by rw [((hS.sk 20 rfl)).1]; omega)) hS rfl), ?_⟩
   refine ⟨fun a w hA hS hd => by have e5 := has_ev (hd 5 (by decide)) rfl (fun _ h => h); exact opG_of rfl (dv (op_load1E rfl ty_3 (tmp_ev e5) (hS.sk 20 rfl) (trips_at0 (by omega))) hS rfl), ?_⟩
   refine ⟨fun a w hA hS hd => by have e1 := has_ev (hd 1 (by decide)) rfl (fun _ h => h); have e6 := has_ev (hd 6 (by decide)) rfl (fun _ h => h); exact opG_of rfl (dv (op_indexS rfl un_40 ty_3 (tmp_ev e1) (i := ((plan.getD k (0, 0, 0)).1).toNat) ((tmp_ev e6).trans (int_nat (by omega))) (SlAt.of_row (hS.ok_row 15 rfl)) (by decide) (by omega)) hS rfl), ?_⟩
   refine ⟨fun a w hA hS hd => by have e7 := has_ev (hd 7 (by decide)) rfl (fun _ h => h); exact opG_of rfl (dv (op_load1E rfl ty_3 (tmp_ev e7) (SlAt.of_row (hS.ok_row 15 rfl)) (ints_at (by omega))) hS rfl), ?_⟩
   refine ⟨fun a w hA hS hd => by exact opG_of rfl (dv (op_field rfl fd_48_0 (hA.ev rfl)) hS rfl), ?_⟩
   refine ⟨fun a w hA hS hd => by have e9 := has_ev (hd 9 (by decide)) rfl (fun _ h => h); exact opG_of rfl (dv (op_load1 rfl ty_3 (tmp_ev e9) (hS.bk 0 rfl) rfl) hS rfl), ?_⟩
   refine ⟨fun a w hA hS hd => by exact opG_of rfl (dv (op_move rfl (hA.ev rfl)) hS rfl), ?_⟩
   refine ⟨fun a w hA hS hd => by exact opG_of rfl (dv (op_move rfl (hA.ev rfl)) hS rfl), ?_⟩
   refine ⟨fun a w hA hS hd => by have e12 := has_ev (hd 12 (by decide)) rfl (fun _ h => h); exact opG_of rfl (dv (op_add rfl (tmp_ev e12) (evc _ _) (by omega) (by omega)) hS rfl), ?_⟩
   refine ⟨fun a w hA hS hd => by have e11 := has_ev (hd 11 (by decide)) rfl (fun _ h => h); have e13 := has_ev (hd 13 (by decide)) rfl (fun _ h => h); exact opG_of rfl (dx (op_call rfl en_49 (ev2 (tmp_ev e11) (tmp_ev e13)) (word_ok _ ws _ (hS.sk 17 rfl) hw ((k : Int) + 3) (by omega))) hS (fun _ => rfl)), ?_⟩
   refine ⟨fun a w hA hS hd => by exact opG_of rfl (dv (op_field rfl fd_48_1 (hA.ev rfl)) hS rfl), ?_⟩
   refine ⟨fun a w hA hS hd => by have e15 := has_ev (hd 15 (by decide)) rfl (fun _ h => h); exact opG_of rfl (dv (op_load1 rfl ty_3 (tmp_ev e15) (hS.bk 0 rfl) rfl) hS rfl), ?_⟩
   refine ⟨fun a w hA hS hd => by exact opG_of rfl (dv (op_field rfl fd_48_0 (hA.ev rfl)) hS rfl), ?_⟩
   refine ⟨fun a w hA hS hd => by have e17 := has_ev (hd 17 (by decide)) rfl (fun _ h => h); exact opG_of rfl (dv (op_load1 rfl ty_3 (tmp_ev e17) (hS.bk 0 rfl) rfl) hS rfl), ?_⟩
   refine ⟨fun a w hA hS hd => by have e16 := has_ev (hd 16 (by decide)) rfl (fun _ h => h); have e18 := has_ev (hd 18 (by decide)) rfl (fun _ h => h); exact opG_of rfl (dv (op_sub rfl (tmp_ev e16) (tmp_ev e18) (by omega) (by omega)) hS rfl), ?_⟩
   refine ⟨fun a w hA hS hd => by have e19 := has_ev (hd 19 (by decide)) rfl (fun _ h => h); exact opG_of rfl (dv (op_add rfl (tmp_ev e19) (evc _ _) (by omega) (by omega)) hS rfl), ?_⟩
   refine ⟨fun a w hA hS hd => by have e14 := has_ev (hd 14 (by decide)) rfl (fun _ h => h); have e20 := has_ev (hd 20 (by decide)) rfl (fun _ h => h); exact opG_of rfl (dv (op_rem rfl (tmp_ev e14) (tmp_ev e20) (by omega)) hS rfl), ?_⟩
   refine ⟨fun a w hA hS hd => by have e10 := has_ev (hd 10 (by decide)) rfl (fun _ h => h); have e21 := has_ev (hd 21 (by decide)) rfl (fun _ h => h); exact opG_of rfl (dv (op_add rfl (tmp_ev e10) (tmp_ev e21) (by omega) (by omega)) hS rfl), ?_⟩
   refine ⟨fun a w hA hS hd => by have e8 := has_ev (hd 8 (by decide)) rfl (fun _ h => h); have e22 := has_ev (hd 22 (by decide)) rfl (fun _ h => h); exact opG_of rfl (dv (op_mul rfl (tmp_ev e8) (tmp_ev e22) (by omega) (by omega)) hS rfl), ?_⟩
   trivial
  intro a330 w331 hA332 hS333 hH334; clear hA328 hS326
  have hA335 := hA332.add (has_ev (hH334 0 (by decide)) rfl (fun _ h => h)); clear hA332
  have hA336 := hA335.add (has_ev (hH334 23 (by decide)) rfl (fun _ h => h)); clear hA335
  clear hH334
  refine st hA336 (op_add rfl (hA336.ev rfl) (hA336.ev rfl) (by omega) (by omega)) rfl rfl (by decide) fun a337 hA338 => ?_; clear hA336 a330
  refine st hA338 (op_assign rfl (hA338.ev rfl)) rfl rfl (by decide) fun a339 hA340 => ?_; clear hA338 a337
  refine wl_nil ?_
  refine blk_n ?_
  refine then_n ?_
  refine c_region ?_
  refine st hA340 (op_move rfl (hA340.ev rfl)) rfl rfl (by decide) fun a341 hA342 => ?_; clear hA340 a339
  refine st hA342 (op_add rfl (hA342.ev rfl) (evc _ _) (by omega) (by omega)) rfl rfl (by decide) fun a343 hA344 => ?_; clear hA342 a341
  refine st hA344 (op_assign rfl (hA344.ev rfl)) rfl rfl (by decide) fun a345 hA346 => ?_; clear hA344 a343
  refine wl_nil ?_
  have hS347 : Sep NoB w w331 [(row u206 3 1 ((doubtF R (madeF ws (trulyF R ws) rs)).length) (ints (doubtF R (madeF ws (trulyF R ws) rs)))), (runsR true v199 lv200 (madeF ws (trulyF R ws) rs)), (row u191 42 2 R.length (pairs R)), (blk b175 42 [(Value.int .i64 (stLo plan (leastR R (madeF ws (trulyF R ws) rs) plan))), (Value.int .i64 (stHi plan (mostR R (madeF ws (trulyF R ws) rs) plan)))]), (row v160 67 3 plan.length (trips plan)), (runsR true v150 lv151 (madeF ws (trulyF R ws) rs)), (row u142 42 2 R.length (pairs R)), (row u119 42 2 R.length (pairs (ratesF R (madeF ws (trulyF R ws) rs)))), (runsR true v112 lv113 (madeF ws (trulyF R ws) rs)), (row u104 42 2 R.length (pairs R)), (row v79 3 1 ((trulyF R ws).length) (ints (trulyF R ws))), (runsR true v69 lv70 (madeF ws (trulyF R ws) rs)), (row u61 42 2 R.length (pairs R)), (runsR false v47 lv (madeF ws (trulyF R ws) rs)), (row v32 3 1 ((trulyF R ws).length) (ints (trulyF R ws))), (blk b4 24 [vr]), (sl xw 1 ws.length (ws.map (Value.int .u16))), (sl vr 2 R.length (pairs R)), (runsR false vu lv rs), (sl vp 3 plan.length (trips plan))] := hS333.keep [1, 2, 3, 4, 5, 6, 7, 8, 9, 10, 11, 12, 13, 14, 15, 16, 17, 18, 19, 20] (by decide) _ rfl rfl; clear hS333
  exact then_n ⟨k + 1, ⟨hA346.as _ rfl, hS347, by omega⟩, by omega⟩
 ·skip
  rw [decide_eq_false hb307] at hA306
  refine c_false hA306 rfl ?_
  refine c_exit ?_
  refine then_exit ?_
  refine then_exit ?_
  refine blk_hit ?_
  refine then_n ?_
  refine c_seq ?_
  refine c_seq ?_
  have hA348 := hA306.as [(22, (Value.int .i64 (mdU ws (trulyF R ws) prF plan k))), (18, (bptr b175 0)), (15, u119), (12, v47), (11, v32), (5, (bptr b4 0)), (4, (Value.int .u32 s))] rfl; clear hA306
  refine c_region ?_
  refine st hA348 (op_move rfl (hA348.ev rfl)) rfl rfl (by decide) fun a349 hA350 => ?_; clear hA348 a305
  refine st hA350 (op_field rfl fd_42_0 (hA350.ev rfl)) rfl rfl (by decide) fun a351 hA352 => ?_; clear hA350 a349
  refine st hA352 (op_load1 rfl ty_3 (hA352.ev rfl) (hS298.bk 3 rfl) rfl) rfl rfl (by decide) fun a353 hA354 => ?_; clear hA352 a351
  refine st hA354 (op_lss rfl (hA354.ev rfl) (hA354.ev rfl)) rfl rfl (by decide) fun a355 hA356 => ?_; clear hA354 a353
  have hd357 : ¬ ((mdU ws (trulyF R ws) prF plan k) < (stLo plan (leastR R (madeF ws (trulyF R ws) rs) plan))) := (by have hz_ := sum_in (k := k) hw hsm hs (by omega); omega)
  rw [decide_eq_false hd357] at hA356
  refine st hA356 (op_move rfl (hA356.ev rfl)) rfl rfl (by decide) fun a358 hA359 => ?_; clear hA356 a355
  refine stg hA359 (op_move rfl (hA359.ev rfl)) rfl rfl rfl rfl (by decide) fun a360 hA361 => ?_; clear hA359 a358
  refine stg hA361 (op_field rfl fd_42_1 (hA361.ev rfl)) rfl rfl rfl rfl (by decide) fun a362 hA363 => ?_; clear hA361 a360
  refine stg hA363 (op_load1 rfl ty_3 (hA363.ev rfl) (hS298.bk 3 rfl) rfl) rfl rfl rfl rfl (by decide) fun a364 hA365 => ?_; clear hA363 a362
  refine stg hA365 (op_gtr rfl (hA365.ev rfl) (hA365.ev rfl)) rfl rfl rfl rfl (by decide) fun a366 hA367 => ?_; clear hA365 a364
  have hd368 : ¬ ((stHi plan (mostR R (madeF ws (trulyF R ws) rs) plan)) < (mdU ws (trulyF R ws) prF plan k)) := (by have hz_ := sum_in (k := k) hw hsm hs (by omega); omega)
  rw [decide_eq_false hd368] at hA367
  refine st hA367 (op_pick_f rfl (hA367.ev rfl) (hA367.ev rfl)) rfl rfl (by decide) fun a369 hA370 => ?_; clear hA367 a366
  refine wl_nil ?_
  refine then_n ?_
  refine c_false hA370 rfl ?_
  refine c_skip ?_
  refine then_n ?_
  refine c_seq ?_
  refine c_seq ?_
  have hA371 := hA370.as [(15, u119), (12, v47), (11, v32), (5, (bptr b4 0)), (4, (Value.int .u32 s))] rfl; clear hA370
  refine c_region ?_
  refine st hA371 (op_assign rfl (evc _ _)) rfl rfl (by decide) fun a372 hA373 => ?_; clear hA371 a369
  refine wl_nil ?_
  refine then_n ?_
  refine c_block ?_
  have hA374 := hA373.as [(25, (Value.int .i64 0)), (15, u119), (12, v47), (11, v32), (5, (bptr b4 0)), (4, (Value.int .u32 s))] rfl; clear hA373
  refine c_loop (G := Nat) (fun (k1 : Nat) a_ w_ => Fr 243 [] [(25, (Value.int .i64 (k1 : Int))), (15, u119), (12, v47), (11, v32), (5, (bptr b4 0)), (4, (Value.int .u32 s))] a_ ∧ Sep NoB w w_ [(row u206 3 1 ((doubtF R (madeF ws (trulyF R ws) rs)).length) (ints (doubtF R (madeF ws (trulyF R ws) rs)))), (runsR true v199 lv200 (madeF ws (trulyF R ws) rs)), (row u191 42 2 R.length (pairs R)), (blk b175 42 [(Value.int .i64 (stLo plan (leastR R (madeF ws (trulyF R ws) rs) plan))), (Value.int .i64 (stHi plan (mostR R (madeF ws (trulyF R ws) rs) plan)))]), (row v160 67 3 plan.length (trips plan)), (runsR true v150 lv151 (madeF ws (trulyF R ws) rs)), (row u142 42 2 R.length (pairs R)), (row u119 42 2 R.length (pairs (ratesF R (madeF ws (trulyF R ws) rs)))), (runsR true v112 lv113 (madeF ws (trulyF R ws) rs)), (row u104 42 2 R.length (pairs R)), (row v79 3 1 ((trulyF R ws).length) (ints (trulyF R ws))), (runsR true v69 lv70 (madeF ws (trulyF R ws) rs)), (row u61 42 2 R.length (pairs R)), (runsR false v47 lv (madeF ws (trulyF R ws) rs)), (row v32 3 1 ((trulyF R ws).length) (ints (trulyF R ws))), (blk b4 24 [vr]), (sl xw 1 ws.length (ws.map (Value.int .u16))), (sl vr 2 R.length (pairs R)), (runsR false vu lv rs), (sl vp 3 plan.length (trips plan))] ∧ (k1 ≤ (trulyF R ws).length)) (fun k1 => (trulyF R ws).length - k1) 0 ⟨hA374.as _ rfl, hS298, by omega⟩ ?_
  clear hA374 hS298 a372
  rintro k1 a375 w377 ⟨hA376, hS378, hk1⟩
  refine c_seq ?_
  refine c_seq ?_
  refine c_region ?_
  refine st hA376 (op_move rfl (hA376.ev rfl)) rfl rfl (by decide) fun a379 hA380 => ?_; clear hA376 a375
  refine st hA380 (op_move rfl (hA380.ev rfl)) rfl rfl (by decide) fun a381 hA382 => ?_; clear hA380 a379
  refine st hA382 (op_lenS rfl un_40 (hA382.ev rfl) (SlAt.of_row (hS378.ok_row 14 rfl))) rfl rfl (by decide) fun a383 hA384 => ?_; clear hA382 a381
  refine st hA384 (op_lss rfl (hA384.ev rfl) (hA384.ev rfl)) rfl rfl (by decide) fun a385 hA386 => ?_; clear hA384 a383
  refine wl_nil ?_
  refine then_n ?_
  by_cases hb387 : (k1 : Int) < ((trulyF R ws).length : Int)
  ·skip
   rw [decide_eq_true hb387] at hA386
   have hrg := truth_rng hR hMV hT hMA (b := k1) (by omega); have htl := truth_life hR hMV hT hMA (b := k1) (s := s) (by omega) hS_; have hbdl := life_bd (rs := (madeF ws (trulyF R ws) rs)) (b := k1) hR hS_; have hsm1 := hsm k1
   refine c_true hA386 rfl ?_
   refine c_skip ?_
   refine then_n ?_
   refine c_seq ?_
   refine c_block ?_
   refine c_seq ?_
   refine c_region ?_
   refine st hA386 (op_loadA rfl ty_24 (hA386.ev rfl) (hS378.bk 15 rfl) (l := [vr]) rfl rfl) rfl rfl (by decide) fun a388 hA389 => ?_; clear hA386 a385
   refine stw hA389 (op_call rfl en_19 (ev1 (hA389.ev rfl)) (Material_ok _ R _ (hS378.sk 17 rfl) hth.mat)) rfl rfl (by decide) ?_
   rintro a390 _ w392 ⟨u395, rfl, hT393⟩ hA391; have hS394 := hS378.callS hT393 rfl; clear hT393 hA389 hS378 a388
   refine st hA391 (op_move rfl (hA391.ev rfl)) rfl rfl (by decide) fun a396 hA397 => ?_; clear hA391 a390
   refine stw hA397 (op_call rfl en_20 (ev1 (hA397.ev rfl)) (Runs_ok _ (madeF ws (trulyF R ws) rs) _ _ (runs_at (hS394.ok 14 _ rfl)) (by omega) (fun i hi => by have := (hMV.runs i hi).len; omega))) rfl rfl (by decide) ?_
   rintro a398 v403 w400 ⟨lv404, hT401⟩ hA399; have hS402 := hS394.callS hT401 rfl; clear hT401 hA397 hS394 a396
   refine st hA399 (op_move rfl (hA399.ev rfl)) rfl rfl (by decide) fun a405 hA406 => ?_; clear hA399 a398
   refine st hA406 (op_move rfl (hA406.ev rfl)) rfl rfl (by decide) fun a407 hA408 => ?_; clear hA406 a405
   refine st hA408 (op_conv un_61 un_3 rfl (hA408.ev rfl) (v := s) (wrap_i64 (by omega) (by omega))) rfl rfl (by decide) fun a409 hA410 => ?_; clear hA408 a407
   refine stw hA410 (op_call rfl en_23 (ev4 (hA410.ev rfl) (hA410.ev rfl) (hA410.ev rfl) (hA410.ev rfl)) (life_fine R (madeF ws (trulyF R ws) rs) lv404 u395 v403 _ (SlAt.of_row (hS402.ok_row 1 rfl)) (runs_at (hS402.ok 0 _ rfl)) (by omega) (by omega) (k1 : Int) s (life_0 hpM (by omega)))) rfl rfl (by decide) ?_
   rintro a411 _ w413 ⟨rfl, hE414⟩ hA412; have hS415 := hS402.step hE414; clear hE414 hA410 hS402 a409
   simp only [Int.toNat_natCast] at hA412
   refine st hA412 (op_move rfl (hA412.ev rfl)) rfl rfl (by decide) fun a416 hA417 => ?_; clear hA412 a411
   refine st hA417 (op_extract rfl (hA417.ev rfl) rfl) rfl rfl (by decide) fun a418 hA419 => ?_; clear hA417 a416
   refine st hA419 (op_extract rfl (hA419.ev rfl) rfl) rfl rfl (by decide) fun a420 hA421 => ?_; clear hA419 a418
   refine stw hA421 (op_alloc hS415 rfl ze_42 (cs := [(Value.int .i64 0), (Value.int .i64 0)]) rfl) rfl rfl (by decide) ?_
   rintro a422 _ w424 ⟨b425, rfl, hS426⟩ hA423; clear hA421 hS415 a420
   refine sts hA423 (op_store hS426 rfl ty_42 (hA423.ev rfl) (hA423.ev rfl) (i := 0) rfl (vs := [(Value.int .i64 ((lifeR (allowedF R (madeF ws (trulyF R ws) rs)) k1 s).1)), (Value.int .i64 ((lifeR (allowedF R (madeF ws (trulyF R ws) rs)) k1 s).2))]) rfl rfl rfl (Nat.le_of_ble_eq_true rfl)) rfl rfl ?_
   intro _ w427 hS428 hA429; clear hA423
   have hS430 : Sep NoB w w427 [(blk b425 42 [(Value.int .i64 ((lifeR (allowedF R (madeF ws (trulyF R ws) rs)) k1 s).1)), (Value.int .i64 ((lifeR (allowedF R (madeF ws (trulyF R ws) rs)) k1 s).2))]), (runsR true v403 lv404 (madeF ws (trulyF R ws) rs)), (row u395 42 2 R.length (pairs R)), (row u206 3 1 ((doubtF R (madeF ws (trulyF R ws) rs)).length) (ints (doubtF R (madeF ws (trulyF R ws) rs)))), (runsR true v199 lv200 (madeF ws (trulyF R ws) rs)), (row u191 42 2 R.length (pairs R)), (blk b175 42 [(Value.int .i64 (stLo plan (leastR R (madeF ws (trulyF R ws) rs) plan))), (Value.int .i64 (stHi plan (mostR R (madeF ws (trulyF R ws) rs) plan)))]), (row v160 67 3 plan.length (trips plan)), (runsR true v150 lv151 (madeF ws (trulyF R ws) rs)), (row u142 42 2 R.length (pairs R)), (row u119 42 2 R.length (pairs (ratesF R (madeF ws (trulyF R ws) rs)))), (runsR true v112 lv113 (madeF ws (trulyF R ws) rs)), (row u104 42 2 R.length (pairs R)), (row v79 3 1 ((trulyF R ws).length) (ints (trulyF R ws))), (runsR true v69 lv70 (madeF ws (trulyF R ws) rs)), (row u61 42 2 R.length (pairs R)), (runsR false v47 lv (madeF ws (trulyF R ws) rs)), (row v32 3 1 ((trulyF R ws).length) (ints (trulyF R ws))), (blk b4 24 [vr]), (sl xw 1 ws.length (ws.map (Value.int .u16))), (sl vr 2 R.length (pairs R)), (runsR false vu lv rs), (sl vp 3 plan.length (trips plan))] := hS428; clear hS428 hS426
   refine st hA429 (op_assign rfl (hA429.ev rfl)) rfl rfl (by decide) fun a431 hA432 => ?_; clear hA429 a422
   refine wl_nil ?_
   refine then_n ?_
   refine c_seq ?_
   refine c_seq ?_
   have hA433 := hA432.as [(27, (Value.int .i64 0)), (26, (bptr b425 0)), (25, (Value.int .i64 (k1 : Int))), (15, u119), (12, v47), (11, v32), (5, (bptr b4 0)), (4, (Value.int .u32 s))] rfl; clear hA432
   have hA434 := hA433.as [(27, (Value.int .i64 0)), (26, (bptr b425 0)), (25, (Value.int .i64 (k1 : Int))), (15, u119), (12, v47), (11, v32), (5, (bptr b4 0)), (4, (Value.int .u32 s))] rfl; clear hA433
   refine c_drawn mixed hA434 hS430 24 [[], [0], [1], [2], [2], [2, 3, 4], [2, 5], [2], [2], [2, 7, 8], [2, 9], [2, 10], [2, 6, 11], [2, 12], [13], [14], [14], [14, 15, 16], [14, 17], [14], [14], [14, 19, 20], [14, 21], [14, 22]] [(Yd.val (Value.int .i64 0)), (Yd.val (Value.bool false)), (Yd.val (Value.bool false)), (Yd.val v32), (Yd.val (Value.int .i64 (k1 : Int))), (Yd.val (eptr v32 (k1 * 1))), (Yd.val (Value.int .i64 ((trulyF R ws).getD k1 0))), (Yd.val u119), (Yd.val (Value.int .i64 (k1 : Int))), (Yd.val (eptr u119 (k1 * 2))), (Yd.val (eptr u119 (k1 * 2 + 0))), (Yd.val (Value.int .i64 (((ratesF R (madeF ws (trulyF R ws) rs)).getD k1 (0, 0)).1))), (Yd.val (Value.bool false)), (Yd.val (Value.bool false)), (Yd.val (Value.bool false)), (Yd.val v32), (Yd.val (Value.int .i64 (k1 : Int))), (Yd.val (eptr v32 (k1 * 1))), (Yd.val (Value.int .i64 ((trulyF R ws).getD k1 0))), (Yd.val u119), (Yd.val (Value.int .i64 (k1 : Int))), (Yd.val (eptr u119 (k1 * 2))), (Yd.val (eptr u119 (k1 * 2 + 1))), (Yd.val (Value.int .i64 (((ratesF R (madeF ws (trulyF R ws) rs)).getD k1 (0, 0)).2)))] (by decide +kernel) rfl rfl ?_ ?_
   ·skip
    refine ⟨fun a w hA hS hd => by exact opG_of rfl (dv (op_move rfl (hA.ev rfl)) hS rfl), ?_⟩
    refine ⟨fun a w hA hS hd => by have e0 := has_ev (hd 0 (by decide)) rfl (fun _ h => h); exact opG_of rfl (dv (op_neq rfl (tmp_ev e0) (evc _ _)) hS rfl), ?_⟩
    refine ⟨fun a w hA hS hd => by have e1 := has_ev (hd 1 (by decide)) rfl (fun _ h => h); exact opG_of rfl (dv (op_move rfl (tmp_ev e1)) hS rfl), ?_⟩
    refine ⟨fun a w hA hS hd => by have e2 := has_ev (hd 2 (by decide)) rfl (fun _ h => h); exact opG_yes rfl rfl e2 (dv (op_move rfl (hA.ev rfl)) hS rfl), ?_⟩
    refine ⟨fun a w hA hS hd => by have e2 := has_ev (hd 2 (by decide)) rfl (fun _ h => h); exact opG_yes rfl rfl e2 (dv (op_move rfl (hA.ev rfl)) hS rfl), ?_⟩
    refine ⟨fun a w hA hS hd => by have e2 := has_ev (hd 2 (by decide)) rfl (fun _ h => h); have e3 := has_ev (hd 3 (by decide)) rfl (fun _ h => h); have e4 := has_ev (hd 4 (by decide)) rfl (fun _ h => h); exact opG_yes rfl rfl e2 (dv (op_indexS rfl un_40 ty_3 (tmp_ev e3) (i := k1) (tmp_ev e4) (SlAt.of_row (hS.ok_row 17 rfl)) (by decide) (by omega)) hS rfl), ?_⟩
    refine ⟨fun a w hA hS hd => by have e2 := has_ev (hd 2 (by decide)) rfl (fun _ h => h); have e5 := has_ev (hd 5 (by decide)) rfl (fun _ h => h); exact opG_yes rfl rfl e2 (dv (op_load1E rfl ty_3 (tmp_ev e5) (SlAt.of_row (hS.ok_row 17 rfl)) (ints_at (by omega))) hS rfl), ?_⟩
    refine ⟨fun a w hA hS hd => by have e2 := has_ev (hd 2 (by decide)) rfl (fun _ h => h); exact opG_yes rfl rfl e2 (dv (op_move rfl (hA.ev rfl)) hS rfl), ?_⟩
    refine ⟨fun a w hA hS hd => by have e2 := has_ev (hd 2 (by decide)) rfl (fun _ h => h); exact opG_yes rfl rfl e2 (dv (op_move rfl (hA.ev rfl)) hS rfl), ?_⟩
    refine ⟨fun a w hA hS hd => by have e2 := has_ev (hd 2 (by decide)) rfl (fun _ h => h); have e7 := has_ev (hd 7 (by decide)) rfl (fun _ h => h); have e8 := has_ev (hd 8 (by decide)) rfl (fun _ h => h); exact opG_yes rfl rfl e2 (dv (op_indexS rfl un_28 ty_42 (tmp_ev e7) (i := k1) (tmp_ev e8) (SlAt.of_row (hS.ok_row 10 rfl)) (by decide) (by omega)) hS rfl), ?_⟩
    refine ⟨fun a w hA hS hd => by have e2 := has_ev (hd 2 (by decide)) rfl (fun _ h => h); have e9 := has_ev (hd 9 (by decide)) rfl (fun _ h => h); exact opG_yes rfl rfl e2 (dv (op_fieldS rfl fd_42_0 (tmp_ev e9) (SlAt.of_row (hS.ok_row 10 rfl)) (by rw [((SlAt.of_row (hS.ok_row 10 rfl))).1]; omega)) hS rfl), ?_⟩
    refine ⟨fun a w hA hS hd => by have e2 := has_ev (hd 2 (by decide)) rfl (fun _ h => h); have e10 := has_ev (hd 10 (by decide)) rfl (fun _ h => h); exact opG_yes rfl rfl e2 (dv (op_load1E rfl ty_3 (tmp_ev e10) (SlAt.of_row (hS.ok_row 10 rfl)) (pairs_at0 (by omega))) hS rfl), ?_⟩
    refine ⟨fun a w hA hS hd => by have e2 := has_ev (hd 2 (by decide)) rfl (fun _ h => h); have e6 := has_ev (hd 6 (by decide)) rfl (fun _ h => h); have e11 := has_ev (hd 11 (by decide)) rfl (fun _ h => h); exact opG_yes rfl rfl e2 (dv (op_lss rfl (tmp_ev e6) (tmp_ev e11)) hS (by show Value.bool _ = _; simp only [decide_eq_false (show ¬ (((trulyF R ws).getD k1 0) < (((ratesF R (madeF ws (trulyF R ws) rs)).getD k1 (0, 0)).1)) from (by omega)), decide_true, decide_false, Bool.not_true, Bool.not_false])), ?_⟩
    refine ⟨fun a w hA hS hd => by have e2 := has_ev (hd 2 (by decide)) rfl (fun _ h => h); have e12 := has_ev (hd 12 (by decide)) rfl (fun _ h => h); exact opG_of rfl (dv (op_pick_f rfl (tmp_ev e2) (tmp_ev e12)) hS rfl), ?_⟩
    refine ⟨fun a w hA hS hd => by have e13 := has_ev (hd 13 (by decide)) rfl (fun _ h => h); exact opG_of rfl (dv (op_move rfl (tmp_ev e13)) hS rfl), ?_⟩
    refine ⟨fun a w hA hS hd => by have e14 := has_ev (hd 14 (by decide)) rfl (fun _ h => h); exact opG_yes rfl rfl e14 (dv (op_move rfl (hA.ev rfl)) hS rfl), ?_⟩
    refine ⟨fun a w hA hS hd => by have e14 := has_ev (hd 14 (by decide)) rfl (fun _ h => h); exact opG_yes rfl rfl e14 (dv (op_move rfl (hA.ev rfl)) hS rfl), ?_⟩
    refine ⟨fun a w hA hS hd => by have e14 := has_ev (hd 14 (by decide)) rfl (fun _ h => h); have e15 := has_ev (hd 15 (by decide)) rfl (fun _ h => h); have e16 := has_ev (hd 16 (by decide)) rfl (fun _ h => h); exact opG_yes rfl rfl e14 (dv (op_indexS rfl un_40 ty_3 (tmp_ev e15) (i := k1) (tmp_ev e16) (SlAt.of_row (hS.ok_row 17 rfl)) (by decide) (by omega)) hS rfl), ?_⟩
    refine ⟨fun a w hA hS hd => by have e14 := has_ev (hd 14 (by decide)) rfl (fun _ h => h); have e17 := has_ev (hd 17 (by decide)) rfl (fun _ h => h); exact opG_yes rfl rfl e14 (dv (op_load1E rfl ty_3 (tmp_ev e17) (SlAt.of_row (hS.ok_row 17 rfl)) (ints_at (by omega))) hS rfl), ?_⟩
    refine ⟨fun a w hA hS hd => by have e14 := has_ev (hd 14 (by decide)) rfl (fun _ h => h); exact opG_yes rfl rfl e14 (dv (op_move rfl (hA.ev rfl)) hS rfl), ?_⟩
    refine ⟨fun a w hA hS hd => by have e14 := has_ev (hd 14 (by decide)) rfl (fun _ h => h); exact opG_yes rfl rfl e14 (dv (op_move rfl (hA.ev rfl)) hS rfl), ?_⟩
    refine ⟨fun a w hA hS hd => by have e14 := has_ev (hd 14 (by decide)) rfl (fun _ h => h); have e19 := has_ev (hd 19 (by decide)) rfl (fun _ h => h); have e20 := has_ev (hd 20 (by decide)) rfl (fun _ h => h); exact opG_yes rfl rfl e14 (dv (op_indexS rfl un_28 ty_42 (tmp_ev e19) (i := k1) (tmp_ev e20) (SlAt.of_row (hS.ok_row 10 rfl)) (by decide) (by omega)) hS rfl), ?_⟩
    refine ⟨fun a w hA hS hd => by have e14 := has_ev (hd 14 (by decide)) rfl (fun _ h => h); have e21 := has_ev (hd 21 (by decide)) rfl (fun _ h => h); exact opG_yes rfl rfl e14 (dv (op_fieldS rfl fd_42_1 (tmp_ev e21) (SlAt.of_row (hS.ok_row 10 rfl)) (by rw [((SlAt.of_row (hS.ok_row 10 rfl))).1]; omega)) hS rfl), ?_⟩
    refine ⟨fun a w hA hS hd => by have e14 := has_ev (hd 14 (by decide)) rfl (fun _ h => h); have e22 := has_ev (hd 22 (by decide)) rfl (fun _ h => h); exact opG_yes rfl rfl e14 (dv (op_load1E rfl ty_3 (tmp_ev e22) (SlAt.of_row (hS.ok_row 10 rfl)) (pairs_at1 (by omega))) hS rfl), ?_⟩
    trivial
   intro a436 w437 hA438 hS439 hH440; clear hA434 hS430
   have hA441 := hA438.add (has_ev (hH440 14 (by decide)) rfl (fun _ h => h)); clear hA438
   have hA442 := hA441.add (has_ev (hH440 18 (by decide)) rfl (fun _ h => h)); clear hA441
   have hA443 := hA442.add (has_ev (hH440 23 (by decide)) rfl (fun _ h => h)); clear hA442
   clear hH440
   refine stg hA443 (op_gtr rfl (hA443.ev rfl) (hA443.ev rfl)) rfl rfl rfl rfl (by decide) fun a444 hA445 => ?_; clear hA443 a436
   have hd446 : ¬ ((((ratesF R (madeF ws (trulyF R ws) rs)).getD k1 (0, 0)).2) < ((trulyF R ws).getD k1 0)) := (by omega)
   rw [decide_eq_false hd446] at hA445
   refine st hA445 (op_pick_f rfl (hA445.ev rfl) (hA445.ev rfl)) rfl rfl (by decide) fun a447 hA448 => ?_; clear hA445 a444
   refine wl_nil ?_
   refine then_n ?_
   refine c_false hA448 rfl ?_
   refine c_skip ?_
   refine then_n ?_
   refine c_seq ?_
   have hA449 := hA448.as [(26, (bptr b425 0)), (25, (Value.int .i64 (k1 : Int))), (15, u119), (12, v47), (11, v32), (5, (bptr b4 0)), (4, (Value.int .u32 s))] rfl; clear hA448
   refine c_region ?_
   refine st hA449 (op_move rfl (hA449.ev rfl)) rfl rfl (by decide) fun a450 hA451 => ?_; clear hA449 a447
   refine st hA451 (op_move rfl (hA451.ev rfl)) rfl rfl (by decide) fun a452 hA453 => ?_; clear hA451 a450
   refine st hA453 (op_indexS rfl un_40 ty_3 (hA453.ev rfl) (i := k1) (hA453.ev rfl) (SlAt.of_row (hS439.ok_row 17 rfl)) (by decide) (by omega)) rfl rfl (by decide) fun a454 hA455 => ?_; clear hA453 a452
   refine st hA455 (op_load1E rfl ty_3 (hA455.ev rfl) (SlAt.of_row (hS439.ok_row 17 rfl)) (ints_at (by omega))) rfl rfl (by decide) fun a456 hA457 => ?_; clear hA455 a454
   refine st hA457 (op_move rfl (hA457.ev rfl)) rfl rfl (by decide) fun a458 hA459 => ?_; clear hA457 a456
   refine st hA459 (op_conv un_61 un_3 rfl (hA459.ev rfl) (v := s) (wrap_i64 (by omega) (by omega))) rfl rfl (by decide) fun a460 hA461 => ?_; clear hA459 a458
   refine stw hA461 (op_call rfl en_50 (ev2 (hA461.ev rfl) (hA461.ev rfl)) (Hours_ok _ _ _ (by omega) (by omega))) rfl rfl (by decide) ?_
   rintro a462 _ w464 ⟨rfl, hE465⟩ hA463; have hS466 := hS439.step hE465; clear hE465 hA461 hS439 a460
   refine st hA463 (op_assign rfl (hA463.ev rfl)) rfl rfl (by decide) fun a467 hA468 => ?_; clear hA463 a462
   refine wl_nil ?_
   refine then_n ?_
   refine c_seq ?_
   have hA469 := hA468.as [(28, (Value.int .i64 (hoursF ((trulyF R ws).getD k1 0) s))), (26, (bptr b425 0)), (25, (Value.int .i64 (k1 : Int))), (15, u119), (12, v47), (11, v32), (5, (bptr b4 0)), (4, (Value.int .u32 s))] rfl; clear hA468
   refine c_region ?_
   refine st hA469 (op_move rfl (hA469.ev rfl)) rfl rfl (by decide) fun a470 hA471 => ?_; clear hA469 a467
   refine st hA471 (op_lss rfl (hA471.ev rfl) (evc _ _)) rfl rfl (by decide) fun a472 hA473 => ?_; clear hA471 a470
   refine st hA473 (op_move rfl (hA473.ev rfl)) rfl rfl (by decide) fun a474 hA475 => ?_; clear hA473 a472
   by_cases hb476 : (hoursF ((trulyF R ws).getD k1 0) s) < 0
   ·skip
    rw [decide_eq_true hb476] at hA475
    refine stg hA475 (op_field rfl fd_42_1 (hA475.ev rfl)) rfl rfl rfl rfl (by decide) fun a477 hA478 => ?_; clear hA475 a474
    refine stg hA478 (op_load1 rfl ty_3 (hA478.ev rfl) (hS466.bk 0 rfl) rfl) rfl rfl rfl rfl (by decide) fun a479 hA480 => ?_; clear hA478 a477
    refine stg hA480 (op_neq rfl (hA480.ev rfl) (evc _ _)) rfl rfl rfl rfl (by decide) fun a481 hA482 => ?_; clear hA480 a479
    have hd483 : ((lifeR (allowedF R (madeF ws (trulyF R ws) rs)) k1 s).2) = (-1) := (htl.1 hb476)
    rw [decide_eq_true hd483] at hA482
    refine st hA482 (op_pick_t rfl (hA482.ev rfl) (hA482.ev rfl)) rfl rfl (by decide) fun a484 hA485 => ?_; clear hA482 a481
    refine st hA485 (op_move rfl (hA485.ev rfl)) rfl rfl (by decide) fun a486 hA487 => ?_; clear hA485 a484
    refine stg hA487 (op_move rfl (hA487.ev rfl)) rfl rfl rfl rfl (by decide) fun a488 hA489 => ?_; clear hA487 a486
    refine stg hA489 (op_geq rfl (hA489.ev rfl) (evc _ _)) rfl rfl rfl rfl (by decide) fun a490 hA491 => ?_; clear hA489 a488
    have hd492 : ¬ (0 ≤ (hoursF ((trulyF R ws).getD k1 0) s)) := (by omega)
    rw [decide_eq_false hd492] at hA491
    refine stg hA491 (op_move rfl (hA491.ev rfl)) rfl rfl rfl rfl (by decide) fun a493 hA494 => ?_; clear hA491 a490
    refine skp hA494 rfl rfl rfl rfl rfl (by decide) fun a495 hA496 => ?_; clear hA494 a493
    refine skp hA496 rfl rfl rfl rfl rfl (by decide) fun a497 hA498 => ?_; clear hA496 a495
    refine skp hA498 rfl rfl rfl rfl rfl (by decide) fun a499 hA500 => ?_; clear hA498 a497
    refine skp hA500 rfl rfl rfl rfl rfl (by decide) fun a501 hA502 => ?_; clear hA500 a499
    refine skpU hA502 rfl rfl rfl rfl (by decide) fun a503 hA504 => ?_; clear hA502 a501
    refine skpU hA504 rfl rfl rfl rfl (by decide) fun a505 hA506 => ?_; clear hA504 a503
    refine skpU hA506 rfl rfl rfl rfl (by decide) fun a507 hA508 => ?_; clear hA506 a505
    refine skpU hA508 rfl rfl rfl rfl (by decide) fun a509 hA510 => ?_; clear hA508 a507
    refine skp hA510 rfl rfl rfl rfl rfl (by decide) fun a511 hA512 => ?_; clear hA510 a509
    refine skp hA512 rfl rfl rfl rfl rfl (by decide) fun a513 hA514 => ?_; clear hA512 a511
    refine skpU hA514 rfl rfl rfl rfl (by decide) fun a515 hA516 => ?_; clear hA514 a513
    refine skpU hA516 rfl rfl rfl rfl (by decide) fun a517 hA518 => ?_; clear hA516 a515
    refine skpU hA518 rfl rfl rfl rfl (by decide) fun a519 hA520 => ?_; clear hA518 a517
    refine skpU hA520 rfl rfl rfl rfl (by decide) fun a521 hA522 => ?_; clear hA520 a519
    refine skpU hA522 rfl rfl rfl rfl (by decide) fun a523 hA524 => ?_; clear hA522 a521
    refine skpU hA524 rfl rfl rfl rfl (by decide) fun a525 hA526 => ?_; clear hA524 a523
    refine skpU hA526 rfl rfl rfl rfl (by decide) fun a527 hA528 => ?_; clear hA526 a525
    refine skpU hA528 rfl rfl rfl rfl (by decide) fun a529 hA530 => ?_; clear hA528 a527
    refine skpU hA530 rfl rfl rfl rfl (by decide) fun a531 hA532 => ?_; clear hA530 a529
    refine skp hA532 rfl rfl rfl rfl rfl (by decide) fun a533 hA534 => ?_; clear hA532 a531
    refine stg hA534 (op_pick_f rfl (hA534.ev rfl) (evc _ _)) rfl rfl rfl rfl (by decide) fun a535 hA536 => ?_; clear hA534 a533
    refine st hA536 (op_pick_f rfl (hA536.ev rfl) (hA536.ev rfl)) rfl rfl (by decide) fun a537 hA538 => ?_; clear hA536 a535
    refine wl_nil ?_
    refine then_n ?_
    refine c_false hA538 rfl ?_
    refine c_skip ?_
    refine blk_n ?_
    refine then_n ?_
    have hA539 := hA538.as [(25, (Value.int .i64 (k1 : Int))), (15, u119), (12, v47), (11, v32), (5, (bptr b4 0)), (4, (Value.int .u32 s))] rfl; clear hA538
    refine c_region ?_
    refine st hA539 (op_move rfl (hA539.ev rfl)) rfl rfl (by decide) fun a540 hA541 => ?_; clear hA539 a537
    refine st hA541 (op_add rfl (hA541.ev rfl) (evc _ _) (by omega) (by omega)) rfl rfl (by decide) fun a542 hA543 => ?_; clear hA541 a540
    refine st hA543 (op_assign rfl (hA543.ev rfl)) rfl rfl (by decide) fun a544 hA545 => ?_; clear hA543 a542
    refine wl_nil ?_
    have hS546 : Sep NoB w w464 [(row u206 3 1 ((doubtF R (madeF ws (trulyF R ws) rs)).length) (ints (doubtF R (madeF ws (trulyF R ws) rs)))), (runsR true v199 lv200 (madeF ws (trulyF R ws) rs)), (row u191 42 2 R.length (pairs R)), (blk b175 42 [(Value.int .i64 (stLo plan (leastR R (madeF ws (trulyF R ws) rs) plan))), (Value.int .i64 (stHi plan (mostR R (madeF ws (trulyF R ws) rs) plan)))]), (row v160 67 3 plan.length (trips plan)), (runsR true v150 lv151 (madeF ws (trulyF R ws) rs)), (row u142 42 2 R.length (pairs R)), (row u119 42 2 R.length (pairs (ratesF R (madeF ws (trulyF R ws) rs)))), (runsR true v112 lv113 (madeF ws (trulyF R ws) rs)), (row u104 42 2 R.length (pairs R)), (row v79 3 1 ((trulyF R ws).length) (ints (trulyF R ws))), (runsR true v69 lv70 (madeF ws (trulyF R ws) rs)), (row u61 42 2 R.length (pairs R)), (runsR false v47 lv (madeF ws (trulyF R ws) rs)), (row v32 3 1 ((trulyF R ws).length) (ints (trulyF R ws))), (blk b4 24 [vr]), (sl xw 1 ws.length (ws.map (Value.int .u16))), (sl vr 2 R.length (pairs R)), (runsR false vu lv rs), (sl vp 3 plan.length (trips plan))] := hS466.keep [3, 4, 5, 6, 7, 8, 9, 10, 11, 12, 13, 14, 15, 16, 17, 18, 19, 20, 21, 22] (by decide) _ rfl rfl; clear hS466
    exact then_n ⟨k1 + 1, ⟨hA545.as _ rfl, hS546, by omega⟩, by omega⟩
   ·skip
    rw [decide_eq_false hb476] at hA475
    refine skp hA475 rfl rfl rfl rfl rfl (by decide) fun a547 hA548 => ?_; clear hA475 a474
    refine skp hA548 rfl rfl rfl rfl rfl (by decide) fun a549 hA550 => ?_; clear hA548 a547
    refine skp hA550 rfl rfl rfl rfl rfl (by decide) fun a551 hA552 => ?_; clear hA550 a549
    refine st hA552 (op_pick_f rfl (hA552.ev rfl) (evc _ _)) rfl rfl (by decide) fun a553 hA554 => ?_; clear hA552 a551
    refine st hA554 (op_move rfl (hA554.ev rfl)) rfl rfl (by decide) fun a555 hA556 => ?_; clear hA554 a553
    refine stg hA556 (op_move rfl (hA556.ev rfl)) rfl rfl rfl rfl (by decide) fun a557 hA558 => ?_; clear hA556 a555
    refine stg hA558 (op_geq rfl (hA558.ev rfl) (evc _ _)) rfl rfl rfl rfl (by decide) fun a559 hA560 => ?_; clear hA558 a557
    have hd561 : 0 ≤ (hoursF ((trulyF R ws).getD k1 0) s) := (by omega)
    rw [decide_eq_true hd561] at hA560
    refine stg hA560 (op_move rfl (hA560.ev rfl)) rfl rfl rfl rfl (by decide) fun a562 hA563 => ?_; clear hA560 a559
    refine stg hA563 (op_field rfl fd_42_0 (hA563.ev rfl)) rfl rfl rfl rfl (by decide) fun a564 hA565 => ?_; clear hA563 a562
    refine stg hA565 (op_load1 rfl ty_3 (hA565.ev rfl) (hS466.bk 0 rfl) rfl) rfl rfl rfl rfl (by decide) fun a566 hA567 => ?_; clear hA565 a564
    refine stg hA567 (op_eql rfl (hA567.ev rfl) (evc _ _)) rfl rfl rfl rfl (by decide) fun a568 hA569 => ?_; clear hA567 a566
    have hd570 : ¬ (((lifeR (allowedF R (madeF ws (trulyF R ws) rs)) k1 s).1) = (-1)) := (by have hz_ := htl.2 (by omega); omega)
    rw [decide_eq_false hd570] at hA569
    refine stg hA569 (op_move rfl (hA569.ev rfl)) rfl rfl rfl rfl (by decide) fun a571 hA572 => ?_; clear hA569 a568
    refine stg hA572 (op_move rfl (hA572.ev rfl)) rfl rfl rfl rfl (by decide) fun a573 hA574 => ?_; clear hA572 a571
    refine stg hA574 (op_field rfl fd_42_0 (hA574.ev rfl)) rfl rfl rfl rfl (by decide) fun a575 hA576 => ?_; clear hA574 a573
    refine stg hA576 (op_load1 rfl ty_3 (hA576.ev rfl) (hS466.bk 0 rfl) rfl) rfl rfl rfl rfl (by decide) fun a577 hA578 => ?_; clear hA576 a575
    refine stg hA578 (op_lss rfl (hA578.ev rfl) (hA578.ev rfl)) rfl rfl rfl rfl (by decide) fun a579 hA580 => ?_; clear hA578 a577
    have hd581 : ¬ ((hoursF ((trulyF R ws).getD k1 0) s) < ((lifeR (allowedF R (madeF ws (trulyF R ws) rs)) k1 s).1)) := (by have hz_ := htl.2 (by omega); omega)
    rw [decide_eq_false hd581] at hA580
    refine stg hA580 (op_pick_f rfl (hA580.ev rfl) (hA580.ev rfl)) rfl rfl rfl rfl (by decide) fun a582 hA583 => ?_; clear hA580 a579
    refine stg hA583 (op_move rfl (hA583.ev rfl)) rfl rfl rfl rfl (by decide) fun a584 hA585 => ?_; clear hA583 a582
    refine stg hA585 (op_field rfl fd_42_1 (hA585.ev rfl)) rfl rfl rfl rfl (by decide) fun a586 hA587 => ?_; clear hA585 a584
    refine stg hA587 (op_load1 rfl ty_3 (hA587.ev rfl) (hS466.bk 0 rfl) rfl) rfl rfl rfl rfl (by decide) fun a588 hA589 => ?_; clear hA587 a586
    refine stg hA589 (op_neq rfl (hA589.ev rfl) (evc _ _)) rfl rfl rfl rfl (by decide) fun a590 hA591 => ?_; clear hA589 a588
    refine stg hA591 (op_move rfl (hA591.ev rfl)) rfl rfl rfl rfl (by decide) fun a592 hA593 => ?_; clear hA591 a590
    by_cases hb594 : ((lifeR (allowedF R (madeF ws (trulyF R ws) rs)) k1 s).2) = (-1)
    ·skip
     rw [decide_eq_true hb594] at hA593
     refine skp hA593 rfl rfl rfl rfl rfl (by decide) fun a595 hA596 => ?_; clear hA593 a592
     refine skp hA596 rfl rfl rfl rfl rfl (by decide) fun a597 hA598 => ?_; clear hA596 a595
     refine skp hA598 rfl rfl rfl rfl rfl (by decide) fun a599 hA600 => ?_; clear hA598 a597
     refine skp hA600 rfl rfl rfl rfl rfl (by decide) fun a601 hA602 => ?_; clear hA600 a599
     refine stg hA602 (op_pick_f rfl (hA602.ev rfl) (evc _ _)) rfl rfl rfl rfl (by decide) fun a603 hA604 => ?_; clear hA602 a601
     refine stg hA604 (op_pick_f rfl (hA604.ev rfl) (hA604.ev rfl)) rfl rfl rfl rfl (by decide) fun a605 hA606 => ?_; clear hA604 a603
     refine stg hA606 (op_pick_t rfl (hA606.ev rfl) (hA606.ev rfl)) rfl rfl rfl rfl (by decide) fun a607 hA608 => ?_; clear hA606 a605
     refine st hA608 (op_pick_f rfl (hA608.ev rfl) (hA608.ev rfl)) rfl rfl (by decide) fun a609 hA610 => ?_; clear hA608 a607
     refine wl_nil ?_
     refine then_n ?_
     refine c_false hA610 rfl ?_
     refine c_skip ?_
     refine blk_n ?_
     refine then_n ?_
     have hA611 := hA610.as [(25, (Value.int .i64 (k1 : Int))), (15, u119), (12, v47), (11, v32), (5, (bptr b4 0)), (4, (Value.int .u32 s))] rfl; clear hA610
     refine c_region ?_
     refine st hA611 (op_move rfl (hA611.ev rfl)) rfl rfl (by decide) fun a612 hA613 => ?_; clear hA611 a609
     refine st hA613 (op_add rfl (hA613.ev rfl) (evc _ _) (by omega) (by omega)) rfl rfl (by decide) fun a614 hA615 => ?_; clear hA613 a612
     refine st hA615 (op_assign rfl (hA615.ev rfl)) rfl rfl (by decide) fun a616 hA617 => ?_; clear hA615 a614
     refine wl_nil ?_
     have hS618 : Sep NoB w w464 [(row u206 3 1 ((doubtF R (madeF ws (trulyF R ws) rs)).length) (ints (doubtF R (madeF ws (trulyF R ws) rs)))), (runsR true v199 lv200 (madeF ws (trulyF R ws) rs)), (row u191 42 2 R.length (pairs R)), (blk b175 42 [(Value.int .i64 (stLo plan (leastR R (madeF ws (trulyF R ws) rs) plan))), (Value.int .i64 (stHi plan (mostR R (madeF ws (trulyF R ws) rs) plan)))]), (row v160 67 3 plan.length (trips plan)), (runsR true v150 lv151 (madeF ws (trulyF R ws) rs)), (row u142 42 2 R.length (pairs R)), (row u119 42 2 R.length (pairs (ratesF R (madeF ws (trulyF R ws) rs)))), (runsR true v112 lv113 (madeF ws (trulyF R ws) rs)), (row u104 42 2 R.length (pairs R)), (row v79 3 1 ((trulyF R ws).length) (ints (trulyF R ws))), (runsR true v69 lv70 (madeF ws (trulyF R ws) rs)), (row u61 42 2 R.length (pairs R)), (runsR false v47 lv (madeF ws (trulyF R ws) rs)), (row v32 3 1 ((trulyF R ws).length) (ints (trulyF R ws))), (blk b4 24 [vr]), (sl xw 1 ws.length (ws.map (Value.int .u16))), (sl vr 2 R.length (pairs R)), (runsR false vu lv rs), (sl vp 3 plan.length (trips plan))] := hS466.keep [3, 4, 5, 6, 7, 8, 9, 10, 11, 12, 13, 14, 15, 16, 17, 18, 19, 20, 21, 22] (by decide) _ rfl rfl; clear hS466
     exact then_n ⟨k1 + 1, ⟨hA617.as _ rfl, hS618, by omega⟩, by omega⟩
    ·skip
     rw [decide_eq_false hb594] at hA593
     refine stg hA593 (op_move rfl (hA593.ev rfl)) rfl rfl rfl rfl (by decide) fun a619 hA620 => ?_; clear hA593 a592
     refine stg hA620 (op_field rfl fd_42_1 (hA620.ev rfl)) rfl rfl rfl rfl (by decide) fun a621 hA622 => ?_; clear hA620 a619
     refine stg hA622 (op_load1 rfl ty_3 (hA622.ev rfl) (hS466.bk 0 rfl) rfl) rfl rfl rfl rfl (by decide) fun a623 hA624 => ?_; clear hA622 a621
     refine stg hA624 (op_gtr rfl (hA624.ev rfl) (hA624.ev rfl)) rfl rfl rfl rfl (by decide) fun a625 hA626 => ?_; clear hA624 a623
     have hd627 : ¬ (((lifeR (allowedF R (madeF ws (trulyF R ws) rs)) k1 s).2) < (hoursF ((trulyF R ws).getD k1 0) s)) := (by have hz_ := htl.2 (by omega); omega)
     rw [decide_eq_false hd627] at hA626
     refine stg hA626 (op_pick_t rfl (hA626.ev rfl) (hA626.ev rfl)) rfl rfl rfl rfl (by decide) fun a628 hA629 => ?_; clear hA626 a625
     refine stg hA629 (op_pick_f rfl (hA629.ev rfl) (hA629.ev rfl)) rfl rfl rfl rfl (by decide) fun a630 hA631 => ?_; clear hA629 a628
     refine stg hA631 (op_pick_t rfl (hA631.ev rfl) (hA631.ev rfl)) rfl rfl rfl rfl (by decide) fun a632 hA633 => ?_; clear hA631 a630
     refine st hA633 (op_pick_f rfl (hA633.ev rfl) (hA633.ev rfl)) rfl rfl (by decide) fun a634 hA635 => ?_; clear hA633 a632
     refine wl_nil ?_
     refine then_n ?_
     refine c_false hA635 rfl ?_
     refine c_skip ?_
     refine blk_n ?_
     refine then_n ?_
     have hA636 := hA635.as [(25, (Value.int .i64 (k1 : Int))), (15, u119), (12, v47), (11, v32), (5, (bptr b4 0)), (4, (Value.int .u32 s))] rfl; clear hA635
     refine c_region ?_
     refine st hA636 (op_move rfl (hA636.ev rfl)) rfl rfl (by decide) fun a637 hA638 => ?_; clear hA636 a634
     refine st hA638 (op_add rfl (hA638.ev rfl) (evc _ _) (by omega) (by omega)) rfl rfl (by decide) fun a639 hA640 => ?_; clear hA638 a637
     refine st hA640 (op_assign rfl (hA640.ev rfl)) rfl rfl (by decide) fun a641 hA642 => ?_; clear hA640 a639
     refine wl_nil ?_
     have hS643 : Sep NoB w w464 [(row u206 3 1 ((doubtF R (madeF ws (trulyF R ws) rs)).length) (ints (doubtF R (madeF ws (trulyF R ws) rs)))), (runsR true v199 lv200 (madeF ws (trulyF R ws) rs)), (row u191 42 2 R.length (pairs R)), (blk b175 42 [(Value.int .i64 (stLo plan (leastR R (madeF ws (trulyF R ws) rs) plan))), (Value.int .i64 (stHi plan (mostR R (madeF ws (trulyF R ws) rs) plan)))]), (row v160 67 3 plan.length (trips plan)), (runsR true v150 lv151 (madeF ws (trulyF R ws) rs)), (row u142 42 2 R.length (pairs R)), (row u119 42 2 R.length (pairs (ratesF R (madeF ws (trulyF R ws) rs)))), (runsR true v112 lv113 (madeF ws (trulyF R ws) rs)), (row u104 42 2 R.length (pairs R)), (row v79 3 1 ((trulyF R ws).length) (ints (trulyF R ws))), (runsR true v69 lv70 (madeF ws (trulyF R ws) rs)), (row u61 42 2 R.length (pairs R)), (runsR false v47 lv (madeF ws (trulyF R ws) rs)), (row v32 3 1 ((trulyF R ws).length) (ints (trulyF R ws))), (blk b4 24 [vr]), (sl xw 1 ws.length (ws.map (Value.int .u16))), (sl vr 2 R.length (pairs R)), (runsR false vu lv rs), (sl vp 3 plan.length (trips plan))] := hS466.keep [3, 4, 5, 6, 7, 8, 9, 10, 11, 12, 13, 14, 15, 16, 17, 18, 19, 20, 21, 22] (by decide) _ rfl rfl; clear hS466
     exact then_n ⟨k1 + 1, ⟨hA642.as _ rfl, hS643, by omega⟩, by omega⟩
  ·skip
   rw [decide_eq_false hb387] at hA386
   refine c_false hA386 rfl ?_
   refine c_exit ?_
   refine then_exit ?_
   refine then_exit ?_
   refine blk_hit ?_
   refine then_n ?_
   refine c_seq ?_
   have hA644 := hA386.as [] rfl; clear hA386
   refine c_region ?_
   refine stw hA644 (op_call rfl en_17 ev0 (awake_ok _)) rfl rfl (by decide) ?_
   rintro a645 _ w647 ⟨rfl, hE648⟩ hA646; have hS649 := hS378.step hE648; clear hE648 hA644 hS378 a385
   refine st hA646 (op_assign rfl (hA646.ev rfl)) rfl rfl (by decide) fun a650 hA651 => ?_; clear hA646 a645
   refine wl_nil ?_
   refine then_n ?_
   refine c_ret ?_
   refine fin_run hA651 (.inl rfl) (run_results1 hA651 rfl (.tmp rfl)) ?_
   exact ⟨rfl, hS649.ext⟩
theorem CreepTruth_ok (w : World) (R : List (Int × Int)) (vr : Value) (hm : SlAt w vr 2 R.length (pairs R)) (rs : List RunD) (lv : List Value) (vu : Value) (hx : RunsAt w vu lv rs) (plan : List Seg) (vp : Value) (hp : SlAt w vp 3 plan.length (trips plan)) (ws : List Int) (xw : Value) (hxw : SlAt w xw 1 ws.length (ws.map (Value.int .u16))) (hw : WordsV ws) (s : Int) (hS_ : 0 ≤ s ∧ s ≤ 4294967295) : Calls Try.prog 14 #[.agg #[vr], vu, vp, xw, .int .u32 s] w (Ret fun v w' => v = .bool true ∧ Ext NoB w w') := by
 rcases Bool.eq_false_or_eq_true (readyB R rs plan) with hf | hf
 ·exact CreepTruth_b w R vr hm rs lv vu hx plan vp hp ws xw hxw hw s hS_ hf
 ·exact CreepTruth_a w R vr hm rs lv vu hx plan vp hp ws xw hxw hw s hS_ hf
end Go.Proofs.Ytkkglkdnnfegkaa
