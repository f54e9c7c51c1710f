/-
  Walks through the functions of the seat, printed by a program of ours (gowalk), a theorem a function: what the call returns and what it leaves in memory.
-/
import Derived.Test.YtkkglkdnnfegkaaLCreepMorea
import Derived.Test.YtkkglkdnnfegkaaBc
import Derived.Test.YtkkglkdnnfegkaaEnga
import Derived.Test.YtkkglkdnnfegkaaEngb
set_option linter.unusedSimpArgs false
set_option linter.unusedVariables false
namespace Go.Proofs.Ytkkglkdnnfegkaa
open Go.RowKit Go.Shelf Go.Eng
set_option maxHeartbeats 4000000 in
theorem CreepMore_e (w : World) (R : List (Int × Int)) (vr : Value) (hm : SlAt w vr 2 R.length (pairs R)) (rs : List RunD) (lv : List Value) (vu : Value) (hx : RunsAt w vu lv rs) (plan : List Seg) (vp : Value) (hp : SlAt w vp 3 plan.length (trips plan)) (mo : RunD) (um : Value) (hu : SlAt w um 3 mo.segs.length (trips mo.segs)) (s : Int) (hS_ : 0 ≤ s ∧ s ≤ 4294967295) (hsz : rs.length * 40 ≤ 140737488351232) (hf : readyB R rs plan = true) (hf2 : readyB R (rs ++ [mo]) plan = true) (hc : possF R rs = 0) (hc2 : possF R (rs ++ [mo]) = 0) :
  Calls Try.prog 6 #[(Value.agg #[vr]), vu, vp, (Value.agg #[um, (Value.int .i64 mo.lo), (Value.int .i64 mo.hi)]), (Value.int .u32 s)] w (Ret fun v w' => v = .bool true ∧ Ext NoB w w') := by
 refine calls_enter Try.func6 rfl fun a0 hA0 => ?_
 replace hA0 : Fr 252 [] [(0, (Value.agg #[vr])), (1, vu), (2, vp), (3, (Value.agg #[um, (Value.int .i64 mo.lo), (Value.int .i64 mo.hi)])), (4, (Value.int .u32 s))] a0 := hA0
 have hll_ : (lv ++ [um]).length = (rs ++ [mo]).length := by rw [List.length_append, List.length_append, hx.len]; rfl
 have hxl : (rs ++ [mo]).length = rs.length + 1 := by rw [List.length_append]; rfl
 have hxa : (rs ++ [(⟨mo.segs, 0, 10000000000⟩ : RunD)]).length = rs.length + 1 := by rw [List.length_append]; rfl
 have hrd := ready_is hf; have hth := hrd.1; have he := hrd.2.1; have h6 := hth.mat; have h9 := hth.runs; have h12 := hth.plan; have hp8 := hrd.2.2.1; have hsb := hrd.2.2.2; have hcm := check_mat (enter_mat he); have hR := hcm.1; have hR1 := hcm.2.1; have hR3 := hR.1; have hV := enter_runs he; have hs : ∀ i, i < plan.length → SegV R.length (plan.getD i (0, 0, 0)) := fun i hi => segV_of (List.all_eq_true.1 hsb i (List.mem_range.2 hi)); have hrt := ratesF_len R rs; have hle := allowed_le (rs := rs) hR; have hrd2 := ready_is hf2; have hth2 := hrd2.1; have he2 := hrd2.2.1; have h9x := hth2.runs; have hV2 := enter_runs he2; have hmo : RunV R.length mo := by have := hV2.runs rs.length (by omega); rwa [getD_last] at this
 have h9a : (rs ++ [(⟨mo.segs, 0, 10000000000⟩ : RunD)]).length ≤ 9 := by omega
 have hsga : ∀ i, i < (rs ++ [(⟨mo.segs, 0, 10000000000⟩ : RunD)]).length → ((rs ++ [(⟨mo.segs, 0, 10000000000⟩ : RunD)]).getD i run0).segs.length ≤ 12 := more_segs hth.segs (Nat.le_trans (show mo.segs.length ≤ 8 from hmo.len) (by decide))
 have hea : enterF R (rs ++ [(⟨mo.segs, 0, 10000000000⟩ : RunD)]) = 0 := more_enter he he2
 have hala : allowedF R (rs ++ [(⟨mo.segs, 0, 10000000000⟩ : RunD)]) = allowedF R rs := allowed_all hR hmo.len hmo.segs
 have hpa : possF R (rs ++ [(⟨mo.segs, 0, 10000000000⟩ : RunD)]) = possF R rs := poss_same hala he hea
 have hrta := ratesF_len R (rs ++ [(⟨mo.segs, 0, 10000000000⟩ : RunD)]); have hrt2 := ratesF_len R (rs ++ [mo])
 have hale : (allowedF R (rs ++ [(⟨mo.segs, 0, 10000000000⟩ : RunD)])).length = (allowedF R rs).length := by rw [hala]
 have hle2 := app_len R rs mo
 have hz3 : possF R (rs ++ [(⟨mo.segs, 0, 10000000000⟩ : RunD)]) = 0 := by omega
 have hal2 := (poss_is hc2).2; have hsub := sub_app R rs mo; have hc0 : planF R rs plan = 0 := plan_0 hc hp8 hsb; have hc02 : planF R (rs ++ [mo]) plan = 0 := plan_0 hc2 hp8 hsb
 have hS0 : Sep NoB w w [(sl um 3 mo.segs.length (trips mo.segs)), (sl vr 2 R.length (pairs R)), (runsR false vu lv rs), (sl vp 3 plan.length (trips plan))] := sep_ro ⟨rfl, hu, rfl, hm, rfl, hx, rfl, hp, trivial⟩
 refine c_seq ?_
 refine c_region ?_
 refine stw hA0 (op_box hS0 rfl (hA0.ev rfl) (cs := [vr]) rfl) rfl rfl (by decide) ?_
 rintro a1 _ w3 ⟨b4, rfl, hS5⟩ hA2; clear hA0 hS0 a0
 refine stw hA2 (op_box hS5 rfl (hA2.ev rfl) (cs := [um, (Value.int .i64 mo.lo), (Value.int .i64 mo.hi)]) rfl) rfl rfl (by decide) ?_
 rintro a6 _ w8 ⟨b9, rfl, hS10⟩ hA7; clear hA2 hS5 a1
 refine st hA7 (op_assign rfl (evc _ _)) rfl rfl (by decide) fun a11 hA12 => ?_; clear hA7 a6
 refine wl_nil ?_
 refine then_n ?_
 refine c_seq ?_
 have hA13 := hA12.as [(8, (bptr b9 0)), (5, (bptr b4 0)), (1, vu), (2, vp), (4, (Value.int .u32 s))] rfl; clear hA12
 refine c_drawCC mixed hA13 hS10 5 [(2, 0)] [[], [], [0, 1], [], [3]] [(fun (vs14 : Nat → Value) (v_ : Value) (rs_ : List Res) => ∃ (b0_ : Nat), v_ = (Value.slice (some ⟨b0_, 0, none⟩) 0 0) ∧ rs_ = [(blk b0_ 54 [])]), (fun (vs14 : Nat → Value) (v_ : Value) (rs_ : List Res) => v_ = vu ∧ rs_ = []), (fun (vs14 : Nat → Value) (v_ : Value) (rs_ : List Res) => True ∧ rs_ = [(row v_ 54 3 rs.length (vtrips (runV lv rs)))]), (fun (vs14 : Nat → Value) (v_ : Value) (rs_ : List Res) => v_ = (Value.agg #[um, (Value.int .i64 mo.lo), (Value.int .i64 mo.hi)]) ∧ rs_ = []), (fun (vs14 : Nat → Value) (v_ : Value) (rs_ : List Res) => True ∧ rs_ = [(row v_ 54 3 1 [um, (Value.int .i64 mo.lo), (Value.int .i64 mo.hi)])])] (by decide +kernel) (by decide +kernel) (by decide +kernel) (by decide +kernel) rfl rfl ⟨(fun _ _ _ _ _ h_ => h_), (fun _ _ _ _ _ h_ => h_), (fun _ _ _ _ _ h_ => h_), (fun _ _ _ _ _ h_ => h_), (fun _ _ _ _ _ h_ => h_), trivial⟩ (by decide +kernel) ?_ ?_ ?_
 ·skip
  refine ⟨fun hj_ a w vs14 hA hS hd => ?_, ?_⟩
  ·skip
   exact opG_of rfl (vblz rfl pv0 un_25 ty_54 ze_54 bs_54_0_ (fun b_ => ⟨b_, rfl, rfl⟩))
  refine ⟨fun hj_ a w vs14 hA hS hd => ?_, ?_⟩
  ·skip
   exact opG_of rfl (vv (op_move rfl (hA.ev rfl)) (And.intro rfl rfl))
  refine ⟨fun hj_ => absurd hj_ (by decide), ?_⟩
  refine ⟨fun hj_ a w vs14 hA hS hd => ?_, ?_⟩
  ·skip
   exact opG_of rfl (vv (op_loadA rfl ty_54 (hA.ev rfl) (hS.bk 0 rfl) (l := [um, (Value.int .i64 mo.lo), (Value.int .i64 mo.hi)]) rfl rfl) (And.intro rfl rfl))
  refine ⟨fun hj_ a w vs14 hA hS hd => ?_, ?_⟩
  ·skip
   obtain ⟨e3, rs3, hy3, hp3⟩ := hd 3 (by decide)
   obtain ⟨hv3, hr3⟩ := hy3; subst hr3
   rw [hv3] at e3
   exact opG_of rfl (vblt rfl (pv1 (tmp_ev (slot_ev e3 rfl))) un_25 ty_54 ze_54 (by decide) (cs := [um, (Value.int .i64 mo.lo), (Value.int .i64 mo.hi)]) (bs_54_1_0viia _ _ _) rfl (by decide) (fun _ => And.intro trivial rfl))
  trivial
 ·skip
  refine ⟨fun o_ ho_ => ?_, ?_⟩
  ·skip
   obtain rfl := Option.some.inj ho_; clear ho_
   intro a w vs14 rs0 Lr hA hs0 hy0 hd hL hS
   obtain ⟨b0_, hv0, hr0⟩ := hy0; subst hr0
   rw [hv0] at hs0
   replace hS := hS.blk_row (i := 0) (sz := 3) (n := 0) rfl rfl (by decide)
   obtain ⟨e1, rs1, hy1, hp1⟩ := hd 1 (by decide) (by decide)
   obtain ⟨hv1, hr1⟩ := hy1; subst hr1
   rw [hv1] at e1
   exact opG_of rfl (opY_mono (op_append hS rfl un_25 el_54 (tmp_ev (slot_ev hs0 rfl)) (tmp_ev (slot_ev e1 rfl)) (i := 0) rfl (runs_at (hL.ok 4 _ rfl)).runs (runs_one (runs_at (hL.ok 4 _ rfl)).len (runs_at (hL.ok 4 _ rfl)).segs) (by simp only [maxLen]; omega) (by omega)) fun v_ w_ h_ => ⟨_, And.intro trivial rfl, h_.row_say (i := 0) rfl (n' := rs.length) (xs' := (vtrips (runV lv rs))) (by simp) (by simp)⟩)
  trivial
 ·skip
  intro a15 w16 vs14 rsf20 hA17 hH19 hrq hS18; clear hA13 hS10
  have hrq_0 := hrq (2, 0) (by decide)
  obtain ⟨hs_1, hy_1⟩ := hH19 1 (by decide) (by decide)
  obtain ⟨hv_1, hr_1⟩ := hy_1
  obtain ⟨hs_2, hy_2⟩ := hH19 2 (by decide) (by decide)
  obtain ⟨hv_2, hr_2⟩ := hy_2
  obtain ⟨hs_3, hy_3⟩ := hH19 3 (by decide) (by decide)
  obtain ⟨hv_3, hr_3⟩ := hy_3
  obtain ⟨hs_4, hy_4⟩ := hH19 4 (by decide) (by decide)
  obtain ⟨hv_4, hr_4⟩ := hy_4
  have hS21 : Sep NoB w w16 [(row (vs14 2) 54 3 rs.length (vtrips (runV lv rs))), (row (vs14 4) 54 3 1 [um, (Value.int .i64 mo.lo), (Value.int .i64 mo.hi)]), (blk b9 54 [um, (Value.int .i64 mo.lo), (Value.int .i64 mo.hi)]), (blk b4 24 [vr]), (sl um 3 mo.segs.length (trips mo.segs)), (sl vr 2 R.length (pairs R)), (runsR false vu lv rs), (sl vp 3 plan.length (trips plan))] := by rw [show catR rsf20 0 5 = ([(row (vs14 2) 54 3 rs.length (vtrips (runV lv rs))), (row (vs14 4) 54 3 1 [um, (Value.int .i64 mo.lo), (Value.int .i64 mo.hi)])] : List Res) by (try simp only [catR, hr_1, hr_2, hr_3, hr_4, hrq_0]); (try rfl)] at hS18; exact hS18
  have hA22 : Fr 252 [] [(33, (vs14 2)), (8, (bptr b9 0)), (5, (bptr b4 0)), (1, vu), (2, vp), (4, (Value.int .u32 s))] a15 := hA17.add (slot_ev hs_2 rfl); clear hA17
  have hA23 : Fr 252 [] [(35, (vs14 4)), (33, (vs14 2)), (8, (bptr b9 0)), (5, (bptr b4 0)), (1, vu), (2, vp), (4, (Value.int .u32 s))] a15 := hA22.add (slot_ev hs_4 rfl); clear hA22
  clear hH19 hS18 hs_1 hs_2 hs_3 hs_4 hrq hrq_0
  clear hr_1
  clear hv_1
  clear hr_2
  clear hv_2
  clear hr_3
  clear hv_3
  clear hr_4
  clear hv_4
  refine stw hA23 (op_append hS21 rfl un_25 el_54 (hA23.ev rfl) (hA23.ev rfl) (i := 0) rfl (SlAt.of_row (hS21.ok_row 1 rfl)) (all_c (SlAt.one (hS21.sk 4 rfl)) (all_c rfl (all_c rfl all_n))) (by simp only [maxLen]; omega) (by omega)) rfl rfl (by decide) ?_
  intro a24 v27 w26 hS28 hA25
  have hS29 := hS28.row_say (i := 0) rfl (n' := (rs ++ [mo]).length) (xs' := (vtrips (runV (lv ++ [um]) (rs ++ [mo])))) (by simp) (runs_snoc (runs_at (hS21.ok 6 _ rfl)).len um mo); clear hS28 hA23 hS21 a15
  refine st hA25 (op_assign rfl (hA25.ev rfl)) rfl rfl (by decide) fun a30 hA31 => ?_; clear hA25 a24
  refine wl_nil ?_
  refine then_n ?_
  refine c_seq ?_
  refine c_seq ?_
  have hS32 := hS29.segs_app (x := mo) (i := 6) (j := 4) rfl rfl; clear hS29
  have hS33 : Sep NoB w w26 [(row v27 54 3 ((rs ++ [mo]).length) (vtrips (runV (lv ++ [um]) (rs ++ [mo])))), (segsR false (lv ++ [um]) (rs ++ [mo])), (row (vs14 4) 54 3 1 [um, (Value.int .i64 mo.lo), (Value.int .i64 mo.hi)]), (blk b9 54 [um, (Value.int .i64 mo.lo), (Value.int .i64 mo.hi)]), (blk b4 24 [vr]), (sl um 3 mo.segs.length (trips mo.segs)), (sl vr 2 R.length (pairs R)), (runsR false vu lv rs), (sl vp 3 plan.length (trips plan))] := hS32.keep [1, 0, 2, 3, 4, 5, 6, 7, 8] (by decide) _ rfl rfl; clear hS32
  have hS34 := hS33.runs_ro rfl; clear hS33
  refine c_region ?_
  refine st hA31 (op_loadA rfl ty_24 (hA31.ev rfl) (hS34.bk 3 rfl) (l := [vr]) rfl rfl) rfl rfl (by decide) fun a35 hA36 => ?_; clear hA31 a30
  refine st hA36 (op_move rfl (hA36.ev rfl)) rfl rfl (by decide) fun a37 hA38 => ?_; clear hA36 a35
  refine st hA38 (op_move rfl (hA38.ev rfl)) rfl rfl (by decide) fun a39 hA40 => ?_; clear hA38 a37
  refine stw hA40 (op_call rfl en_27 (ev3 (hA40.ev rfl) (hA40.ev rfl) (hA40.ev rfl)) (ready_ok _ R _ (hS34.sk 5 rfl) rs _ _ (runs_at (hS34.ok 6 _ rfl)) plan _ (hS34.sk 7 rfl))) rfl rfl (by decide) ?_
  rintro a41 _ w43 ⟨rfl, hE44⟩ hA42; have hS45 := hS34.step hE44; clear hE44 hA40 hS34 a39
  rw [hf] at hA42
  refine st hA42 (op_not rfl (hA42.ev rfl)) rfl rfl (by decide) fun a46 hA47 => ?_; clear hA42 a41
  refine st hA47 (op_move rfl (hA47.ev rfl)) rfl rfl (by decide) fun a48 hA49 => ?_; clear hA47 a46
  refine stg hA49 (op_loadA rfl ty_24 (hA49.ev rfl) (hS45.bk 3 rfl) (l := [vr]) rfl rfl) rfl rfl rfl rfl (by decide) fun a50 hA51 => ?_; clear hA49 a48
  refine stg hA51 (op_move rfl (hA51.ev rfl)) rfl rfl rfl rfl (by decide) fun a52 hA53 => ?_; clear hA51 a50
  refine stg hA53 (op_move rfl (hA53.ev rfl)) rfl rfl rfl rfl (by decide) fun a54 hA55 => ?_; clear hA53 a52
  refine stwg hA55 (op_call rfl en_27 (ev3 (hA55.ev rfl) (hA55.ev rfl) (hA55.ev rfl)) (ready_ok _ R _ (hS45.sk 5 rfl) (rs ++ [mo]) _ _ (runs_at (hS45.ok 0 _ rfl)) plan _ (hS45.sk 7 rfl))) rfl rfl rfl rfl (by decide) ?_
  rintro a56 _ w58 ⟨rfl, hE59⟩ hA57; have hS60 := hS45.step hE59; clear hE59 hA55 hS45 a54
  rw [hf2] at hA57
  refine stg hA57 (op_not rfl (hA57.ev rfl)) rfl rfl rfl rfl (by decide) fun a61 hA62 => ?_; clear hA57 a56
  refine st hA62 (op_pick_f rfl (hA62.ev rfl) (hA62.ev rfl)) rfl rfl (by decide) fun a63 hA64 => ?_; clear hA62 a61
  refine wl_nil ?_
  refine then_n ?_
  refine c_false hA64 rfl ?_
  refine c_skip ?_
  refine then_n ?_
  refine c_seq ?_
  have hA65 := hA64.as [(11, v27), (5, (bptr b4 0)), (1, vu), (2, vp), (4, (Value.int .u32 s))] rfl; clear hA64
  refine c_region ?_
  refine stw hA65 (op_buildSlice hS60 rfl pv0 un_25 ty_54 ze_54 (by decide) (cs := []) bs_54_0_) rfl rfl (by decide) ?_
  rintro a66 _ w68 ⟨b69, rfl, hS70⟩ hA67; clear hA65 hS60 a63
  refine st hA67 (op_move rfl (hA67.ev rfl)) rfl rfl (by decide) fun a71 hA72 => ?_; clear hA67 a66
  have hS73 := hS70.blk_row (i := 0) (sz := 3) (n := 0) rfl rfl (by decide); clear hS70
  refine stw hA72 (op_append hS73 rfl un_25 el_54 (hA72.ev rfl) (hA72.ev rfl) (i := 0) rfl (runs_at (hS73.ok 1 _ rfl)).runs (runs_one (runs_at (hS73.ok 1 _ rfl)).len (runs_at (hS73.ok 1 _ rfl)).segs) (by simp only [maxLen]; omega) (by omega)) rfl rfl (by decide) ?_
  intro a74 v77 w76 hS78 hA75
  have hS79 := hS78.row_say (i := 0) rfl (n' := (rs ++ [mo]).length) (xs' := (vtrips (runV (lv ++ [um]) (rs ++ [mo])))) (by simp) (by simp); clear hS78 hA72 hS73 a71
  refine st hA75 (op_assign rfl (hA75.ev rfl)) rfl rfl (by decide) fun a80 hA81 => ?_; clear hA75 a74
  refine wl_nil ?_
  refine then_n ?_
  refine c_seq ?_
  refine c_region ?_
  refine st hA81 (op_move rfl (hA81.ev rfl)) rfl rfl (by decide) fun a82 hA83 => ?_; clear hA81 a80
  refine st hA83 (op_move rfl (hA83.ev rfl)) rfl rfl (by decide) fun a84 hA85 => ?_; clear hA83 a82
  refine st hA85 (op_lenS rfl un_25 (hA85.ev rfl) (runs_at (hS79.ok 7 _ rfl)).runs) rfl rfl (by decide) fun a86 hA87 => ?_; clear hA85 a84
  refine st hA87 (op_build rfl (pv2 (evc _ _) (evc _ _)) (bd_48_0i_1i _ _)) rfl rfl (by decide) fun a88 hA89 => ?_; clear hA87 a86
  refine st hA89 (op_indexS rfl un_25 ty_54 (hA89.ev rfl) (i := rs.length) (hA89.ev rfl) (SlAt.of_row (hS79.ok_row 0 rfl)) (by decide) (by omega)) rfl rfl (by decide) fun a90 hA91 => ?_; clear hA89 a88
  refine st hA91 (op_fieldS rfl fd_54_1 (hA91.ev rfl) (SlAt.of_row (hS79.ok_row 0 rfl)) (by rw [((SlAt.of_row (hS79.ok_row 0 rfl))).1]; omega)) rfl rfl (by decide) fun a92 hA93 => ?_; clear hA91 a90
  refine sts hA93 (op_storeE hS79 rfl ty_48 (hA93.ev rfl) (hA93.ev rfl) (i := 0) rfl (vs := [(Value.int .i64 0), (Value.int .i64 10000000000)]) rfl rfl rfl (by rw [vtrips_length, runV_len hll_]; first | omega | (simp only [List.length_cons, List.length_nil]; omega)) (by decide)) rfl rfl ?_
  intro _ w94 hS95 hA97; have hS96 := hS95.row_say (i := 0) rfl (n' := ((rs ++ [mo]).set rs.length (⟨((rs ++ [mo]).getD rs.length run0).segs, 0, 10000000000⟩ : RunD)).length) (xs' := (vtrips (runV (lv ++ [um]) ((rs ++ [mo]).set rs.length (⟨((rs ++ [mo]).getD rs.length run0).segs, 0, 10000000000⟩ : RunD))))) (by simp only [List.length_set]) (runs_set12 (runs_at (hS79.ok 1 _ rfl)).len (by omega) _ _); clear hS95 hA93 hS79
  refine wl_nil ?_
  refine then_n ?_
  refine c_seq ?_
  have hA98 := hA97.as [(12, v77), (11, v27), (5, (bptr b4 0)), (1, vu), (2, vp), (4, (Value.int .u32 s))] rfl; clear hA97
  have hS99 := hS96.row_say (i := 0) rfl (n' := (rs ++ [(⟨mo.segs, 0, 10000000000⟩ : RunD)]).length) (xs' := (vtrips (runV (lv ++ [um]) (rs ++ [(⟨mo.segs, 0, 10000000000⟩ : RunD)])))) (by simp only [List.length_set, List.length_append, List.length_cons, List.length_nil]) (by rw [getD_last, set_last]); clear hS96
  have hS100 := hS99.segs_app (x := ⟨mo.segs, 0, 10000000000⟩) (i := 7) (j := 5) rfl rfl; clear hS99
  have hS101 : Sep NoB w w94 [(row v77 54 3 ((rs ++ [(⟨mo.segs, 0, 10000000000⟩ : RunD)]).length) (vtrips (runV (lv ++ [um]) (rs ++ [(⟨mo.segs, 0, 10000000000⟩ : RunD)])))), (segsR false (lv ++ [um]) (rs ++ [(⟨mo.segs, 0, 10000000000⟩ : RunD)])), (runsR false v27 (lv ++ [um]) (rs ++ [mo])), (row (vs14 4) 54 3 1 [um, (Value.int .i64 mo.lo), (Value.int .i64 mo.hi)]), (blk b9 54 [um, (Value.int .i64 mo.lo), (Value.int .i64 mo.hi)]), (blk b4 24 [vr]), (sl um 3 mo.segs.length (trips mo.segs)), (sl vr 2 R.length (pairs R)), (runsR false vu lv rs), (sl vp 3 plan.length (trips plan))] := hS100.keep [1, 0, 2, 3, 4, 5, 6, 7, 8, 9] (by decide) _ rfl rfl; clear hS100
  have hS102 := hS101.runs_ro rfl; clear hS101
  refine c_region ?_
  refine st hA98 (op_loadA rfl ty_24 (hA98.ev rfl) (hS102.bk 4 rfl) (l := [vr]) rfl rfl) rfl rfl (by decide) fun a103 hA104 => ?_; clear hA98 a92
  refine stw hA104 (op_call rfl en_19 (ev1 (hA104.ev rfl)) (Material_ok _ R _ (hS102.sk 6 rfl) hth.mat)) rfl rfl (by decide) ?_
  rintro a105 _ w107 ⟨u110, rfl, hT108⟩ hA106; have hS109 := hS102.callS hT108 rfl; clear hT108 hA104 hS102 a103
  refine st hA106 (op_move rfl (hA106.ev rfl)) rfl rfl (by decide) fun a111 hA112 => ?_; clear hA106 a105
  refine stw hA112 (op_call rfl en_20 (ev1 (hA112.ev rfl)) (Runs_ok _ rs _ _ (runs_at (hS109.ok 8 _ rfl)) h9 hth.segs)) rfl rfl (by decide) ?_
  rintro a113 v118 w115 ⟨lv119, hT116⟩ hA114; have hS117 := hS109.callS hT116 rfl; clear hT116 hA112 hS109 a111
  refine stw hA114 (op_call rfl en_18 (ev2 (hA114.ev rfl) (hA114.ev rfl)) (rates_ok R rs lv119 u110 v118 _ (SlAt.of_row (hS117.ok_row 1 rfl)) (runs_at (hS117.ok 0 _ rfl)) (by omega) (by omega) hc)) rfl rfl (by decide) ?_
  rintro a120 _ w122 ⟨u125, rfl, hT123⟩ hA121
  have hS124 : Sep NoB w w122 [(row u125 42 2 R.length (pairs (ratesF R rs))), (runsR true v118 lv119 rs), (row u110 42 2 R.length (pairs R)), (runsR false v77 (lv ++ [um]) (rs ++ [(⟨mo.segs, 0, 10000000000⟩ : RunD)])), (runsR false v27 (lv ++ [um]) (rs ++ [mo])), (row (vs14 4) 54 3 1 [um, (Value.int .i64 mo.lo), (Value.int .i64 mo.hi)]), (blk b9 54 [um, (Value.int .i64 mo.lo), (Value.int .i64 mo.hi)]), (blk b4 24 [vr]), (sl um 3 mo.segs.length (trips mo.segs)), (sl vr 2 R.length (pairs R)), (runsR false vu lv rs), (sl vp 3 plan.length (trips plan))] := hS117.callS hT123 rfl; clear hT123 hA114 hS117 a113
  refine st hA121 (op_move rfl (hA121.ev rfl)) rfl rfl (by decide) fun a126 hA127 => ?_; clear hA121 a120
  refine st hA127 (op_extract rfl (hA127.ev rfl) rfl) rfl rfl (by decide) fun a128 hA129 => ?_; clear hA127 a126
  refine st hA129 (op_extract rfl (hA129.ev rfl) rfl) rfl rfl (by decide) fun a130 hA131 => ?_; clear hA129 a128
  refine st hA131 (op_extract rfl (hA131.ev rfl) rfl) rfl rfl (by decide) fun a132 hA133 => ?_; clear hA131 a130
  refine st hA133 (op_assign rfl (hA133.ev rfl)) rfl rfl (by decide) fun a134 hA135 => ?_; clear hA133 a132
  refine st hA135 (op_assign rfl (hA135.ev rfl)) rfl rfl (by decide) fun a136 hA137 => ?_; clear hA135 a134
  refine st hA137 (op_assign rfl (hA137.ev rfl)) rfl rfl (by decide) fun a138 hA139 => ?_; clear hA137 a136
  refine wl_nil ?_
  refine then_n ?_
  refine c_seq ?_
  have hA140 := hA139.as [(15, (Value.int .i64 0)), (14, (Value.int .i64 (((allowedF R rs).length : Nat) : Int))), (13, u125), (12, v77), (11, v27), (5, (bptr b4 0)), (1, vu), (2, vp), (4, (Value.int .u32 s))] rfl; clear hA139
  refine c_region ?_
  refine st hA140 (op_loadA rfl ty_24 (hA140.ev rfl) (hS124.bk 7 rfl) (l := [vr]) rfl rfl) rfl rfl (by decide) fun a141 hA142 => ?_; clear hA140 a138
  refine stw hA142 (op_call rfl en_19 (ev1 (hA142.ev rfl)) (Material_ok _ R _ (hS124.sk 9 rfl) hth.mat)) rfl rfl (by decide) ?_
  rintro a143 _ w145 ⟨u148, rfl, hT146⟩ hA144; have hS147 := hS124.callS hT146 rfl; clear hT146 hA142 hS124 a141
  refine st hA144 (op_move rfl (hA144.ev rfl)) rfl rfl (by decide) fun a149 hA150 => ?_; clear hA144 a143
  refine stw hA150 (op_call rfl en_20 (ev1 (hA150.ev rfl)) (Runs_ok _ (rs ++ [mo]) _ _ (runs_at (hS147.ok 5 _ rfl)) h9x hth2.segs)) rfl rfl (by decide) ?_
  rintro a151 v156 w153 ⟨lv157, hT154⟩ hA152; have hS155 := hS147.callS hT154 rfl; clear hT154 hA150 hS147 a149
  refine stw hA152 (op_call rfl en_18 (ev2 (hA152.ev rfl) (hA152.ev rfl)) (rates_ok R (rs ++ [mo]) lv157 u148 v156 _ (SlAt.of_row (hS155.ok_row 1 rfl)) (runs_at (hS155.ok 0 _ rfl)) (by omega) (by omega) hc2)) rfl rfl (by decide) ?_
  rintro a158 _ w160 ⟨u163, rfl, hT161⟩ hA159
  have hS162 : Sep NoB w w160 [(row u163 42 2 R.length (pairs (ratesF R (rs ++ [mo])))), (runsR true v156 lv157 (rs ++ [mo])), (row u148 42 2 R.length (pairs R)), (row u125 42 2 R.length (pairs (ratesF R rs))), (runsR true v118 lv119 rs), (row u110 42 2 R.length (pairs R)), (runsR false v77 (lv ++ [um]) (rs ++ [(⟨mo.segs, 0, 10000000000⟩ : RunD)])), (runsR false v27 (lv ++ [um]) (rs ++ [mo])), (row (vs14 4) 54 3 1 [um, (Value.int .i64 mo.lo), (Value.int .i64 mo.hi)]), (blk b9 54 [um, (Value.int .i64 mo.lo), (Value.int .i64 mo.hi)]), (blk b4 24 [vr]), (sl um 3 mo.segs.length (trips mo.segs)), (sl vr 2 R.length (pairs R)), (runsR false vu lv rs), (sl vp 3 plan.length (trips plan))] := hS155.callS hT161 rfl; clear hT161 hA152 hS155 a151
  refine st hA159 (op_move rfl (hA159.ev rfl)) rfl rfl (by decide) fun a164 hA165 => ?_; clear hA159 a158
  refine st hA165 (op_extract rfl (hA165.ev rfl) rfl) rfl rfl (by decide) fun a166 hA167 => ?_; clear hA165 a164
  refine st hA167 (op_extract rfl (hA167.ev rfl) rfl) rfl rfl (by decide) fun a168 hA169 => ?_; clear hA167 a166
  refine st hA169 (op_extract rfl (hA169.ev rfl) rfl) rfl rfl (by decide) fun a170 hA171 => ?_; clear hA169 a168
  refine st hA171 (op_assign rfl (hA171.ev rfl)) rfl rfl (by decide) fun a172 hA173 => ?_; clear hA171 a170
  refine st hA173 (op_assign rfl (hA173.ev rfl)) rfl rfl (by decide) fun a174 hA175 => ?_; clear hA173 a172
  refine st hA175 (op_assign rfl (hA175.ev rfl)) rfl rfl (by decide) fun a176 hA177 => ?_; clear hA175 a174
  refine wl_nil ?_
  refine then_n ?_
  refine c_seq ?_
  have hA178 := hA177.as [(18, (Value.int .i64 0)), (17, (Value.int .i64 (((allowedF R (rs ++ [mo])).length : Nat) : Int))), (16, u163), (15, (Value.int .i64 0)), (14, (Value.int .i64 (((allowedF R rs).length : Nat) : Int))), (13, u125), (12, v77), (11, v27), (5, (bptr b4 0)), (1, vu), (2, vp), (4, (Value.int .u32 s))] rfl; clear hA177
  refine c_region ?_
  refine st hA178 (op_loadA rfl ty_24 (hA178.ev rfl) (hS162.bk 10 rfl) (l := [vr]) rfl rfl) rfl rfl (by decide) fun a179 hA180 => ?_; clear hA178 a176
  refine stw hA180 (op_call rfl en_19 (ev1 (hA180.ev rfl)) (Material_ok _ R _ (hS162.sk 12 rfl) hth.mat)) rfl rfl (by decide) ?_
  rintro a181 _ w183 ⟨u186, rfl, hT184⟩ hA182; have hS185 := hS162.callS hT184 rfl; clear hT184 hA180 hS162 a179
  refine st hA182 (op_move rfl (hA182.ev rfl)) rfl rfl (by decide) fun a187 hA188 => ?_; clear hA182 a181
  refine stw hA188 (op_call rfl en_20 (ev1 (hA188.ev rfl)) (Runs_ok _ (rs ++ [(⟨mo.segs, 0, 10000000000⟩ : RunD)]) _ _ (runs_at (hS185.ok 7 _ rfl)) h9a hsga)) rfl rfl (by decide) ?_
  rintro a189 v194 w191 ⟨lv195, hT192⟩ hA190; have hS193 := hS185.callS hT192 rfl; clear hT192 hA188 hS185 a187
  refine stw hA190 (op_call rfl en_18 (ev2 (hA190.ev rfl) (hA190.ev rfl)) (rates_ok R (rs ++ [(⟨mo.segs, 0, 10000000000⟩ : RunD)]) lv195 u186 v194 _ (SlAt.of_row (hS193.ok_row 1 rfl)) (runs_at (hS193.ok 0 _ rfl)) (by omega) (by omega) hz3)) rfl rfl (by decide) ?_
  rintro a196 _ w198 ⟨u201, rfl, hT199⟩ hA197
  have hS200 : Sep NoB w w198 [(row u201 42 2 R.length (pairs (ratesF R (rs ++ [(⟨mo.segs, 0, 10000000000⟩ : RunD)])))), (runsR true v194 lv195 (rs ++ [(⟨mo.segs, 0, 10000000000⟩ : RunD)])), (row u186 42 2 R.length (pairs R)), (row u163 42 2 R.length (pairs (ratesF R (rs ++ [mo])))), (runsR true v156 lv157 (rs ++ [mo])), (row u148 42 2 R.length (pairs R)), (row u125 42 2 R.length (pairs (ratesF R rs))), (runsR true v118 lv119 rs), (row u110 42 2 R.length (pairs R)), (runsR false v77 (lv ++ [um]) (rs ++ [(⟨mo.segs, 0, 10000000000⟩ : RunD)])), (runsR false v27 (lv ++ [um]) (rs ++ [mo])), (row (vs14 4) 54 3 1 [um, (Value.int .i64 mo.lo), (Value.int .i64 mo.hi)]), (blk b9 54 [um, (Value.int .i64 mo.lo), (Value.int .i64 mo.hi)]), (blk b4 24 [vr]), (sl um 3 mo.segs.length (trips mo.segs)), (sl vr 2 R.length (pairs R)), (runsR false vu lv rs), (sl vp 3 plan.length (trips plan))] := hS193.callS hT199 rfl; clear hT199 hA190 hS193 a189
  refine st hA197 (op_move rfl (hA197.ev rfl)) rfl rfl (by decide) fun a202 hA203 => ?_; clear hA197 a196
  refine st hA203 (op_extract rfl (hA203.ev rfl) rfl) rfl rfl (by decide) fun a204 hA205 => ?_; clear hA203 a202
  refine st hA205 (op_extract rfl (hA205.ev rfl) rfl) rfl rfl (by decide) fun a206 hA207 => ?_; clear hA205 a204
  refine st hA207 (op_extract rfl (hA207.ev rfl) rfl) rfl rfl (by decide) fun a208 hA209 => ?_; clear hA207 a206
  refine st hA209 (op_assign rfl (hA209.ev rfl)) rfl rfl (by decide) fun a210 hA211 => ?_; clear hA209 a208
  refine st hA211 (op_assign rfl (hA211.ev rfl)) rfl rfl (by decide) fun a212 hA213 => ?_; clear hA211 a210
  refine st hA213 (op_assign rfl (hA213.ev rfl)) rfl rfl (by decide) fun a214 hA215 => ?_; clear hA213 a212
  refine wl_nil ?_
  refine then_n ?_
  refine c_seq ?_
  refine c_seq ?_
  have hA216 := hA215.as [(21, (Value.int .i64 0)), (20, (Value.int .i64 (((allowedF R (rs ++ [(⟨mo.segs, 0, 10000000000⟩ : RunD)])).length : Nat) : Int))), (18, (Value.int .i64 0)), (17, (Value.int .i64 (((allowedF R (rs ++ [mo])).length : Nat) : Int))), (16, u163), (15, (Value.int .i64 0)), (14, (Value.int .i64 (((allowedF R rs).length : Nat) : Int))), (13, u125), (11, v27), (5, (bptr b4 0)), (1, vu), (2, vp), (4, (Value.int .u32 s))] rfl; clear hA215
  refine c_region ?_
  refine st hA216 (op_move rfl (hA216.ev rfl)) rfl rfl (by decide) fun a217 hA218 => ?_; clear hA216 a214
  refine st hA218 (op_move rfl (hA218.ev rfl)) rfl rfl (by decide) fun a219 hA220 => ?_; clear hA218 a217
  refine st hA220 (op_neq rfl (hA220.ev rfl) (hA220.ev rfl)) rfl rfl (by decide) fun a221 hA222 => ?_; clear hA220 a219
  refine st hA222 (op_move rfl (hA222.ev rfl)) rfl rfl (by decide) fun a223 hA224 => ?_; clear hA222 a221
  refine stg hA224 (op_move rfl (hA224.ev rfl)) rfl rfl rfl rfl (by decide) fun a225 hA226 => ?_; clear hA224 a223
  refine stg hA226 (op_move rfl (hA226.ev rfl)) rfl rfl rfl rfl (by decide) fun a227 hA228 => ?_; clear hA226 a225
  refine stg hA228 (op_neq rfl (hA228.ev rfl) (hA228.ev rfl)) rfl rfl rfl rfl (by decide) fun a229 hA230 => ?_; clear hA228 a227
  have hd231 : (((allowedF R (rs ++ [(⟨mo.segs, 0, 10000000000⟩ : RunD)])).length : Nat) : Int) = (((allowedF R rs).length : Nat) : Int) := (by omega)
  rw [decide_eq_true hd231] at hA230
  refine st hA230 (op_pick_f rfl (hA230.ev rfl) (hA230.ev rfl)) rfl rfl (by decide) fun a232 hA233 => ?_; clear hA230 a229
  refine st hA233 (op_move rfl (hA233.ev rfl)) rfl rfl (by decide) fun a234 hA235 => ?_; clear hA233 a232
  refine stg hA235 (op_move rfl (hA235.ev rfl)) rfl rfl rfl rfl (by decide) fun a236 hA237 => ?_; clear hA235 a234
  refine stg hA237 (op_move rfl (hA237.ev rfl)) rfl rfl rfl rfl (by decide) fun a238 hA239 => ?_; clear hA237 a236
  refine stg hA239 (op_gtr rfl (hA239.ev rfl) (hA239.ev rfl)) rfl rfl rfl rfl (by decide) fun a240 hA241 => ?_; clear hA239 a238
  have hd242 : ¬ ((((allowedF R rs).length : Nat) : Int) < (((allowedF R (rs ++ [mo])).length : Nat) : Int)) := (by omega)
  rw [decide_eq_false hd242] at hA241
  refine st hA241 (op_pick_f rfl (hA241.ev rfl) (hA241.ev rfl)) rfl rfl (by decide) fun a243 hA244 => ?_; clear hA241 a240
  refine st hA244 (op_move rfl (hA244.ev rfl)) rfl rfl (by decide) fun a245 hA246 => ?_; clear hA244 a243
  refine stg hA246 (op_move rfl (hA246.ev rfl)) rfl rfl rfl rfl (by decide) fun a247 hA248 => ?_; clear hA246 a245
  refine stg hA248 (op_neq rfl (hA248.ev rfl) (evc _ _)) rfl rfl rfl rfl (by decide) fun a249 hA250 => ?_; clear hA248 a247
  refine stg hA250 (op_move rfl (hA250.ev rfl)) rfl rfl rfl rfl (by decide) fun a251 hA252 => ?_; clear hA250 a249
  refine skp hA252 rfl rfl rfl rfl rfl (by decide) fun a253 hA254 => ?_; clear hA252 a251
  refine skp hA254 rfl rfl rfl rfl rfl (by decide) fun a255 hA256 => ?_; clear hA254 a253
  refine skp hA256 rfl rfl rfl rfl rfl (by decide) fun a257 hA258 => ?_; clear hA256 a255
  refine stg hA258 (op_pick_f rfl (hA258.ev rfl) (evc _ _)) rfl rfl rfl rfl (by decide) fun a259 hA260 => ?_; clear hA258 a257
  refine st hA260 (op_pick_f rfl (hA260.ev rfl) (hA260.ev rfl)) rfl rfl (by decide) fun a261 hA262 => ?_; clear hA260 a259
  refine st hA262 (op_move rfl (hA262.ev rfl)) rfl rfl (by decide) fun a263 hA264 => ?_; clear hA262 a261
  refine stg hA264 (op_move rfl (hA264.ev rfl)) rfl rfl rfl rfl (by decide) fun a265 hA266 => ?_; clear hA264 a263
  refine stg hA266 (op_lenS rfl un_28 (hA266.ev rfl) (SlAt.of_row (hS200.ok_row 6 rfl))) rfl rfl rfl rfl (by decide) fun a267 hA268 => ?_; clear hA266 a265
  refine stg hA268 (op_neq rfl (hA268.ev rfl) (evc _ _)) rfl rfl rfl rfl (by decide) fun a269 hA270 => ?_; clear hA268 a267
  refine stg hA270 (op_move rfl (hA270.ev rfl)) rfl rfl rfl rfl (by decide) fun a271 hA272 => ?_; clear hA270 a269
  by_cases hb273 : (R.length : Int) = 0
  ·skip
   rw [decide_eq_true hb273] at hA272
   refine skp hA272 rfl rfl rfl rfl rfl (by decide) fun a274 hA275 => ?_; clear hA272 a271
   refine skp hA275 rfl rfl rfl rfl rfl (by decide) fun a276 hA277 => ?_; clear hA275 a274
   refine skp hA277 rfl rfl rfl rfl rfl (by decide) fun a278 hA279 => ?_; clear hA277 a276
   refine skp hA279 rfl rfl rfl rfl rfl (by decide) fun a280 hA281 => ?_; clear hA279 a278
   refine skp hA281 rfl rfl rfl rfl rfl (by decide) fun a282 hA283 => ?_; clear hA281 a280
   refine skp hA283 rfl rfl rfl rfl rfl (by decide) fun a284 hA285 => ?_; clear hA283 a282
   refine stg hA285 (op_pick_f rfl (hA285.ev rfl) (evc _ _)) rfl rfl rfl rfl (by decide) fun a286 hA287 => ?_; clear hA285 a284
   refine st hA287 (op_pick_f rfl (hA287.ev rfl) (hA287.ev rfl)) rfl rfl (by decide) fun a288 hA289 => ?_; clear hA287 a286
   refine st hA289 (op_move rfl (hA289.ev rfl)) rfl rfl (by decide) fun a290 hA291 => ?_; clear hA289 a288
   refine stg hA291 (op_move rfl (hA291.ev rfl)) rfl rfl rfl rfl (by decide) fun a292 hA293 => ?_; clear hA291 a290
   refine stg hA293 (op_eql rfl (hA293.ev rfl) (evc _ _)) rfl rfl rfl rfl (by decide) fun a294 hA295 => ?_; clear hA293 a292
   refine stg hA295 (op_move rfl (hA295.ev rfl)) rfl rfl rfl rfl (by decide) fun a296 hA297 => ?_; clear hA295 a294
   refine stg hA297 (op_move rfl (hA297.ev rfl)) rfl rfl rfl rfl (by decide) fun a298 hA299 => ?_; clear hA297 a296
   refine stg hA299 (op_lenS rfl un_28 (hA299.ev rfl) (SlAt.of_row (hS200.ok_row 3 rfl))) rfl rfl rfl rfl (by decide) fun a300 hA301 => ?_; clear hA299 a298
   refine stg hA301 (op_move rfl (hA301.ev rfl)) rfl rfl rfl rfl (by decide) fun a302 hA303 => ?_; clear hA301 a300
   refine stg hA303 (op_lenS rfl un_28 (hA303.ev rfl) (SlAt.of_row (hS200.ok_row 6 rfl))) rfl rfl rfl rfl (by decide) fun a304 hA305 => ?_; clear hA303 a302
   refine stg hA305 (op_neq rfl (hA305.ev rfl) (hA305.ev rfl)) rfl rfl rfl rfl (by decide) fun a306 hA307 => ?_; clear hA305 a304
   have hd308 : (R.length : Int) = (R.length : Int) := rfl
   rw [decide_eq_true hd308] at hA307
   refine stg hA307 (op_pick_t rfl (hA307.ev rfl) (hA307.ev rfl)) rfl rfl rfl rfl (by decide) fun a309 hA310 => ?_; clear hA307 a306
   refine st hA310 (op_pick_f rfl (hA310.ev rfl) (hA310.ev rfl)) rfl rfl (by decide) fun a311 hA312 => ?_; clear hA310 a309
   refine wl_nil ?_
   refine then_n ?_
   refine c_false hA312 rfl ?_
   refine c_skip ?_
   refine then_n ?_
   refine c_seq ?_
   refine c_seq ?_
   have hA313 := hA312.as [(18, (Value.int .i64 0)), (16, u163), (13, u125), (11, v27), (5, (bptr b4 0)), (1, vu), (2, vp), (4, (Value.int .u32 s))] rfl; clear hA312
   refine c_region ?_
   refine st hA313 (op_move rfl (hA313.ev rfl)) rfl rfl (by decide) fun a314 hA315 => ?_; clear hA313 a311
   refine st hA315 (op_neq rfl (hA315.ev rfl) (evc _ _)) rfl rfl (by decide) fun a316 hA317 => ?_; clear hA315 a314
   refine wl_nil ?_
   refine then_n ?_
   refine c_false hA317 rfl ?_
   refine c_skip ?_
   refine then_n ?_
   refine c_seq ?_
   refine c_region ?_
   refine st hA317 (op_loadA rfl ty_24 (hA317.ev rfl) (hS200.bk 13 rfl) (l := [vr]) rfl rfl) rfl rfl (by decide) fun a318 hA319 => ?_; clear hA317 a316
   refine stw hA319 (op_call rfl en_19 (ev1 (hA319.ev rfl)) (Material_ok _ R _ (hS200.sk 15 rfl) hth.mat)) rfl rfl (by decide) ?_
   rintro a320 _ w322 ⟨u325, rfl, hT323⟩ hA321; have hS324 := hS200.callS hT323 rfl; clear hT323 hA319 hS200 a318
   refine st hA321 (op_move rfl (hA321.ev rfl)) rfl rfl (by decide) fun a326 hA327 => ?_; clear hA321 a320
   refine stw hA327 (op_call rfl en_20 (ev1 (hA327.ev rfl)) (Runs_ok _ rs _ _ (runs_at (hS324.ok 17 _ rfl)) h9 hth.segs)) rfl rfl (by decide) ?_
   rintro a328 v333 w330 ⟨lv334, hT331⟩ hA329; have hS332 := hS324.callS hT331 rfl; clear hT331 hA327 hS324 a326
   refine st hA329 (op_move rfl (hA329.ev rfl)) rfl rfl (by decide) fun a335 hA336 => ?_; clear hA329 a328
   refine stw hA336 (op_call rfl en_29 (ev1 (hA336.ev rfl)) (Plan_ok _ plan _ (hS332.sk 19 rfl) (by omega))) rfl rfl (by decide) ?_
   rintro a337 v343 w339 ⟨hE340, hO341⟩ hA338; have hS342 := hS332.new_row hE340 hO341; clear hE340 hO341 hA336 hS332 a335
   refine stw hA338 (op_call rfl en_28 (ev3 (hA338.ev rfl) (hA338.ev rfl) (hA338.ev rfl)) (stretch_fine R rs lv334 u325 v333 _ (SlAt.of_row (hS342.ok_row 2 rfl)) (runs_at (hS342.ok 1 _ rfl)) (by omega) (by omega) plan v343 (SlAt.of_row (hS342.ok_row 0 rfl)) (by omega) hc0)) rfl rfl (by decide) ?_
   rintro a344 _ w346 ⟨rfl, hE347⟩ hA345; have hS348 := hS342.step hE347; clear hE347 hA338 hS342 a337
   refine st hA345 (op_move rfl (hA345.ev rfl)) rfl rfl (by decide) fun a349 hA350 => ?_; clear hA345 a344
   refine st hA350 (op_extract rfl (hA350.ev rfl) rfl) rfl rfl (by decide) fun a351 hA352 => ?_; clear hA350 a349
   refine st hA352 (op_extract rfl (hA352.ev rfl) rfl) rfl rfl (by decide) fun a353 hA354 => ?_; clear hA352 a351
   refine stw hA354 (op_alloc hS348 rfl ze_42 (cs := [(Value.int .i64 0), (Value.int .i64 0)]) rfl) rfl rfl (by decide) ?_
   rintro a355 _ w357 ⟨b358, rfl, hS359⟩ hA356; clear hA354 hS348 a353
   refine sts hA356 (op_store hS359 rfl ty_42 (hA356.ev rfl) (hA356.ev rfl) (i := 0) rfl (vs := [(Value.int .i64 (stLo plan (leastR R rs plan))), (Value.int .i64 (stHi plan (mostR R rs plan)))]) rfl rfl rfl (Nat.le_of_ble_eq_true rfl)) rfl rfl ?_
   intro _ w360 hS361 hA362; clear hA356
   have hS363 : Sep NoB w w360 [(blk b358 42 [(Value.int .i64 (stLo plan (leastR R rs plan))), (Value.int .i64 (stHi plan (mostR R rs plan)))]), (row v343 67 3 plan.length (trips plan)), (runsR true v333 lv334 rs), (row u325 42 2 R.length (pairs R)), (row u201 42 2 R.length (pairs (ratesF R (rs ++ [(⟨mo.segs, 0, 10000000000⟩ : RunD)])))), (runsR true v194 lv195 (rs ++ [(⟨mo.segs, 0, 10000000000⟩ : RunD)])), (row u186 42 2 R.length (pairs R)), (row u163 42 2 R.length (pairs (ratesF R (rs ++ [mo])))), (runsR true v156 lv157 (rs ++ [mo])), (row u148 42 2 R.length (pairs R)), (row u125 42 2 R.length (pairs (ratesF R rs))), (runsR true v118 lv119 rs), (row u110 42 2 R.length (pairs R)), (runsR false v77 (lv ++ [um]) (rs ++ [(⟨mo.segs, 0, 10000000000⟩ : RunD)])), (runsR false v27 (lv ++ [um]) (rs ++ [mo])), (row (vs14 4) 54 3 1 [um, (Value.int .i64 mo.lo), (Value.int .i64 mo.hi)]), (blk b9 54 [um, (Value.int .i64 mo.lo), (Value.int .i64 mo.hi)]), (blk b4 24 [vr]), (sl um 3 mo.segs.length (trips mo.segs)), (sl vr 2 R.length (pairs R)), (runsR false vu lv rs), (sl vp 3 plan.length (trips plan))] := hS361; clear hS361 hS359
   refine st hA362 (op_assign rfl (hA362.ev rfl)) rfl rfl (by decide) fun a364 hA365 => ?_; clear hA362 a355
   refine wl_nil ?_
   refine then_n ?_
   refine c_seq ?_
   have hA366 := hA365.as [(23, (Value.int .i64 0)), (22, (bptr b358 0)), (16, u163), (13, u125), (11, v27), (5, (bptr b4 0)), (1, vu), (2, vp), (4, (Value.int .u32 s))] rfl; clear hA365
   refine c_region ?_
   refine st hA366 (op_loadA rfl ty_24 (hA366.ev rfl) (hS363.bk 17 rfl) (l := [vr]) rfl rfl) rfl rfl (by decide) fun a367 hA368 => ?_; clear hA366 a364
   refine stw hA368 (op_call rfl en_19 (ev1 (hA368.ev rfl)) (Material_ok _ R _ (hS363.sk 19 rfl) hth.mat)) rfl rfl (by decide) ?_
   rintro a369 _ w371 ⟨u374, rfl, hT372⟩ hA370; have hS373 := hS363.callS hT372 rfl; clear hT372 hA368 hS363 a367
   refine st hA370 (op_move rfl (hA370.ev rfl)) rfl rfl (by decide) fun a375 hA376 => ?_; clear hA370 a369
   refine stw hA376 (op_call rfl en_20 (ev1 (hA376.ev rfl)) (Runs_ok _ (rs ++ [mo]) _ _ (runs_at (hS373.ok 15 _ rfl)) h9x hth2.segs)) rfl rfl (by decide) ?_
   rintro a377 v382 w379 ⟨lv383, hT380⟩ hA378; have hS381 := hS373.callS hT380 rfl; clear hT380 hA376 hS373 a375
   refine st hA378 (op_move rfl (hA378.ev rfl)) rfl rfl (by decide) fun a384 hA385 => ?_; clear hA378 a377
   refine stw hA385 (op_call rfl en_29 (ev1 (hA385.ev rfl)) (Plan_ok _ plan _ (hS381.sk 23 rfl) (by omega))) rfl rfl (by decide) ?_
   rintro a386 v392 w388 ⟨hE389, hO390⟩ hA387; have hS391 := hS381.new_row hE389 hO390; clear hE389 hO390 hA385 hS381 a384
   refine stw hA387 (op_call rfl en_28 (ev3 (hA387.ev rfl) (hA387.ev rfl) (hA387.ev rfl)) (stretch_fine R (rs ++ [mo]) lv383 u374 v382 _ (SlAt.of_row (hS391.ok_row 2 rfl)) (runs_at (hS391.ok 1 _ rfl)) (by omega) (by omega) plan v392 (SlAt.of_row (hS391.ok_row 0 rfl)) (by omega) hc02)) rfl rfl (by decide) ?_
   rintro a393 _ w395 ⟨rfl, hE396⟩ hA394; have hS397 := hS391.step hE396; clear hE396 hA387 hS391 a386
   refine st hA394 (op_move rfl (hA394.ev rfl)) rfl rfl (by decide) fun a398 hA399 => ?_; clear hA394 a393
   refine st hA399 (op_extract rfl (hA399.ev rfl) rfl) rfl rfl (by decide) fun a400 hA401 => ?_; clear hA399 a398
   refine st hA401 (op_extract rfl (hA401.ev rfl) rfl) rfl rfl (by decide) fun a402 hA403 => ?_; clear hA401 a400
   refine stw hA403 (op_alloc hS397 rfl ze_42 (cs := [(Value.int .i64 0), (Value.int .i64 0)]) rfl) rfl rfl (by decide) ?_
   rintro a404 _ w406 ⟨b407, rfl, hS408⟩ hA405; clear hA403 hS397 a402
   refine sts hA405 (op_store hS408 rfl ty_42 (hA405.ev rfl) (hA405.ev rfl) (i := 0) rfl (vs := [(Value.int .i64 (stLo plan (leastR R (rs ++ [mo]) plan))), (Value.int .i64 (stHi plan (mostR R (rs ++ [mo]) plan)))]) rfl rfl rfl (Nat.le_of_ble_eq_true rfl)) rfl rfl ?_
   intro _ w409 hS410 hA411; clear hA405
   have hS412 : Sep NoB w w409 [(blk b407 42 [(Value.int .i64 (stLo plan (leastR R (rs ++ [mo]) plan))), (Value.int .i64 (stHi plan (mostR R (rs ++ [mo]) plan)))]), (row v392 67 3 plan.length (trips plan)), (runsR true v382 lv383 (rs ++ [mo])), (row u374 42 2 R.length (pairs R)), (blk b358 42 [(Value.int .i64 (stLo plan (leastR R rs plan))), (Value.int .i64 (stHi plan (mostR R rs plan)))]), (row v343 67 3 plan.length (trips plan)), (runsR true v333 lv334 rs), (row u325 42 2 R.length (pairs R)), (row u201 42 2 R.length (pairs (ratesF R (rs ++ [(⟨mo.segs, 0, 10000000000⟩ : RunD)])))), (runsR true v194 lv195 (rs ++ [(⟨mo.segs, 0, 10000000000⟩ : RunD)])), (row u186 42 2 R.length (pairs R)), (row u163 42 2 R.length (pairs (ratesF R (rs ++ [mo])))), (runsR true v156 lv157 (rs ++ [mo])), (row u148 42 2 R.length (pairs R)), (row u125 42 2 R.length (pairs (ratesF R rs))), (runsR true v118 lv119 rs), (row u110 42 2 R.length (pairs R)), (runsR false v77 (lv ++ [um]) (rs ++ [(⟨mo.segs, 0, 10000000000⟩ : RunD)])), (runsR false v27 (lv ++ [um]) (rs ++ [mo])), (row (vs14 4) 54 3 1 [um, (Value.int .i64 mo.lo), (Value.int .i64 mo.hi)]), (blk b9 54 [um, (Value.int .i64 mo.lo), (Value.int .i64 mo.hi)]), (blk b4 24 [vr]), (sl um 3 mo.segs.length (trips mo.segs)), (sl vr 2 R.length (pairs R)), (runsR false vu lv rs), (sl vp 3 plan.length (trips plan))] := hS410; clear hS410 hS408
   refine st hA411 (op_assign rfl (hA411.ev rfl)) rfl rfl (by decide) fun a413 hA414 => ?_; clear hA411 a404
   refine wl_nil ?_
   refine then_n ?_
   refine c_seq ?_
   refine c_seq ?_
   have hA415 := hA414.as [(25, (Value.int .i64 0)), (24, (bptr b407 0)), (23, (Value.int .i64 0)), (22, (bptr b358 0)), (16, u163), (13, u125), (11, v27), (5, (bptr b4 0)), (1, vu), (4, (Value.int .u32 s))] rfl; clear hA414
   refine c_region ?_
   refine st hA415 (op_move rfl (hA415.ev rfl)) rfl rfl (by decide) fun a416 hA417 => ?_; clear hA415 a413
   refine st hA417 (op_neq rfl (hA417.ev rfl) (evc _ _)) rfl rfl (by decide) fun a418 hA419 => ?_; clear hA417 a416
   refine st hA419 (op_move rfl (hA419.ev rfl)) rfl rfl (by decide) fun a420 hA421 => ?_; clear hA419 a418
   refine stg hA421 (op_move rfl (hA421.ev rfl)) rfl rfl rfl rfl (by decide) fun a422 hA423 => ?_; clear hA421 a420
   refine stg hA423 (op_neq rfl (hA423.ev rfl) (evc _ _)) rfl rfl rfl rfl (by decide) fun a424 hA425 => ?_; clear hA423 a422
   refine st hA425 (op_pick_f rfl (hA425.ev rfl) (hA425.ev rfl)) rfl rfl (by decide) fun a426 hA427 => ?_; clear hA425 a424
   refine st hA427 (op_move rfl (hA427.ev rfl)) rfl rfl (by decide) fun a428 hA429 => ?_; clear hA427 a426
   refine stg hA429 (op_loadA rfl ty_42 (hA429.ev rfl) (hS412.bk 0 rfl) (l := [(Value.int .i64 (stLo plan (leastR R (rs ++ [mo]) plan))), (Value.int .i64 (stHi plan (mostR R (rs ++ [mo]) plan)))]) rfl rfl) rfl rfl rfl rfl (by decide) fun a430 hA431 => ?_; clear hA429 a428
   refine stg hA431 (op_loadA rfl ty_42 (hA431.ev rfl) (hS412.bk 4 rfl) (l := [(Value.int .i64 (stLo plan (leastR R rs plan))), (Value.int .i64 (stHi plan (mostR R rs plan)))]) rfl rfl) rfl rfl rfl rfl (by decide) fun a432 hA433 => ?_; clear hA431 a430
   refine stwg hA433 (op_call rfl en_30 (ev2 (hA433.ev rfl) (hA433.ev rfl)) (inside_ok _ _ _ _ _)) rfl rfl rfl rfl (by decide) ?_
   rintro a434 _ w436 ⟨rfl, hE437⟩ hA435; have hS438 := hS412.step hE437; clear hE437 hA433 hS412 a432
   have hd439 : (decide ((stLo plan (leastR R rs plan)) ≤ (stLo plan (leastR R (rs ++ [mo]) plan))) && decide ((stHi plan (mostR R (rs ++ [mo]) plan)) ≤ (stHi plan (mostR R rs plan)))) = true := (by have hz_ := str_sub hal2 hsub plan; simp only [Bool.and_eq_true, decide_eq_true_eq]; exact hz_)
   rw [hd439] at hA435
   have hq440 := hd439; simp only [Bool.and_eq_true, Bool.and_eq_false_iff, decide_eq_true_eq, decide_eq_false_iff_not] at hq440
   refine stg hA435 (op_not rfl (hA435.ev rfl)) rfl rfl rfl rfl (by decide) fun a441 hA442 => ?_; clear hA435 a434
   refine st hA442 (op_pick_f rfl (hA442.ev rfl) (hA442.ev rfl)) rfl rfl (by decide) fun a443 hA444 => ?_; clear hA442 a441
   refine wl_nil ?_
   refine then_n ?_
   refine c_false hA444 rfl ?_
   refine c_skip ?_
   refine then_n ?_
   refine c_seq ?_
   refine c_seq ?_
   have hA445 := hA444.as [(16, u163), (13, u125), (11, v27), (5, (bptr b4 0)), (1, vu), (4, (Value.int .u32 s))] rfl; clear hA444
   refine c_region ?_
   refine st hA445 (op_assign rfl (evc _ _)) rfl rfl (by decide) fun a446 hA447 => ?_; clear hA445 a443
   refine wl_nil ?_
   refine then_n ?_
   refine c_block ?_
   have hA448 := hA447.as [(26, (Value.int .i64 0)), (16, u163), (13, u125), (11, v27), (5, (bptr b4 0)), (1, vu), (4, (Value.int .u32 s))] rfl; clear hA447
   refine c_loop (G := Nat) (fun (k : Nat) a_ w_ => Fr 252 [] [(26, (Value.int .i64 (k : Int))), (16, u163), (13, u125), (11, v27), (5, (bptr b4 0)), (1, vu), (4, (Value.int .u32 s))] a_ ∧ Sep NoB w w_ [(blk b407 42 [(Value.int .i64 (stLo plan (leastR R (rs ++ [mo]) plan))), (Value.int .i64 (stHi plan (mostR R (rs ++ [mo]) plan)))]), (row v392 67 3 plan.length (trips plan)), (runsR true v382 lv383 (rs ++ [mo])), (row u374 42 2 R.length (pairs R)), (blk b358 42 [(Value.int .i64 (stLo plan (leastR R rs plan))), (Value.int .i64 (stHi plan (mostR R rs plan)))]), (row v343 67 3 plan.length (trips plan)), (runsR true v333 lv334 rs), (row u325 42 2 R.length (pairs R)), (row u201 42 2 R.length (pairs (ratesF R (rs ++ [(⟨mo.segs, 0, 10000000000⟩ : RunD)])))), (runsR true v194 lv195 (rs ++ [(⟨mo.segs, 0, 10000000000⟩ : RunD)])), (row u186 42 2 R.length (pairs R)), (row u163 42 2 R.length (pairs (ratesF R (rs ++ [mo])))), (runsR true v156 lv157 (rs ++ [mo])), (row u148 42 2 R.length (pairs R)), (row u125 42 2 R.length (pairs (ratesF R rs))), (runsR true v118 lv119 rs), (row u110 42 2 R.length (pairs R)), (runsR false v77 (lv ++ [um]) (rs ++ [(⟨mo.segs, 0, 10000000000⟩ : RunD)])), (runsR false v27 (lv ++ [um]) (rs ++ [mo])), (row (vs14 4) 54 3 1 [um, (Value.int .i64 mo.lo), (Value.int .i64 mo.hi)]), (blk b9 54 [um, (Value.int .i64 mo.lo), (Value.int .i64 mo.hi)]), (blk b4 24 [vr]), (sl um 3 mo.segs.length (trips mo.segs)), (sl vr 2 R.length (pairs R)), (runsR false vu lv rs), (sl vp 3 plan.length (trips plan))] ∧ (k ≤ R.length)) (fun k => R.length - k) 0 ⟨hA448.as _ rfl, hS438, by omega⟩ ?_
   clear hA448 hS438 a446
   rintro k a449 w451 ⟨hA450, hS452, hk⟩
   refine c_seq ?_
   refine c_seq ?_
   refine c_region ?_
   refine st hA450 (op_move rfl (hA450.ev rfl)) rfl rfl (by decide) fun a453 hA454 => ?_; clear hA450 a449
   refine st hA454 (op_move rfl (hA454.ev rfl)) rfl rfl (by decide) fun a455 hA456 => ?_; clear hA454 a453
   refine st hA456 (op_lenS rfl un_28 (hA456.ev rfl) (SlAt.of_row (hS452.ok_row 11 rfl))) rfl rfl (by decide) fun a457 hA458 => ?_; clear hA456 a455
   refine st hA458 (op_lss rfl (hA458.ev rfl) (hA458.ev rfl)) rfl rfl (by decide) fun a459 hA460 => ?_; clear hA458 a457
   refine wl_nil ?_
   refine then_n ?_
   by_cases hb461 : (k : Int) < (R.length : Int)
   ·skip
    rw [decide_eq_true hb461] at hA460
    have hls := life_two (b := k) hR hal2 hsub hS_
    refine c_true hA460 rfl ?_
    refine c_skip ?_
    refine then_n ?_
    refine c_seq ?_
    refine c_block ?_
    refine c_seq ?_
    refine c_region ?_
    refine st hA460 (op_loadA rfl ty_24 (hA460.ev rfl) (hS452.bk 21 rfl) (l := [vr]) rfl rfl) rfl rfl (by decide) fun a462 hA463 => ?_; clear hA460 a459
    refine stw hA463 (op_call rfl en_19 (ev1 (hA463.ev rfl)) (Material_ok _ R _ (hS452.sk 23 rfl) hth.mat)) rfl rfl (by decide) ?_
    rintro a464 _ w466 ⟨u469, rfl, hT467⟩ hA465; have hS468 := hS452.callS hT467 rfl; clear hT467 hA463 hS452 a462
    refine st hA465 (op_move rfl (hA465.ev rfl)) rfl rfl (by decide) fun a470 hA471 => ?_; clear hA465 a464
    refine stw hA471 (op_call rfl en_20 (ev1 (hA471.ev rfl)) (Runs_ok _ rs _ _ (runs_at (hS468.ok 25 _ rfl)) h9 hth.segs)) rfl rfl (by decide) ?_
    rintro a472 v477 w474 ⟨lv478, hT475⟩ hA473; have hS476 := hS468.callS hT475 rfl; clear hT475 hA471 hS468 a470
    refine st hA473 (op_move rfl (hA473.ev rfl)) rfl rfl (by decide) fun a479 hA480 => ?_; clear hA473 a472
    refine st hA480 (op_move rfl (hA480.ev rfl)) rfl rfl (by decide) fun a481 hA482 => ?_; clear hA480 a479
    refine st hA482 (op_conv un_61 un_3 rfl (hA482.ev rfl) (v := s) (wrap_i64 (by omega) (by omega))) rfl rfl (by decide) fun a483 hA484 => ?_; clear hA482 a481
    refine stw hA484 (op_call rfl en_23 (ev4 (hA484.ev rfl) (hA484.ev rfl) (hA484.ev rfl) (hA484.ev rfl)) (life_fine R rs lv478 u469 v477 _ (SlAt.of_row (hS476.ok_row 1 rfl)) (runs_at (hS476.ok 0 _ rfl)) (by omega) (by omega) (k : Int) s (life_0 hc (by omega)))) rfl rfl (by decide) ?_
    rintro a485 _ w487 ⟨rfl, hE488⟩ hA486; have hS489 := hS476.step hE488; clear hE488 hA484 hS476 a483
    simp only [Int.toNat_natCast] at hA486
    refine st hA486 (op_move rfl (hA486.ev rfl)) rfl rfl (by decide) fun a490 hA491 => ?_; clear hA486 a485
    refine st hA491 (op_extract rfl (hA491.ev rfl) rfl) rfl rfl (by decide) fun a492 hA493 => ?_; clear hA491 a490
    refine st hA493 (op_extract rfl (hA493.ev rfl) rfl) rfl rfl (by decide) fun a494 hA495 => ?_; clear hA493 a492
    refine stw hA495 (op_alloc hS489 rfl ze_42 (cs := [(Value.int .i64 0), (Value.int .i64 0)]) rfl) rfl rfl (by decide) ?_
    rintro a496 _ w498 ⟨b499, rfl, hS500⟩ hA497; clear hA495 hS489 a494
    refine sts hA497 (op_store hS500 rfl ty_42 (hA497.ev rfl) (hA497.ev rfl) (i := 0) rfl (vs := [(Value.int .i64 ((lifeR (allowedF R rs) k s).1)), (Value.int .i64 ((lifeR (allowedF R rs) k s).2))]) rfl rfl rfl (Nat.le_of_ble_eq_true rfl)) rfl rfl ?_
    intro _ w501 hS502 hA503; clear hA497
    have hS504 : Sep NoB w w501 [(blk b499 42 [(Value.int .i64 ((lifeR (allowedF R rs) k s).1)), (Value.int .i64 ((lifeR (allowedF R rs) k s).2))]), (runsR true v477 lv478 rs), (row u469 42 2 R.length (pairs R)), (blk b407 42 [(Value.int .i64 (stLo plan (leastR R (rs ++ [mo]) plan))), (Value.int .i64 (stHi plan (mostR R (rs ++ [mo]) plan)))]), (row v392 67 3 plan.length (trips plan)), (runsR true v382 lv383 (rs ++ [mo])), (row u374 42 2 R.length (pairs R)), (blk b358 42 [(Value.int .i64 (stLo plan (leastR R rs plan))), (Value.int .i64 (stHi plan (mostR R rs plan)))]), (row v343 67 3 plan.length (trips plan)), (runsR true v333 lv334 rs), (row u325 42 2 R.length (pairs R)), (row u201 42 2 R.length (pairs (ratesF R (rs ++ [(⟨mo.segs, 0, 10000000000⟩ : RunD)])))), (runsR true v194 lv195 (rs ++ [(⟨mo.segs, 0, 10000000000⟩ : RunD)])), (row u186 42 2 R.length (pairs R)), (row u163 42 2 R.length (pairs (ratesF R (rs ++ [mo])))), (runsR true v156 lv157 (rs ++ [mo])), (row u148 42 2 R.length (pairs R)), (row u125 42 2 R.length (pairs (ratesF R rs))), (runsR true v118 lv119 rs), (row u110 42 2 R.length (pairs R)), (runsR false v77 (lv ++ [um]) (rs ++ [(⟨mo.segs, 0, 10000000000⟩ : RunD)])), (runsR false v27 (lv ++ [um]) (rs ++ [mo])), (row (vs14 4) 54 3 1 [um, (Value.int .i64 mo.lo), (Value.int .i64 mo.hi)]), (blk b9 54 [um, (Value.int .i64 mo.lo), (Value.int .i64 mo.hi)]), (blk b4 24 [vr]), (sl um 3 mo.segs.length (trips mo.segs)), (sl vr 2 R.length (pairs R)), (runsR false vu lv rs), (sl vp 3 plan.length (trips plan))] := hS502; clear hS502 hS500
    refine st hA503 (op_assign rfl (hA503.ev rfl)) rfl rfl (by decide) fun a505 hA506 => ?_; clear hA503 a496
    refine wl_nil ?_
    refine then_n ?_
    refine c_seq ?_
    have hA507 := hA506.as [(28, (Value.int .i64 0)), (27, (bptr b499 0)), (26, (Value.int .i64 (k : Int))), (16, u163), (13, u125), (11, v27), (5, (bptr b4 0)), (1, vu), (4, (Value.int .u32 s))] rfl; clear hA506
    refine c_region ?_
    refine st hA507 (op_loadA rfl ty_24 (hA507.ev rfl) (hS504.bk 24 rfl) (l := [vr]) rfl rfl) rfl rfl (by decide) fun a508 hA509 => ?_; clear hA507 a505
    refine stw hA509 (op_call rfl en_19 (ev1 (hA509.ev rfl)) (Material_ok _ R _ (hS504.sk 26 rfl) hth.mat)) rfl rfl (by decide) ?_
    rintro a510 _ w512 ⟨u515, rfl, hT513⟩ hA511; have hS514 := hS504.callS hT513 rfl; clear hT513 hA509 hS504 a508
    refine st hA511 (op_move rfl (hA511.ev rfl)) rfl rfl (by decide) fun a516 hA517 => ?_; clear hA511 a510
    refine stw hA517 (op_call rfl en_20 (ev1 (hA517.ev rfl)) (Runs_ok _ (rs ++ [mo]) _ _ (runs_at (hS514.ok 22 _ rfl)) h9x hth2.segs)) rfl rfl (by decide) ?_
    rintro a518 v523 w520 ⟨lv524, hT521⟩ hA519; have hS522 := hS514.callS hT521 rfl; clear hT521 hA517 hS514 a516
    refine st hA519 (op_move rfl (hA519.ev rfl)) rfl rfl (by decide) fun a525 hA526 => ?_; clear hA519 a518
    refine st hA526 (op_move rfl (hA526.ev rfl)) rfl rfl (by decide) fun a527 hA528 => ?_; clear hA526 a525
    refine st hA528 (op_conv un_61 un_3 rfl (hA528.ev rfl) (v := s) (wrap_i64 (by omega) (by omega))) rfl rfl (by decide) fun a529 hA530 => ?_; clear hA528 a527
    refine stw hA530 (op_call rfl en_23 (ev4 (hA530.ev rfl) (hA530.ev rfl) (hA530.ev rfl) (hA530.ev rfl)) (life_fine R (rs ++ [mo]) lv524 u515 v523 _ (SlAt.of_row (hS522.ok_row 1 rfl)) (runs_at (hS522.ok 0 _ rfl)) (by omega) (by omega) (k : Int) s (life_0 hc2 (by omega)))) rfl rfl (by decide) ?_
    rintro a531 _ w533 ⟨rfl, hE534⟩ hA532; have hS535 := hS522.step hE534; clear hE534 hA530 hS522 a529
    simp only [Int.toNat_natCast] at hA532
    refine st hA532 (op_move rfl (hA532.ev rfl)) rfl rfl (by decide) fun a536 hA537 => ?_; clear hA532 a531
    refine st hA537 (op_extract rfl (hA537.ev rfl) rfl) rfl rfl (by decide) fun a538 hA539 => ?_; clear hA537 a536
    refine st hA539 (op_extract rfl (hA539.ev rfl) rfl) rfl rfl (by decide) fun a540 hA541 => ?_; clear hA539 a538
    refine stw hA541 (op_alloc hS535 rfl ze_42 (cs := [(Value.int .i64 0), (Value.int .i64 0)]) rfl) rfl rfl (by decide) ?_
    rintro a542 _ w544 ⟨b545, rfl, hS546⟩ hA543; clear hA541 hS535 a540
    refine sts hA543 (op_store hS546 rfl ty_42 (hA543.ev rfl) (hA543.ev rfl) (i := 0) rfl (vs := [(Value.int .i64 ((lifeR (allowedF R (rs ++ [mo])) k s).1)), (Value.int .i64 ((lifeR (allowedF R (rs ++ [mo])) k s).2))]) rfl rfl rfl (Nat.le_of_ble_eq_true rfl)) rfl rfl ?_
    intro _ w547 hS548 hA549; clear hA543
    have hS550 : Sep NoB w w547 [(blk b545 42 [(Value.int .i64 ((lifeR (allowedF R (rs ++ [mo])) k s).1)), (Value.int .i64 ((lifeR (allowedF R (rs ++ [mo])) k s).2))]), (runsR true v523 lv524 (rs ++ [mo])), (row u515 42 2 R.length (pairs R)), (blk b499 42 [(Value.int .i64 ((lifeR (allowedF R rs) k s).1)), (Value.int .i64 ((lifeR (allowedF R rs) k s).2))]), (runsR true v477 lv478 rs), (row u469 42 2 R.length (pairs R)), (blk b407 42 [(Value.int .i64 (stLo plan (leastR R (rs ++ [mo]) plan))), (Value.int .i64 (stHi plan (mostR R (rs ++ [mo]) plan)))]), (row v392 67 3 plan.length (trips plan)), (runsR true v382 lv383 (rs ++ [mo])), (row u374 42 2 R.length (pairs R)), (blk b358 42 [(Value.int .i64 (stLo plan (leastR R rs plan))), (Value.int .i64 (stHi plan (mostR R rs plan)))]), (row v343 67 3 plan.length (trips plan)), (runsR true v333 lv334 rs), (row u325 42 2 R.length (pairs R)), (row u201 42 2 R.length (pairs (ratesF R (rs ++ [(⟨mo.segs, 0, 10000000000⟩ : RunD)])))), (runsR true v194 lv195 (rs ++ [(⟨mo.segs, 0, 10000000000⟩ : RunD)])), (row u186 42 2 R.length (pairs R)), (row u163 42 2 R.length (pairs (ratesF R (rs ++ [mo])))), (runsR true v156 lv157 (rs ++ [mo])), (row u148 42 2 R.length (pairs R)), (row u125 42 2 R.length (pairs (ratesF R rs))), (runsR true v118 lv119 rs), (row u110 42 2 R.length (pairs R)), (runsR false v77 (lv ++ [um]) (rs ++ [(⟨mo.segs, 0, 10000000000⟩ : RunD)])), (runsR false v27 (lv ++ [um]) (rs ++ [mo])), (row (vs14 4) 54 3 1 [um, (Value.int .i64 mo.lo), (Value.int .i64 mo.hi)]), (blk b9 54 [um, (Value.int .i64 mo.lo), (Value.int .i64 mo.hi)]), (blk b4 24 [vr]), (sl um 3 mo.segs.length (trips mo.segs)), (sl vr 2 R.length (pairs R)), (runsR false vu lv rs), (sl vp 3 plan.length (trips plan))] := hS548; clear hS548 hS546
    refine st hA549 (op_assign rfl (hA549.ev rfl)) rfl rfl (by decide) fun a551 hA552 => ?_; clear hA549 a542
    refine wl_nil ?_
    refine then_n ?_
    refine c_seq ?_
    have hA553 := hA552.as [(30, (Value.int .i64 0)), (29, (bptr b545 0)), (28, (Value.int .i64 0)), (27, (bptr b499 0)), (26, (Value.int .i64 (k : Int))), (16, u163), (13, u125), (11, v27), (5, (bptr b4 0)), (1, vu), (4, (Value.int .u32 s))] rfl; clear hA552
    have hA554 := hA553.as [(30, (Value.int .i64 0)), (29, (bptr b545 0)), (28, (Value.int .i64 0)), (27, (bptr b499 0)), (26, (Value.int .i64 (k : Int))), (16, u163), (13, u125), (11, v27), (5, (bptr b4 0)), (1, vu), (4, (Value.int .u32 s))] rfl; clear hA553
    by_cases hb556 : ((lifeR (allowedF R rs) k s).2) = (-1)
    ·skip
     have hA557 := hA554.as [(30, (Value.int .i64 0)), (29, (bptr b545 0)), (28, (Value.int .i64 0)), (27, (bptr b499 0)), (26, (Value.int .i64 (k : Int))), (16, u163), (13, u125), (11, v27), (5, (bptr b4 0)), (1, vu), (4, (Value.int .u32 s))] rfl; clear hA554
     by_cases hb559 : ((lifeR (allowedF R (rs ++ [mo])) k s).1) = (-1)
     ·skip
      have hA560 := hA557.as [(30, (Value.int .i64 0)), (29, (bptr b545 0)), (28, (Value.int .i64 0)), (27, (bptr b499 0)), (26, (Value.int .i64 (k : Int))), (16, u163), (13, u125), (11, v27), (5, (bptr b4 0)), (1, vu), (4, (Value.int .u32 s))] rfl; clear hA557
      refine c_drawn mixed hA560 hS550 48 [[], [], [0, 1], [2], [], [], [4, 5], [6], [3, 7], [8], [9], [10], [10, 11], [10, 12], [13], [14], [14, 15], [14, 16], [17], [18], [18, 19], [18, 20], [18, 21], [22], [22, 23], [22, 24], [22, 25], [26], [26, 27], [26], [26, 29], [26, 28, 30], [22, 26, 31], [18, 22, 32], [18, 33], [34], [35], [35, 36], [35, 37], [35, 38], [39], [39, 40], [39, 41], [39, 42], [43], [43, 44], [43], [43, 46]] [(Yd.val u163), (Yd.val (Value.int .i64 (k : Int))), (Yd.val (eptr u163 (k * 2))), (Yd.val (Value.agg #[(Value.int .i64 (((ratesF R (rs ++ [mo])).getD k (0, 0)).1)), (Value.int .i64 (((ratesF R (rs ++ [mo])).getD k (0, 0)).2))])), (Yd.val u125), (Yd.val (Value.int .i64 (k : Int))), (Yd.val (eptr u125 (k * 2))), (Yd.val (Value.agg #[(Value.int .i64 (((ratesF R rs).getD k (0, 0)).1)), (Value.int .i64 (((ratesF R rs).getD k (0, 0)).2))])), (Yd.val (Value.bool true)), (Yd.val (Value.bool (!true))), (Yd.val (Value.bool (!true))), (Yd.val (Value.int .i64 0)), (Yd.val (Value.bool false)), (Yd.val (Value.bool false)), (Yd.val (Value.bool false)), (Yd.val (Value.int .i64 0)), (Yd.val (Value.bool false)), (Yd.val (Value.bool false)), (Yd.val (Value.bool false)), (Yd.val (bptr b499 1)), (Yd.val (Value.int .i64 ((lifeR (allowedF R rs) k s).2))), (Yd.val (Value.bool (!true))), (Yd.val (Value.bool (!true))), (Yd.val undef), (Yd.val undef), (Yd.val undef), (Yd.val undef), (Yd.val undef), (Yd.val undef), (Yd.val undef), (Yd.val undef), (Yd.val undef), (Yd.val undef), (Yd.val (Value.bool false)), (Yd.val (Value.bool false)), (Yd.val (Value.bool false)), (Yd.val (bptr b545 0)), (Yd.val (Value.int .i64 ((lifeR (allowedF R (rs ++ [mo])) k s).1))), (Yd.val (Value.bool (!true))), (Yd.val (Value.bool (!true))), (Yd.val undef), (Yd.val undef), (Yd.val undef), (Yd.val undef), (Yd.val undef), (Yd.val undef), (Yd.val undef), (Yd.val undef)] (by decide +kernel) rfl rfl ?_ ?_
      ·skip
       refine ⟨fun a w hA hS hd => by exact opG_of rfl (dv (op_move rfl (hA.ev rfl)) hS rfl), ?_⟩
       refine ⟨fun a w hA hS hd => by exact opG_of rfl (dv (op_move rfl (hA.ev rfl)) hS rfl), ?_⟩
       refine ⟨fun a w hA hS hd => by have e0 := has_ev (hd 0 (by decide)) rfl (fun _ h => h); have e1 := has_ev (hd 1 (by decide)) rfl (fun _ h => h); exact opG_of rfl (dv (op_indexS rfl un_28 ty_42 (tmp_ev e0) (i := k) (tmp_ev e1) (SlAt.of_row (hS.ok_row 17 rfl)) (by decide) (by omega)) hS rfl), ?_⟩
       refine ⟨fun a w hA hS hd => by have e2 := has_ev (hd 2 (by decide)) rfl (fun _ h => h); exact opG_of rfl (dv (op_loadAE rfl ty_42 (tmp_ev e2) (SlAt.of_row (hS.ok_row 17 rfl)) (pairs_all (by omega)) rfl (by decide)) hS rfl), ?_⟩
       refine ⟨fun a w hA hS hd => by exact opG_of rfl (dv (op_move rfl (hA.ev rfl)) hS rfl), ?_⟩
       refine ⟨fun a w hA hS hd => by exact opG_of rfl (dv (op_move rfl (hA.ev rfl)) hS rfl), ?_⟩
       refine ⟨fun a w hA hS hd => by have e4 := has_ev (hd 4 (by decide)) rfl (fun _ h => h); have e5 := has_ev (hd 5 (by decide)) rfl (fun _ h => h); exact opG_of rfl (dv (op_indexS rfl un_28 ty_42 (tmp_ev e4) (i := k) (tmp_ev e5) (SlAt.of_row (hS.ok_row 20 rfl)) (by decide) (by omega)) hS rfl), ?_⟩
       refine ⟨fun a w hA hS hd => by have e6 := has_ev (hd 6 (by decide)) rfl (fun _ h => h); exact opG_of rfl (dv (op_loadAE rfl ty_42 (tmp_ev e6) (SlAt.of_row (hS.ok_row 20 rfl)) (pairs_all (by omega)) rfl (by decide)) hS rfl), ?_⟩
       refine ⟨fun a w hA hS hd => by have e3 := has_ev (hd 3 (by decide)) rfl (fun _ h => h); have e7 := has_ev (hd 7 (by decide)) rfl (fun _ h => h); exact opG_of rfl (dx (op_call rfl en_30 (ev2 (tmp_ev e3) (tmp_ev e7)) (inside_ok _ _ _ _ _)) hS (fun _ => (by show Value.bool _ = _; simp only [(show (decide ((((ratesF R rs).getD k (0, 0)).1) ≤ (((ratesF R (rs ++ [mo])).getD k (0, 0)).1)) && decide ((((ratesF R (rs ++ [mo])).getD k (0, 0)).2) ≤ (((ratesF R rs).getD k (0, 0)).2))) = true from (by have hz_ := rates_sub (b := k) hal2 hsub (by omega); simp only [Bool.and_eq_true, decide_eq_true_eq]; exact hz_)), decide_true, decide_false, Bool.not_true, Bool.not_false]))), ?_⟩
       refine ⟨fun a w hA hS hd => by have e8 := has_ev (hd 8 (by decide)) rfl (fun _ h => h); exact opG_of rfl (dv (op_not rfl (tmp_ev e8)) hS rfl), ?_⟩
       refine ⟨fun a w hA hS hd => by have e9 := has_ev (hd 9 (by decide)) rfl (fun _ h => h); exact opG_of rfl (dv (op_move rfl (tmp_ev e9)) hS rfl), ?_⟩
       refine ⟨fun a w hA hS hd => by have e10 := has_ev (hd 10 (by decide)) rfl (fun _ h => h); exact opG_yes rfl rfl e10 (dv (op_move rfl (hA.ev rfl)) hS rfl), ?_⟩
       refine ⟨fun a w hA hS hd => by have e10 := has_ev (hd 10 (by decide)) rfl (fun _ h => h); have e11 := has_ev (hd 11 (by decide)) rfl (fun _ h => h); exact opG_yes rfl rfl e10 (dv (op_neq rfl (tmp_ev e11) (evc _ _)) hS rfl), ?_⟩
       refine ⟨fun a w hA hS hd => by have e10 := has_ev (hd 10 (by decide)) rfl (fun _ h => h); have e12 := has_ev (hd 12 (by decide)) rfl (fun _ h => h); exact opG_of rfl (dv (op_pick_f rfl (tmp_ev e10) (tmp_ev e12)) hS rfl), ?_⟩
       refine ⟨fun a w hA hS hd => by have e13 := has_ev (hd 13 (by decide)) rfl (fun _ h => h); exact opG_of rfl (dv (op_move rfl (tmp_ev e13)) hS rfl), ?_⟩
       refine ⟨fun a w hA hS hd => by have e14 := has_ev (hd 14 (by decide)) rfl (fun _ h => h); exact opG_yes rfl rfl e14 (dv (op_move rfl (hA.ev rfl)) hS rfl), ?_⟩
       refine ⟨fun a w hA hS hd => by have e14 := has_ev (hd 14 (by decide)) rfl (fun _ h => h); have e15 := has_ev (hd 15 (by decide)) rfl (fun _ h => h); exact opG_yes rfl rfl e14 (dv (op_neq rfl (tmp_ev e15) (evc _ _)) hS rfl), ?_⟩
       refine ⟨fun a w hA hS hd => by have e14 := has_ev (hd 14 (by decide)) rfl (fun _ h => h); have e16 := has_ev (hd 16 (by decide)) rfl (fun _ h => h); exact opG_of rfl (dv (op_pick_f rfl (tmp_ev e14) (tmp_ev e16)) hS rfl), ?_⟩
       refine ⟨fun a w hA hS hd => by have e17 := has_ev (hd 17 (by decide)) rfl (fun _ h => h); exact opG_of rfl (dv (op_move rfl (tmp_ev e17)) hS rfl), ?_⟩
       refine ⟨fun a w hA hS hd => by have e18 := has_ev (hd 18 (by decide)) rfl (fun _ h => h); exact opG_yes rfl rfl e18 (dv (op_field rfl fd_42_1 (hA.ev rfl)) hS rfl), ?_⟩
       refine ⟨fun a w hA hS hd => by have e18 := has_ev (hd 18 (by decide)) rfl (fun _ h => h); have e19 := has_ev (hd 19 (by decide)) rfl (fun _ h => h); exact opG_yes rfl rfl e18 (dv (op_load1 rfl ty_3 (tmp_ev e19) (hS.bk 3 rfl) rfl) hS rfl), ?_⟩
       refine ⟨fun a w hA hS hd => by have e18 := has_ev (hd 18 (by decide)) rfl (fun _ h => h); have e20 := has_ev (hd 20 (by decide)) rfl (fun _ h => h); exact opG_yes rfl rfl e18 (dv (op_neq rfl (tmp_ev e20) (evc _ _)) hS (by show Value.bool _ = _; simp only [decide_eq_true hb556, decide_true, decide_false, Bool.not_true, Bool.not_false])), ?_⟩
       refine ⟨fun a w hA hS hd => by have e18 := has_ev (hd 18 (by decide)) rfl (fun _ h => h); have e21 := has_ev (hd 21 (by decide)) rfl (fun _ h => h); exact opG_yes rfl rfl e18 (dv (op_move rfl (tmp_ev e21)) hS rfl), ?_⟩
       refine ⟨fun a w hA hS hd => by have e22 := has_ev (hd 22 (by decide)) rfl (fun _ h => h); exact opG_no rfl rfl e22 rfl (dskip hS rfl), ?_⟩
       refine ⟨fun a w hA hS hd => by have e22 := has_ev (hd 22 (by decide)) rfl (fun _ h => h); have e23 := has_ev (hd 23 (by decide)) rfl (fun _ h => h); exact opG_no rfl rfl e22 rfl (dskip hS rfl), ?_⟩
       refine ⟨fun a w hA hS hd => by have e22 := has_ev (hd 22 (by decide)) rfl (fun _ h => h); have e24 := has_ev (hd 24 (by decide)) rfl (fun _ h => h); exact opG_no rfl rfl e22 rfl (dskip hS rfl), ?_⟩
       refine ⟨fun a w hA hS hd => by have e22 := has_ev (hd 22 (by decide)) rfl (fun _ h => h); have e25 := has_ev (hd 25 (by decide)) rfl (fun _ h => h); exact opG_no rfl rfl e22 rfl (dskip hS rfl), ?_⟩
       refine ⟨fun a w hA hS hd => by have e26 := has_ev (hd 26 (by decide)) rfl (fun _ h => h); exact opG_noU rfl rfl e26 (dskip hS rfl), ?_⟩
       refine ⟨fun a w hA hS hd => by have e26 := has_ev (hd 26 (by decide)) rfl (fun _ h => h); have e27 := has_ev (hd 27 (by decide)) rfl (fun _ h => h); exact opG_noU rfl rfl e26 (dskip hS rfl), ?_⟩
       refine ⟨fun a w hA hS hd => by have e26 := has_ev (hd 26 (by decide)) rfl (fun _ h => h); exact opG_noU rfl rfl e26 (dskip hS rfl), ?_⟩
       refine ⟨fun a w hA hS hd => by have e26 := has_ev (hd 26 (by decide)) rfl (fun _ h => h); have e29 := has_ev (hd 29 (by decide)) rfl (fun _ h => h); exact opG_noU rfl rfl e26 (dskip hS rfl), ?_⟩
       refine ⟨fun a w hA hS hd => by have e26 := has_ev (hd 26 (by decide)) rfl (fun _ h => h); have e28 := has_ev (hd 28 (by decide)) rfl (fun _ h => h); have e30 := has_ev (hd 30 (by decide)) rfl (fun _ h => h); exact opG_noU rfl rfl e26 (dskip hS rfl), ?_⟩
       refine ⟨fun a w hA hS hd => by have e22 := has_ev (hd 22 (by decide)) rfl (fun _ h => h); have e26 := has_ev (hd 26 (by decide)) rfl (fun _ h => h); have e31 := has_ev (hd 31 (by decide)) rfl (fun _ h => h); exact opG_no rfl rfl e22 rfl (dskip hS rfl), ?_⟩
       refine ⟨fun a w hA hS hd => by have e18 := has_ev (hd 18 (by decide)) rfl (fun _ h => h); have e22 := has_ev (hd 22 (by decide)) rfl (fun _ h => h); have e32 := has_ev (hd 32 (by decide)) rfl (fun _ h => h); exact opG_yes rfl rfl e18 (dv (op_pick_f rfl (tmp_ev e22) (evc _ _)) hS rfl), ?_⟩
       refine ⟨fun a w hA hS hd => by have e18 := has_ev (hd 18 (by decide)) rfl (fun _ h => h); have e33 := has_ev (hd 33 (by decide)) rfl (fun _ h => h); exact opG_of rfl (dv (op_pick_f rfl (tmp_ev e18) (tmp_ev e33)) hS rfl), ?_⟩
       refine ⟨fun a w hA hS hd => by have e34 := has_ev (hd 34 (by decide)) rfl (fun _ h => h); exact opG_of rfl (dv (op_move rfl (tmp_ev e34)) hS rfl), ?_⟩
       refine ⟨fun a w hA hS hd => by have e35 := has_ev (hd 35 (by decide)) rfl (fun _ h => h); exact opG_yes rfl rfl e35 (dv (op_field rfl fd_42_0 (hA.ev rfl)) hS rfl), ?_⟩
       refine ⟨fun a w hA hS hd => by have e35 := has_ev (hd 35 (by decide)) rfl (fun _ h => h); have e36 := has_ev (hd 36 (by decide)) rfl (fun _ h => h); exact opG_yes rfl rfl e35 (dv (op_load1 rfl ty_3 (tmp_ev e36) (hS.bk 0 rfl) rfl) hS rfl), ?_⟩
       refine ⟨fun a w hA hS hd => by have e35 := has_ev (hd 35 (by decide)) rfl (fun _ h => h); have e37 := has_ev (hd 37 (by decide)) rfl (fun _ h => h); exact opG_yes rfl rfl e35 (dv (op_neq rfl (tmp_ev e37) (evc _ _)) hS (by show Value.bool _ = _; simp only [decide_eq_true hb559, decide_true, decide_false, Bool.not_true, Bool.not_false])), ?_⟩
       refine ⟨fun a w hA hS hd => by have e35 := has_ev (hd 35 (by decide)) rfl (fun _ h => h); have e38 := has_ev (hd 38 (by decide)) rfl (fun _ h => h); exact opG_yes rfl rfl e35 (dv (op_move rfl (tmp_ev e38)) hS rfl), ?_⟩
       refine ⟨fun a w hA hS hd => by have e39 := has_ev (hd 39 (by decide)) rfl (fun _ h => h); exact opG_no rfl rfl e39 rfl (dskip hS rfl), ?_⟩
       refine ⟨fun a w hA hS hd => by have e39 := has_ev (hd 39 (by decide)) rfl (fun _ h => h); have e40 := has_ev (hd 40 (by decide)) rfl (fun _ h => h); exact opG_no rfl rfl e39 rfl (dskip hS rfl), ?_⟩
       refine ⟨fun a w hA hS hd => by have e39 := has_ev (hd 39 (by decide)) rfl (fun _ h => h); have e41 := has_ev (hd 41 (by decide)) rfl (fun _ h => h); exact opG_no rfl rfl e39 rfl (dskip hS rfl), ?_⟩
       refine ⟨fun a w hA hS hd => by have e39 := has_ev (hd 39 (by decide)) rfl (fun _ h => h); have e42 := has_ev (hd 42 (by decide)) rfl (fun _ h => h); exact opG_no rfl rfl e39 rfl (dskip hS rfl), ?_⟩
       refine ⟨fun a w hA hS hd => by have e43 := has_ev (hd 43 (by decide)) rfl (fun _ h => h); exact opG_noU rfl rfl e43 (dskip hS rfl), ?_⟩
       refine ⟨fun a w hA hS hd => by have e43 := has_ev (hd 43 (by decide)) rfl (fun _ h => h); have e44 := has_ev (hd 44 (by decide)) rfl (fun _ h => h); exact opG_noU rfl rfl e43 (dskip hS rfl), ?_⟩
       refine ⟨fun a w hA hS hd => by have e43 := has_ev (hd 43 (by decide)) rfl (fun _ h => h); exact opG_noU rfl rfl e43 (dskip hS rfl), ?_⟩
       refine ⟨fun a w hA hS hd => by have e43 := has_ev (hd 43 (by decide)) rfl (fun _ h => h); have e46 := has_ev (hd 46 (by decide)) rfl (fun _ h => h); exact opG_noU rfl rfl e43 (dskip hS rfl), ?_⟩
       trivial
      intro a562 w563 hA564 hS565 hH566; clear hA560 hS550
      have hA567 := hA564.add (has_ev (hH566 35 (by decide)) rfl (fun _ h => h)); clear hA564
      have hA568 := hA567.add (has_ev (hH566 39 (by decide)) rfl (fun _ h => h)); clear hA567
      have hA569 := hA568.add (has_ev (hH566 43 (by decide)) rfl (fun _ h => h)); clear hA568
      have hA570 := hA569.add (has_ev (hH566 45 (by decide)) rfl (fun _ h => h)); clear hA569
      have hA571 := hA570.add (has_ev (hH566 47 (by decide)) rfl (fun _ h => h)); clear hA570
      clear hH566
      refine skpU hA571 rfl rfl rfl rfl (by decide) fun a572 hA573 => ?_; clear hA571 a562
      refine skp hA573 rfl rfl rfl rfl rfl (by decide) fun a574 hA575 => ?_; clear hA573 a572
      refine stg hA575 (op_pick_f rfl (hA575.ev rfl) (evc _ _)) rfl rfl rfl rfl (by decide) fun a576 hA577 => ?_; clear hA575 a574
      refine st hA577 (op_pick_f rfl (hA577.ev rfl) (hA577.ev rfl)) rfl rfl (by decide) fun a578 hA579 => ?_; clear hA577 a576
      refine wl_nil ?_
      refine then_n ?_
      refine c_false hA579 rfl ?_
      refine c_skip ?_
      refine blk_n ?_
      refine then_n ?_
      have hA580 := hA579.as [(26, (Value.int .i64 (k : Int))), (16, u163), (13, u125), (11, v27), (5, (bptr b4 0)), (1, vu), (4, (Value.int .u32 s))] rfl; clear hA579
      refine c_region ?_
      refine st hA580 (op_move rfl (hA580.ev rfl)) rfl rfl (by decide) fun a581 hA582 => ?_; clear hA580 a578
      refine st hA582 (op_add rfl (hA582.ev rfl) (evc _ _) (by omega) (by omega)) rfl rfl (by decide) fun a583 hA584 => ?_; clear hA582 a581
      refine st hA584 (op_assign rfl (hA584.ev rfl)) rfl rfl (by decide) fun a585 hA586 => ?_; clear hA584 a583
      refine wl_nil ?_
      have hS587 : Sep NoB w w563 [(blk b407 42 [(Value.int .i64 (stLo plan (leastR R (rs ++ [mo]) plan))), (Value.int .i64 (stHi plan (mostR R (rs ++ [mo]) plan)))]), (row v392 67 3 plan.length (trips plan)), (runsR true v382 lv383 (rs ++ [mo])), (row u374 42 2 R.length (pairs R)), (blk b358 42 [(Value.int .i64 (stLo plan (leastR R rs plan))), (Value.int .i64 (stHi plan (mostR R rs plan)))]), (row v343 67 3 plan.length (trips plan)), (runsR true v333 lv334 rs), (row u325 42 2 R.length (pairs R)), (row u201 42 2 R.length (pairs (ratesF R (rs ++ [(⟨mo.segs, 0, 10000000000⟩ : RunD)])))), (runsR true v194 lv195 (rs ++ [(⟨mo.segs, 0, 10000000000⟩ : RunD)])), (row u186 42 2 R.length (pairs R)), (row u163 42 2 R.length (pairs (ratesF R (rs ++ [mo])))), (runsR true v156 lv157 (rs ++ [mo])), (row u148 42 2 R.length (pairs R)), (row u125 42 2 R.length (pairs (ratesF R rs))), (runsR true v118 lv119 rs), (row u110 42 2 R.length (pairs R)), (runsR false v77 (lv ++ [um]) (rs ++ [(⟨mo.segs, 0, 10000000000⟩ : RunD)])), (runsR false v27 (lv ++ [um]) (rs ++ [mo])), (row (vs14 4) 54 3 1 [um, (Value.int .i64 mo.lo), (Value.int .i64 mo.hi)]), (blk b9 54 [um, (Value.int .i64 mo.lo), (Value.int .i64 mo.hi)]), (blk b4 24 [vr]), (sl um 3 mo.segs.length (trips mo.segs)), (sl vr 2 R.length (pairs R)), (runsR false vu lv rs), (sl vp 3 plan.length (trips plan))] := hS565.keep [6, 7, 8, 9, 10, 11, 12, 13, 14, 15, 16, 17, 18, 19, 20, 21, 22, 23, 24, 25, 26, 27, 28, 29, 30, 31] (by decide) _ rfl rfl; clear hS565
      exact then_n ⟨k + 1, ⟨hA586.as _ rfl, hS587, by omega⟩, by omega⟩
     ·skip
      have hA588 := hA557.as [(30, (Value.int .i64 0)), (29, (bptr b545 0)), (28, (Value.int .i64 0)), (27, (bptr b499 0)), (26, (Value.int .i64 (k : Int))), (16, u163), (13, u125), (11, v27), (5, (bptr b4 0)), (1, vu), (4, (Value.int .u32 s))] rfl; clear hA557
      refine c_drawn mixed hA588 hS550 48 [[], [], [0, 1], [2], [], [], [4, 5], [6], [3, 7], [8], [9], [10], [10, 11], [10, 12], [13], [14], [14, 15], [14, 16], [17], [18], [18, 19], [18, 20], [18, 21], [22], [22, 23], [22, 24], [22, 25], [26], [26, 27], [26], [26, 29], [26, 28, 30], [22, 26, 31], [18, 22, 32], [18, 33], [34], [35], [35, 36], [35, 37], [35, 38], [39], [39, 40], [39, 41], [39, 42], [43], [43, 44], [43], [43, 46]] [(Yd.val u163), (Yd.val (Value.int .i64 (k : Int))), (Yd.val (eptr u163 (k * 2))), (Yd.val (Value.agg #[(Value.int .i64 (((ratesF R (rs ++ [mo])).getD k (0, 0)).1)), (Value.int .i64 (((ratesF R (rs ++ [mo])).getD k (0, 0)).2))])), (Yd.val u125), (Yd.val (Value.int .i64 (k : Int))), (Yd.val (eptr u125 (k * 2))), (Yd.val (Value.agg #[(Value.int .i64 (((ratesF R rs).getD k (0, 0)).1)), (Value.int .i64 (((ratesF R rs).getD k (0, 0)).2))])), (Yd.val (Value.bool true)), (Yd.val (Value.bool (!true))), (Yd.val (Value.bool (!true))), (Yd.val (Value.int .i64 0)), (Yd.val (Value.bool false)), (Yd.val (Value.bool false)), (Yd.val (Value.bool false)), (Yd.val (Value.int .i64 0)), (Yd.val (Value.bool false)), (Yd.val (Value.bool false)), (Yd.val (Value.bool false)), (Yd.val (bptr b499 1)), (Yd.val (Value.int .i64 ((lifeR (allowedF R rs) k s).2))), (Yd.val (Value.bool (!true))), (Yd.val (Value.bool (!true))), (Yd.val undef), (Yd.val undef), (Yd.val undef), (Yd.val undef), (Yd.val undef), (Yd.val undef), (Yd.val undef), (Yd.val undef), (Yd.val undef), (Yd.val undef), (Yd.val (Value.bool false)), (Yd.val (Value.bool false)), (Yd.val (Value.bool false)), (Yd.val (bptr b545 0)), (Yd.val (Value.int .i64 ((lifeR (allowedF R (rs ++ [mo])) k s).1))), (Yd.val (Value.bool (!false))), (Yd.val (Value.bool (!false))), (Yd.val (bptr b499 0)), (Yd.val (Value.int .i64 ((lifeR (allowedF R rs) k s).1))), (Yd.val (Value.bool false)), (Yd.val (Value.bool false)), (Yd.val (bptr b545 0)), (Yd.val (Value.int .i64 ((lifeR (allowedF R (rs ++ [mo])) k s).1))), (Yd.val (bptr b499 0)), (Yd.val (Value.int .i64 ((lifeR (allowedF R rs) k s).1)))] (by decide +kernel) rfl rfl ?_ ?_
      ·skip
       refine ⟨fun a w hA hS hd => by exact opG_of rfl (dv (op_move rfl (hA.ev rfl)) hS rfl), ?_⟩
       refine ⟨fun a w hA hS hd => by exact opG_of rfl (dv (op_move rfl (hA.ev rfl)) hS rfl), ?_⟩
       refine ⟨fun a w hA hS hd => by have e0 := has_ev (hd 0 (by decide)) rfl (fun _ h => h); have e1 := has_ev (hd 1 (by decide)) rfl (fun _ h => h); exact opG_of rfl (dv (op_indexS rfl un_28 ty_42 (tmp_ev e0) (i := k) (tmp_ev e1) (SlAt.of_row (hS.ok_row 17 rfl)) (by decide) (by omega)) hS rfl), ?_⟩
       refine ⟨fun a w hA hS hd => by have e2 := has_ev (hd 2 (by decide)) rfl (fun _ h => h); exact opG_of rfl (dv (op_loadAE rfl ty_42 (tmp_ev e2) (SlAt.of_row (hS.ok_row 17 rfl)) (pairs_all (by omega)) rfl (by decide)) hS rfl), ?_⟩
       refine ⟨fun a w hA hS hd => by exact opG_of rfl (dv (op_move rfl (hA.ev rfl)) hS rfl), ?_⟩
       refine ⟨fun a w hA hS hd => by exact opG_of rfl (dv (op_move rfl (hA.ev rfl)) hS rfl), ?_⟩
       refine ⟨fun a w hA hS hd => by have e4 := has_ev (hd 4 (by decide)) rfl (fun _ h => h); have e5 := has_ev (hd 5 (by decide)) rfl (fun _ h => h); exact opG_of rfl (dv (op_indexS rfl un_28 ty_42 (tmp_ev e4) (i := k) (tmp_ev e5) (SlAt.of_row (hS.ok_row 20 rfl)) (by decide) (by omega)) hS rfl), ?_⟩
       refine ⟨fun a w hA hS hd => by have e6 := has_ev (hd 6 (by decide)) rfl (fun _ h => h); exact opG_of rfl (dv (op_loadAE rfl ty_42 (tmp_ev e6) (SlAt.of_row (hS.ok_row 20 rfl)) (pairs_all (by omega)) rfl (by decide)) hS rfl), ?_⟩
       refine ⟨fun a w hA hS hd => by have e3 := has_ev (hd 3 (by decide)) rfl (fun _ h => h); have e7 := has_ev (hd 7 (by decide)) rfl (fun _ h => h); exact opG_of rfl (dx (op_call rfl en_30 (ev2 (tmp_ev e3) (tmp_ev e7)) (inside_ok _ _ _ _ _)) hS (fun _ => (by show Value.bool _ = _; simp only [(show (decide ((((ratesF R rs).getD k (0, 0)).1) ≤ (((ratesF R (rs ++ [mo])).getD k (0, 0)).1)) && decide ((((ratesF R (rs ++ [mo])).getD k (0, 0)).2) ≤ (((ratesF R rs).getD k (0, 0)).2))) = true from (by have hz_ := rates_sub (b := k) hal2 hsub (by omega); simp only [Bool.and_eq_true, decide_eq_true_eq]; exact hz_)), decide_true, decide_false, Bool.not_true, Bool.not_false]))), ?_⟩
       refine ⟨fun a w hA hS hd => by have e8 := has_ev (hd 8 (by decide)) rfl (fun _ h => h); exact opG_of rfl (dv (op_not rfl (tmp_ev e8)) hS rfl), ?_⟩
       refine ⟨fun a w hA hS hd => by have e9 := has_ev (hd 9 (by decide)) rfl (fun _ h => h); exact opG_of rfl (dv (op_move rfl (tmp_ev e9)) hS rfl), ?_⟩
       refine ⟨fun a w hA hS hd => by have e10 := has_ev (hd 10 (by decide)) rfl (fun _ h => h); exact opG_yes rfl rfl e10 (dv (op_move rfl (hA.ev rfl)) hS rfl), ?_⟩
       refine ⟨fun a w hA hS hd => by have e10 := has_ev (hd 10 (by decide)) rfl (fun _ h => h); have e11 := has_ev (hd 11 (by decide)) rfl (fun _ h => h); exact opG_yes rfl rfl e10 (dv (op_neq rfl (tmp_ev e11) (evc _ _)) hS rfl), ?_⟩
       refine ⟨fun a w hA hS hd => by have e10 := has_ev (hd 10 (by decide)) rfl (fun _ h => h); have e12 := has_ev (hd 12 (by decide)) rfl (fun _ h => h); exact opG_of rfl (dv (op_pick_f rfl (tmp_ev e10) (tmp_ev e12)) hS rfl), ?_⟩
       refine ⟨fun a w hA hS hd => by have e13 := has_ev (hd 13 (by decide)) rfl (fun _ h => h); exact opG_of rfl (dv (op_move rfl (tmp_ev e13)) hS rfl), ?_⟩
       refine ⟨fun a w hA hS hd => by have e14 := has_ev (hd 14 (by decide)) rfl (fun _ h => h); exact opG_yes rfl rfl e14 (dv (op_move rfl (hA.ev rfl)) hS rfl), ?_⟩
       refine ⟨fun a w hA hS hd => by have e14 := has_ev (hd 14 (by decide)) rfl (fun _ h => h); have e15 := has_ev (hd 15 (by decide)) rfl (fun _ h => h); exact opG_yes rfl rfl e14 (dv (op_neq rfl (tmp_ev e15) (evc _ _)) hS rfl), ?_⟩
       refine ⟨fun a w hA hS hd => by have e14 := has_ev (hd 14 (by decide)) rfl (fun _ h => h); have e16 := has_ev (hd 16 (by decide)) rfl (fun _ h => h); exact opG_of rfl (dv (op_pick_f rfl (tmp_ev e14) (tmp_ev e16)) hS rfl), ?_⟩
       refine ⟨fun a w hA hS hd => by have e17 := has_ev (hd 17 (by decide)) rfl (fun _ h => h); exact opG_of rfl (dv (op_move rfl (tmp_ev e17)) hS rfl), ?_⟩
       refine ⟨fun a w hA hS hd => by have e18 := has_ev (hd 18 (by decide)) rfl (fun _ h => h); exact opG_yes rfl rfl e18 (dv (op_field rfl fd_42_1 (hA.ev rfl)) hS rfl), ?_⟩
       refine ⟨fun a w hA hS hd => by have e18 := has_ev (hd 18 (by decide)) rfl (fun _ h => h); have e19 := has_ev (hd 19 (by decide)) rfl (fun _ h => h); exact opG_yes rfl rfl e18 (dv (op_load1 rfl ty_3 (tmp_ev e19) (hS.bk 3 rfl) rfl) hS rfl), ?_⟩
       refine ⟨fun a w hA hS hd => by have e18 := has_ev (hd 18 (by decide)) rfl (fun _ h => h); have e20 := has_ev (hd 20 (by decide)) rfl (fun _ h => h); exact opG_yes rfl rfl e18 (dv (op_neq rfl (tmp_ev e20) (evc _ _)) hS (by show Value.bool _ = _; simp only [decide_eq_true hb556, decide_true, decide_false, Bool.not_true, Bool.not_false])), ?_⟩
       refine ⟨fun a w hA hS hd => by have e18 := has_ev (hd 18 (by decide)) rfl (fun _ h => h); have e21 := has_ev (hd 21 (by decide)) rfl (fun _ h => h); exact opG_yes rfl rfl e18 (dv (op_move rfl (tmp_ev e21)) hS rfl), ?_⟩
       refine ⟨fun a w hA hS hd => by have e22 := has_ev (hd 22 (by decide)) rfl (fun _ h => h); exact opG_no rfl rfl e22 rfl (dskip hS rfl), ?_⟩
       refine ⟨fun a w hA hS hd => by have e22 := has_ev (hd 22 (by decide)) rfl (fun _ h => h); have e23 := has_ev (hd 23 (by decide)) rfl (fun _ h => h); exact opG_no rfl rfl e22 rfl (dskip hS rfl), ?_⟩
       refine ⟨fun a w hA hS hd => by have e22 := has_ev (hd 22 (by decide)) rfl (fun _ h => h); have e24 := has_ev (hd 24 (by decide)) rfl (fun _ h => h); exact opG_no rfl rfl e22 rfl (dskip hS rfl), ?_⟩
       refine ⟨fun a w hA hS hd => by have e22 := has_ev (hd 22 (by decide)) rfl (fun _ h => h); have e25 := has_ev (hd 25 (by decide)) rfl (fun _ h => h); exact opG_no rfl rfl e22 rfl (dskip hS rfl), ?_⟩
       refine ⟨fun a w hA hS hd => by have e26 := has_ev (hd 26 (by decide)) rfl (fun _ h => h); exact opG_noU rfl rfl e26 (dskip hS rfl), ?_⟩
       refine ⟨fun a w hA hS hd => by have e26 := has_ev (hd 26 (by decide)) rfl (fun _ h => h); have e27 := has_ev (hd 27 (by decide)) rfl (fun _ h => h); exact opG_noU rfl rfl e26 (dskip hS rfl), ?_⟩
       refine ⟨fun a w hA hS hd => by have e26 := has_ev (hd 26 (by decide)) rfl (fun _ h => h); exact opG_noU rfl rfl e26 (dskip hS rfl), ?_⟩
       refine ⟨fun a w hA hS hd => by have e26 := has_ev (hd 26 (by decide)) rfl (fun _ h => h); have e29 := has_ev (hd 29 (by decide)) rfl (fun _ h => h); exact opG_noU rfl rfl e26 (dskip hS rfl), ?_⟩
       refine ⟨fun a w hA hS hd => by have e26 := has_ev (hd 26 (by decide)) rfl (fun _ h => h); have e28 := has_ev (hd 28 (by decide)) rfl (fun _ h => h); have e30 := has_ev (hd 30 (by decide)) rfl (fun _ h => h); exact opG_noU rfl rfl e26 (dskip hS rfl), ?_⟩
       refine ⟨fun a w hA hS hd => by have e22 := has_ev (hd 22 (by decide)) rfl (fun _ h => h); have e26 := has_ev (hd 26 (by decide)) rfl (fun _ h => h); have e31 := has_ev (hd 31 (by decide)) rfl (fun _ h => h); exact opG_no rfl rfl e22 rfl (dskip hS rfl), ?_⟩
       refine ⟨fun a w hA hS hd => by have e18 := has_ev (hd 18 (by decide)) rfl (fun _ h => h); have e22 := has_ev (hd 22 (by decide)) rfl (fun _ h => h); have e32 := has_ev (hd 32 (by decide)) rfl (fun _ h => h); exact opG_yes rfl rfl e18 (dv (op_pick_f rfl (tmp_ev e22) (evc _ _)) hS rfl), ?_⟩
       refine ⟨fun a w hA hS hd => by have e18 := has_ev (hd 18 (by decide)) rfl (fun _ h => h); have e33 := has_ev (hd 33 (by decide)) rfl (fun _ h => h); exact opG_of rfl (dv (op_pick_f rfl (tmp_ev e18) (tmp_ev e33)) hS rfl), ?_⟩
       refine ⟨fun a w hA hS hd => by have e34 := has_ev (hd 34 (by decide)) rfl (fun _ h => h); exact opG_of rfl (dv (op_move rfl (tmp_ev e34)) hS rfl), ?_⟩
       refine ⟨fun a w hA hS hd => by have e35 := has_ev (hd 35 (by decide)) rfl (fun _ h => h); exact opG_yes rfl rfl e35 (dv (op_field rfl fd_42_0 (hA.ev rfl)) hS rfl), ?_⟩
       refine ⟨fun a w hA hS hd => by have e35 := has_ev (hd 35 (by decide)) rfl (fun _ h => h); have e36 := has_ev (hd 36 (by decide)) rfl (fun _ h => h); exact opG_yes rfl rfl e35 (dv (op_load1 rfl ty_3 (tmp_ev e36) (hS.bk 0 rfl) rfl) hS rfl), ?_⟩
       refine ⟨fun a w hA hS hd => by have e35 := has_ev (hd 35 (by decide)) rfl (fun _ h => h); have e37 := has_ev (hd 37 (by decide)) rfl (fun _ h => h); exact opG_yes rfl rfl e35 (dv (op_neq rfl (tmp_ev e37) (evc _ _)) hS (by show Value.bool _ = _; simp only [decide_eq_false hb559, decide_true, decide_false, Bool.not_true, Bool.not_false])), ?_⟩
       refine ⟨fun a w hA hS hd => by have e35 := has_ev (hd 35 (by decide)) rfl (fun _ h => h); have e38 := has_ev (hd 38 (by decide)) rfl (fun _ h => h); exact opG_yes rfl rfl e35 (dv (op_move rfl (tmp_ev e38)) hS rfl), ?_⟩
       refine ⟨fun a w hA hS hd => by have e39 := has_ev (hd 39 (by decide)) rfl (fun _ h => h); exact opG_yes rfl rfl e39 (dv (op_field rfl fd_42_0 (hA.ev rfl)) hS rfl), ?_⟩
       refine ⟨fun a w hA hS hd => by have e39 := has_ev (hd 39 (by decide)) rfl (fun _ h => h); have e40 := has_ev (hd 40 (by decide)) rfl (fun _ h => h); exact opG_yes rfl rfl e39 (dv (op_load1 rfl ty_3 (tmp_ev e40) (hS.bk 3 rfl) rfl) hS rfl), ?_⟩
       refine ⟨fun a w hA hS hd => by have e39 := has_ev (hd 39 (by decide)) rfl (fun _ h => h); have e41 := has_ev (hd 41 (by decide)) rfl (fun _ h => h); exact opG_yes rfl rfl e39 (dv (op_eql rfl (tmp_ev e41) (evc _ _)) hS (by show Value.bool _ = _; simp only [decide_eq_false (show ¬ (((lifeR (allowedF R rs) k s).1) = (-1)) from (by omega)), decide_true, decide_false, Bool.not_true, Bool.not_false])), ?_⟩
       refine ⟨fun a w hA hS hd => by have e39 := has_ev (hd 39 (by decide)) rfl (fun _ h => h); have e42 := has_ev (hd 42 (by decide)) rfl (fun _ h => h); exact opG_yes rfl rfl e39 (dv (op_move rfl (tmp_ev e42)) hS rfl), ?_⟩
       refine ⟨fun a w hA hS hd => by have e43 := has_ev (hd 43 (by decide)) rfl (fun _ h => h); exact opG_yes rfl rfl e43 (dv (op_field rfl fd_42_0 (hA.ev rfl)) hS rfl), ?_⟩
       refine ⟨fun a w hA hS hd => by have e43 := has_ev (hd 43 (by decide)) rfl (fun _ h => h); have e44 := has_ev (hd 44 (by decide)) rfl (fun _ h => h); exact opG_yes rfl rfl e43 (dv (op_load1 rfl ty_3 (tmp_ev e44) (hS.bk 0 rfl) rfl) hS rfl), ?_⟩
       refine ⟨fun a w hA hS hd => by have e43 := has_ev (hd 43 (by decide)) rfl (fun _ h => h); exact opG_yes rfl rfl e43 (dv (op_field rfl fd_42_0 (hA.ev rfl)) hS rfl), ?_⟩
       refine ⟨fun a w hA hS hd => by have e43 := has_ev (hd 43 (by decide)) rfl (fun _ h => h); have e46 := has_ev (hd 46 (by decide)) rfl (fun _ h => h); exact opG_yes rfl rfl e43 (dv (op_load1 rfl ty_3 (tmp_ev e46) (hS.bk 3 rfl) rfl) hS rfl), ?_⟩
       trivial
      intro a590 w591 hA592 hS593 hH594; clear hA588 hS550
      have hA595 := hA592.add (has_ev (hH594 35 (by decide)) rfl (fun _ h => h)); clear hA592
      have hA596 := hA595.add (has_ev (hH594 39 (by decide)) rfl (fun _ h => h)); clear hA595
      have hA597 := hA596.add (has_ev (hH594 43 (by decide)) rfl (fun _ h => h)); clear hA596
      have hA598 := hA597.add (has_ev (hH594 45 (by decide)) rfl (fun _ h => h)); clear hA597
      have hA599 := hA598.add (has_ev (hH594 47 (by decide)) rfl (fun _ h => h)); clear hA598
      clear hH594
      refine stg hA599 (op_lss rfl (hA599.ev rfl) (hA599.ev rfl)) rfl rfl rfl rfl (by decide) fun a600 hA601 => ?_; clear hA599 a590
      have hd602 : ¬ (((lifeR (allowedF R (rs ++ [mo])) k s).1) < ((lifeR (allowedF R rs) k s).1)) := (by omega)
      rw [decide_eq_false hd602] at hA601
      refine stg hA601 (op_pick_f rfl (hA601.ev rfl) (hA601.ev rfl)) rfl rfl rfl rfl (by decide) fun a603 hA604 => ?_; clear hA601 a600
      refine stg hA604 (op_pick_t rfl (hA604.ev rfl) (hA604.ev rfl)) rfl rfl rfl rfl (by decide) fun a605 hA606 => ?_; clear hA604 a603
      refine st hA606 (op_pick_f rfl (hA606.ev rfl) (hA606.ev rfl)) rfl rfl (by decide) fun a607 hA608 => ?_; clear hA606 a605
      refine wl_nil ?_
      refine then_n ?_
      refine c_false hA608 rfl ?_
      refine c_skip ?_
      refine blk_n ?_
      refine then_n ?_
      have hA609 := hA608.as [(26, (Value.int .i64 (k : Int))), (16, u163), (13, u125), (11, v27), (5, (bptr b4 0)), (1, vu), (4, (Value.int .u32 s))] rfl; clear hA608
      refine c_region ?_
      refine st hA609 (op_move rfl (hA609.ev rfl)) rfl rfl (by decide) fun a610 hA611 => ?_; clear hA609 a607
      refine st hA611 (op_add rfl (hA611.ev rfl) (evc _ _) (by omega) (by omega)) rfl rfl (by decide) fun a612 hA613 => ?_; clear hA611 a610
      refine st hA613 (op_assign rfl (hA613.ev rfl)) rfl rfl (by decide) fun a614 hA615 => ?_; clear hA613 a612
      refine wl_nil ?_
      have hS616 : Sep NoB w w591 [(blk b407 42 [(Value.int .i64 (stLo plan (leastR R (rs ++ [mo]) plan))), (Value.int .i64 (stHi plan (mostR R (rs ++ [mo]) plan)))]), (row v392 67 3 plan.length (trips plan)), (runsR true v382 lv383 (rs ++ [mo])), (row u374 42 2 R.length (pairs R)), (blk b358 42 [(Value.int .i64 (stLo plan (leastR R rs plan))), (Value.int .i64 (stHi plan (mostR R rs plan)))]), (row v343 67 3 plan.length (trips plan)), (runsR true v333 lv334 rs), (row u325 42 2 R.length (pairs R)), (row u201 42 2 R.length (pairs (ratesF R (rs ++ [(⟨mo.segs, 0, 10000000000⟩ : RunD)])))), (runsR true v194 lv195 (rs ++ [(⟨mo.segs, 0, 10000000000⟩ : RunD)])), (row u186 42 2 R.length (pairs R)), (row u163 42 2 R.length (pairs (ratesF R (rs ++ [mo])))), (runsR true v156 lv157 (rs ++ [mo])), (row u148 42 2 R.length (pairs R)), (row u125 42 2 R.length (pairs (ratesF R rs))), (runsR true v118 lv119 rs), (row u110 42 2 R.length (pairs R)), (runsR false v77 (lv ++ [um]) (rs ++ [(⟨mo.segs, 0, 10000000000⟩ : RunD)])), (runsR false v27 (lv ++ [um]) (rs ++ [mo])), (row (vs14 4) 54 3 1 [um, (Value.int .i64 mo.lo), (Value.int .i64 mo.hi)]), (blk b9 54 [um, (Value.int .i64 mo.lo), (Value.int .i64 mo.hi)]), (blk b4 24 [vr]), (sl um 3 mo.segs.length (trips mo.segs)), (sl vr 2 R.length (pairs R)), (runsR false vu lv rs), (sl vp 3 plan.length (trips plan))] := hS593.keep [6, 7, 8, 9, 10, 11, 12, 13, 14, 15, 16, 17, 18, 19, 20, 21, 22, 23, 24, 25, 26, 27, 28, 29, 30, 31] (by decide) _ rfl rfl; clear hS593
      exact then_n ⟨k + 1, ⟨hA615.as _ rfl, hS616, by omega⟩, by omega⟩
    ·skip
     have hA617 := hA554.as [(30, (Value.int .i64 0)), (29, (bptr b545 0)), (28, (Value.int .i64 0)), (27, (bptr b499 0)), (26, (Value.int .i64 (k : Int))), (16, u163), (13, u125), (11, v27), (5, (bptr b4 0)), (1, vu), (4, (Value.int .u32 s))] rfl; clear hA554
     by_cases hb619 : ((lifeR (allowedF R (rs ++ [mo])) k s).1) = (-1)
     ·skip
      have hA620 := hA617.as [(30, (Value.int .i64 0)), (29, (bptr b545 0)), (28, (Value.int .i64 0)), (27, (bptr b499 0)), (26, (Value.int .i64 (k : Int))), (16, u163), (13, u125), (11, v27), (5, (bptr b4 0)), (1, vu), (4, (Value.int .u32 s))] rfl; clear hA617
      refine c_drawn mixed hA620 hS550 48 [[], [], [0, 1], [2], [], [], [4, 5], [6], [3, 7], [8], [9], [10], [10, 11], [10, 12], [13], [14], [14, 15], [14, 16], [17], [18], [18, 19], [18, 20], [18, 21], [22], [22, 23], [22, 24], [22, 25], [26], [26, 27], [26], [26, 29], [26, 28, 30], [22, 26, 31], [18, 22, 32], [18, 33], [34], [35], [35, 36], [35, 37], [35, 38], [39], [39, 40], [39, 41], [39, 42], [43], [43, 44], [43], [43, 46]] [(Yd.val u163), (Yd.val (Value.int .i64 (k : Int))), (Yd.val (eptr u163 (k * 2))), (Yd.val (Value.agg #[(Value.int .i64 (((ratesF R (rs ++ [mo])).getD k (0, 0)).1)), (Value.int .i64 (((ratesF R (rs ++ [mo])).getD k (0, 0)).2))])), (Yd.val u125), (Yd.val (Value.int .i64 (k : Int))), (Yd.val (eptr u125 (k * 2))), (Yd.val (Value.agg #[(Value.int .i64 (((ratesF R rs).getD k (0, 0)).1)), (Value.int .i64 (((ratesF R rs).getD k (0, 0)).2))])), (Yd.val (Value.bool true)), (Yd.val (Value.bool (!true))), (Yd.val (Value.bool (!true))), (Yd.val (Value.int .i64 0)), (Yd.val (Value.bool false)), (Yd.val (Value.bool false)), (Yd.val (Value.bool false)), (Yd.val (Value.int .i64 0)), (Yd.val (Value.bool false)), (Yd.val (Value.bool false)), (Yd.val (Value.bool false)), (Yd.val (bptr b499 1)), (Yd.val (Value.int .i64 ((lifeR (allowedF R rs) k s).2))), (Yd.val (Value.bool (!false))), (Yd.val (Value.bool (!false))), (Yd.val (bptr b545 1)), (Yd.val (Value.int .i64 ((lifeR (allowedF R (rs ++ [mo])) k s).2))), (Yd.val (Value.bool false)), (Yd.val (Value.bool false)), (Yd.val (bptr b545 1)), (Yd.val (Value.int .i64 ((lifeR (allowedF R (rs ++ [mo])) k s).2))), (Yd.val (bptr b499 1)), (Yd.val (Value.int .i64 ((lifeR (allowedF R rs) k s).2))), (Yd.val (Value.bool false)), (Yd.val (Value.bool false)), (Yd.val (Value.bool false)), (Yd.val (Value.bool false)), (Yd.val (Value.bool false)), (Yd.val (bptr b545 0)), (Yd.val (Value.int .i64 ((lifeR (allowedF R (rs ++ [mo])) k s).1))), (Yd.val (Value.bool (!true))), (Yd.val (Value.bool (!true))), (Yd.val undef), (Yd.val undef), (Yd.val undef), (Yd.val undef), (Yd.val undef), (Yd.val undef), (Yd.val undef), (Yd.val undef)] (by decide +kernel) rfl rfl ?_ ?_
      ·skip
       refine ⟨fun a w hA hS hd => by exact opG_of rfl (dv (op_move rfl (hA.ev rfl)) hS rfl), ?_⟩
       refine ⟨fun a w hA hS hd => by exact opG_of rfl (dv (op_move rfl (hA.ev rfl)) hS rfl), ?_⟩
       refine ⟨fun a w hA hS hd => by have e0 := has_ev (hd 0 (by decide)) rfl (fun _ h => h); have e1 := has_ev (hd 1 (by decide)) rfl (fun _ h => h); exact opG_of rfl (dv (op_indexS rfl un_28 ty_42 (tmp_ev e0) (i := k) (tmp_ev e1) (SlAt.of_row (hS.ok_row 17 rfl)) (by decide) (by omega)) hS rfl), ?_⟩
       refine ⟨fun a w hA hS hd => by have e2 := has_ev (hd 2 (by decide)) rfl (fun _ h => h); exact opG_of rfl (dv (op_loadAE rfl ty_42 (tmp_ev e2) (SlAt.of_row (hS.ok_row 17 rfl)) (pairs_all (by omega)) rfl (by decide)) hS rfl), ?_⟩
       refine ⟨fun a w hA hS hd => by exact opG_of rfl (dv (op_move rfl (hA.ev rfl)) hS rfl), ?_⟩
       refine ⟨fun a w hA hS hd => by exact opG_of rfl (dv (op_move rfl (hA.ev rfl)) hS rfl), ?_⟩
       refine ⟨fun a w hA hS hd => by have e4 := has_ev (hd 4 (by decide)) rfl (fun _ h => h); have e5 := has_ev (hd 5 (by decide)) rfl (fun _ h => h); exact opG_of rfl (dv (op_indexS rfl un_28 ty_42 (tmp_ev e4) (i := k) (tmp_ev e5) (SlAt.of_row (hS.ok_row 20 rfl)) (by decide) (by omega)) hS rfl), ?_⟩
       refine ⟨fun a w hA hS hd => by have e6 := has_ev (hd 6 (by decide)) rfl (fun _ h => h); exact opG_of rfl (dv (op_loadAE rfl ty_42 (tmp_ev e6) (SlAt.of_row (hS.ok_row 20 rfl)) (pairs_all (by omega)) rfl (by decide)) hS rfl), ?_⟩
       refine ⟨fun a w hA hS hd => by have e3 := has_ev (hd 3 (by decide)) rfl (fun _ h => h); have e7 := has_ev (hd 7 (by decide)) rfl (fun _ h => h); exact opG_of rfl (dx (op_call rfl en_30 (ev2 (tmp_ev e3) (tmp_ev e7)) (inside_ok _ _ _ _ _)) hS (fun _ => (by show Value.bool _ = _; simp only [(show (decide ((((ratesF R rs).getD k (0, 0)).1) ≤ (((ratesF R (rs ++ [mo])).getD k (0, 0)).1)) && decide ((((ratesF R (rs ++ [mo])).getD k (0, 0)).2) ≤ (((ratesF R rs).getD k (0, 0)).2))) = true from (by have hz_ := rates_sub (b := k) hal2 hsub (by omega); simp only [Bool.and_eq_true, decide_eq_true_eq]; exact hz_)), decide_true, decide_false, Bool.not_true, Bool.not_false]))), ?_⟩
       refine ⟨fun a w hA hS hd => by have e8 := has_ev (hd 8 (by decide)) rfl (fun _ h => h); exact opG_of rfl (dv (op_not rfl (tmp_ev e8)) hS rfl), ?_⟩
       refine ⟨fun a w hA hS hd => by have e9 := has_ev (hd 9 (by decide)) rfl (fun _ h => h); exact opG_of rfl (dv (op_move rfl (tmp_ev e9)) hS rfl), ?_⟩
       refine ⟨fun a w hA hS hd => by have e10 := has_ev (hd 10 (by decide)) rfl (fun _ h => h); exact opG_yes rfl rfl e10 (dv (op_move rfl (hA.ev rfl)) hS rfl), ?_⟩
       refine ⟨fun a w hA hS hd => by have e10 := has_ev (hd 10 (by decide)) rfl (fun _ h => h); have e11 := has_ev (hd 11 (by decide)) rfl (fun _ h => h); exact opG_yes rfl rfl e10 (dv (op_neq rfl (tmp_ev e11) (evc _ _)) hS rfl), ?_⟩
       refine ⟨fun a w hA hS hd => by have e10 := has_ev (hd 10 (by decide)) rfl (fun _ h => h); have e12 := has_ev (hd 12 (by decide)) rfl (fun _ h => h); exact opG_of rfl (dv (op_pick_f rfl (tmp_ev e10) (tmp_ev e12)) hS rfl), ?_⟩
       refine ⟨fun a w hA hS hd => by have e13 := has_ev (hd 13 (by decide)) rfl (fun _ h => h); exact opG_of rfl (dv (op_move rfl (tmp_ev e13)) hS rfl), ?_⟩
       refine ⟨fun a w hA hS hd => by have e14 := has_ev (hd 14 (by decide)) rfl (fun _ h => h); exact opG_yes rfl rfl e14 (dv (op_move rfl (hA.ev rfl)) hS rfl), ?_⟩
       refine ⟨fun a w hA hS hd => by have e14 := has_ev (hd 14 (by decide)) rfl (fun _ h => h); have e15 := has_ev (hd 15 (by decide)) rfl (fun _ h => h); exact opG_yes rfl rfl e14 (dv (op_neq rfl (tmp_ev e15) (evc _ _)) hS rfl), ?_⟩
       refine ⟨fun a w hA hS hd => by have e14 := has_ev (hd 14 (by decide)) rfl (fun _ h => h); have e16 := has_ev (hd 16 (by decide)) rfl (fun _ h => h); exact opG_of rfl (dv (op_pick_f rfl (tmp_ev e14) (tmp_ev e16)) hS rfl), ?_⟩
       refine ⟨fun a w hA hS hd => by have e17 := has_ev (hd 17 (by decide)) rfl (fun _ h => h); exact opG_of rfl (dv (op_move rfl (tmp_ev e17)) hS rfl), ?_⟩
       refine ⟨fun a w hA hS hd => by have e18 := has_ev (hd 18 (by decide)) rfl (fun _ h => h); exact opG_yes rfl rfl e18 (dv (op_field rfl fd_42_1 (hA.ev rfl)) hS rfl), ?_⟩
       refine ⟨fun a w hA hS hd => by have e18 := has_ev (hd 18 (by decide)) rfl (fun _ h => h); have e19 := has_ev (hd 19 (by decide)) rfl (fun _ h => h); exact opG_yes rfl rfl e18 (dv (op_load1 rfl ty_3 (tmp_ev e19) (hS.bk 3 rfl) rfl) hS rfl), ?_⟩
       refine ⟨fun a w hA hS hd => by have e18 := has_ev (hd 18 (by decide)) rfl (fun _ h => h); have e20 := has_ev (hd 20 (by decide)) rfl (fun _ h => h); exact opG_yes rfl rfl e18 (dv (op_neq rfl (tmp_ev e20) (evc _ _)) hS (by show Value.bool _ = _; simp only [decide_eq_false hb556, decide_true, decide_false, Bool.not_true, Bool.not_false])), ?_⟩
       refine ⟨fun a w hA hS hd => by have e18 := has_ev (hd 18 (by decide)) rfl (fun _ h => h); have e21 := has_ev (hd 21 (by decide)) rfl (fun _ h => h); exact opG_yes rfl rfl e18 (dv (op_move rfl (tmp_ev e21)) hS rfl), ?_⟩
       refine ⟨fun a w hA hS hd => by have e22 := has_ev (hd 22 (by decide)) rfl (fun _ h => h); exact opG_yes rfl rfl e22 (dv (op_field rfl fd_42_1 (hA.ev rfl)) hS rfl), ?_⟩
       refine ⟨fun a w hA hS hd => by have e22 := has_ev (hd 22 (by decide)) rfl (fun _ h => h); have e23 := has_ev (hd 23 (by decide)) rfl (fun _ h => h); exact opG_yes rfl rfl e22 (dv (op_load1 rfl ty_3 (tmp_ev e23) (hS.bk 0 rfl) rfl) hS rfl), ?_⟩
       refine ⟨fun a w hA hS hd => by have e22 := has_ev (hd 22 (by decide)) rfl (fun _ h => h); have e24 := has_ev (hd 24 (by decide)) rfl (fun _ h => h); exact opG_yes rfl rfl e22 (dv (op_eql rfl (tmp_ev e24) (evc _ _)) hS (by show Value.bool _ = _; simp only [decide_eq_false (show ¬ (((lifeR (allowedF R (rs ++ [mo])) k s).2) = (-1)) from (by omega)), decide_true, decide_false, Bool.not_true, Bool.not_false])), ?_⟩
       refine ⟨fun a w hA hS hd => by have e22 := has_ev (hd 22 (by decide)) rfl (fun _ h => h); have e25 := has_ev (hd 25 (by decide)) rfl (fun _ h => h); exact opG_yes rfl rfl e22 (dv (op_move rfl (tmp_ev e25)) hS rfl), ?_⟩
       refine ⟨fun a w hA hS hd => by have e26 := has_ev (hd 26 (by decide)) rfl (fun _ h => h); exact opG_yes rfl rfl e26 (dv (op_field rfl fd_42_1 (hA.ev rfl)) hS rfl), ?_⟩
       refine ⟨fun a w hA hS hd => by have e26 := has_ev (hd 26 (by decide)) rfl (fun _ h => h); have e27 := has_ev (hd 27 (by decide)) rfl (fun _ h => h); exact opG_yes rfl rfl e26 (dv (op_load1 rfl ty_3 (tmp_ev e27) (hS.bk 0 rfl) rfl) hS rfl), ?_⟩
       refine ⟨fun a w hA hS hd => by have e26 := has_ev (hd 26 (by decide)) rfl (fun _ h => h); exact opG_yes rfl rfl e26 (dv (op_field rfl fd_42_1 (hA.ev rfl)) hS rfl), ?_⟩
       refine ⟨fun a w hA hS hd => by have e26 := has_ev (hd 26 (by decide)) rfl (fun _ h => h); have e29 := has_ev (hd 29 (by decide)) rfl (fun _ h => h); exact opG_yes rfl rfl e26 (dv (op_load1 rfl ty_3 (tmp_ev e29) (hS.bk 3 rfl) rfl) hS rfl), ?_⟩
       refine ⟨fun a w hA hS hd => by have e26 := has_ev (hd 26 (by decide)) rfl (fun _ h => h); have e28 := has_ev (hd 28 (by decide)) rfl (fun _ h => h); have e30 := has_ev (hd 30 (by decide)) rfl (fun _ h => h); exact opG_yes rfl rfl e26 (dv (op_gtr rfl (tmp_ev e28) (tmp_ev e30)) hS (by show Value.bool _ = _; simp only [decide_eq_false (show ¬ (((lifeR (allowedF R rs) k s).2) < ((lifeR (allowedF R (rs ++ [mo])) k s).2)) from (by omega)), decide_true, decide_false, Bool.not_true, Bool.not_false])), ?_⟩
       refine ⟨fun a w hA hS hd => by have e22 := has_ev (hd 22 (by decide)) rfl (fun _ h => h); have e26 := has_ev (hd 26 (by decide)) rfl (fun _ h => h); have e31 := has_ev (hd 31 (by decide)) rfl (fun _ h => h); exact opG_yes rfl rfl e22 (dv (op_pick_f rfl (tmp_ev e26) (tmp_ev e31)) hS rfl), ?_⟩
       refine ⟨fun a w hA hS hd => by have e18 := has_ev (hd 18 (by decide)) rfl (fun _ h => h); have e22 := has_ev (hd 22 (by decide)) rfl (fun _ h => h); have e32 := has_ev (hd 32 (by decide)) rfl (fun _ h => h); exact opG_yes rfl rfl e18 (dv (op_pick_t rfl (tmp_ev e22) (tmp_ev e32)) hS rfl), ?_⟩
       refine ⟨fun a w hA hS hd => by have e18 := has_ev (hd 18 (by decide)) rfl (fun _ h => h); have e33 := has_ev (hd 33 (by decide)) rfl (fun _ h => h); exact opG_of rfl (dv (op_pick_f rfl (tmp_ev e18) (tmp_ev e33)) hS rfl), ?_⟩
       refine ⟨fun a w hA hS hd => by have e34 := has_ev (hd 34 (by decide)) rfl (fun _ h => h); exact opG_of rfl (dv (op_move rfl (tmp_ev e34)) hS rfl), ?_⟩
       refine ⟨fun a w hA hS hd => by have e35 := has_ev (hd 35 (by decide)) rfl (fun _ h => h); exact opG_yes rfl rfl e35 (dv (op_field rfl fd_42_0 (hA.ev rfl)) hS rfl), ?_⟩
       refine ⟨fun a w hA hS hd => by have e35 := has_ev (hd 35 (by decide)) rfl (fun _ h => h); have e36 := has_ev (hd 36 (by decide)) rfl (fun _ h => h); exact opG_yes rfl rfl e35 (dv (op_load1 rfl ty_3 (tmp_ev e36) (hS.bk 0 rfl) rfl) hS rfl), ?_⟩
       refine ⟨fun a w hA hS hd => by have e35 := has_ev (hd 35 (by decide)) rfl (fun _ h => h); have e37 := has_ev (hd 37 (by decide)) rfl (fun _ h => h); exact opG_yes rfl rfl e35 (dv (op_neq rfl (tmp_ev e37) (evc _ _)) hS (by show Value.bool _ = _; simp only [decide_eq_true hb619, decide_true, decide_false, Bool.not_true, Bool.not_false])), ?_⟩
       refine ⟨fun a w hA hS hd => by have e35 := has_ev (hd 35 (by decide)) rfl (fun _ h => h); have e38 := has_ev (hd 38 (by decide)) rfl (fun _ h => h); exact opG_yes rfl rfl e35 (dv (op_move rfl (tmp_ev e38)) hS rfl), ?_⟩
       refine ⟨fun a w hA hS hd => by have e39 := has_ev (hd 39 (by decide)) rfl (fun _ h => h); exact opG_no rfl rfl e39 rfl (dskip hS rfl), ?_⟩
       refine ⟨fun a w hA hS hd => by have e39 := has_ev (hd 39 (by decide)) rfl (fun _ h => h); have e40 := has_ev (hd 40 (by decide)) rfl (fun _ h => h); exact opG_no rfl rfl e39 rfl (dskip hS rfl), ?_⟩
       refine ⟨fun a w hA hS hd => by have e39 := has_ev (hd 39 (by decide)) rfl (fun _ h => h); have e41 := has_ev (hd 41 (by decide)) rfl (fun _ h => h); exact opG_no rfl rfl e39 rfl (dskip hS rfl), ?_⟩
       refine ⟨fun a w hA hS hd => by have e39 := has_ev (hd 39 (by decide)) rfl (fun _ h => h); have e42 := has_ev (hd 42 (by decide)) rfl (fun _ h => h); exact opG_no rfl rfl e39 rfl (dskip hS rfl), ?_⟩
       refine ⟨fun a w hA hS hd => by have e43 := has_ev (hd 43 (by decide)) rfl (fun _ h => h); exact opG_noU rfl rfl e43 (dskip hS rfl), ?_⟩
       refine ⟨fun a w hA hS hd => by have e43 := has_ev (hd 43 (by decide)) rfl (fun _ h => h); have e44 := has_ev (hd 44 (by decide)) rfl (fun _ h => h); exact opG_noU rfl rfl e43 (dskip hS rfl), ?_⟩
       refine ⟨fun a w hA hS hd => by have e43 := has_ev (hd 43 (by decide)) rfl (fun _ h => h); exact opG_noU rfl rfl e43 (dskip hS rfl), ?_⟩
       refine ⟨fun a w hA hS hd => by have e43 := has_ev (hd 43 (by decide)) rfl (fun _ h => h); have e46 := has_ev (hd 46 (by decide)) rfl (fun _ h => h); exact opG_noU rfl rfl e43 (dskip hS rfl), ?_⟩
       trivial
      intro a622 w623 hA624 hS625 hH626; clear hA620 hS550
      have hA627 := hA624.add (has_ev (hH626 35 (by decide)) rfl (fun _ h => h)); clear hA624
      have hA628 := hA627.add (has_ev (hH626 39 (by decide)) rfl (fun _ h => h)); clear hA627
      have hA629 := hA628.add (has_ev (hH626 43 (by decide)) rfl (fun _ h => h)); clear hA628
      have hA630 := hA629.add (has_ev (hH626 45 (by decide)) rfl (fun _ h => h)); clear hA629
      have hA631 := hA630.add (has_ev (hH626 47 (by decide)) rfl (fun _ h => h)); clear hA630
      clear hH626
      refine skpU hA631 rfl rfl rfl rfl (by decide) fun a632 hA633 => ?_; clear hA631 a622
      refine skp hA633 rfl rfl rfl rfl rfl (by decide) fun a634 hA635 => ?_; clear hA633 a632
      refine stg hA635 (op_pick_f rfl (hA635.ev rfl) (evc _ _)) rfl rfl rfl rfl (by decide) fun a636 hA637 => ?_; clear hA635 a634
      refine st hA637 (op_pick_f rfl (hA637.ev rfl) (hA637.ev rfl)) rfl rfl (by decide) fun a638 hA639 => ?_; clear hA637 a636
      refine wl_nil ?_
      refine then_n ?_
      refine c_false hA639 rfl ?_
      refine c_skip ?_
      refine blk_n ?_
      refine then_n ?_
      have hA640 := hA639.as [(26, (Value.int .i64 (k : Int))), (16, u163), (13, u125), (11, v27), (5, (bptr b4 0)), (1, vu), (4, (Value.int .u32 s))] rfl; clear hA639
      refine c_region ?_
      refine st hA640 (op_move rfl (hA640.ev rfl)) rfl rfl (by decide) fun a641 hA642 => ?_; clear hA640 a638
      refine st hA642 (op_add rfl (hA642.ev rfl) (evc _ _) (by omega) (by omega)) rfl rfl (by decide) fun a643 hA644 => ?_; clear hA642 a641
      refine st hA644 (op_assign rfl (hA644.ev rfl)) rfl rfl (by decide) fun a645 hA646 => ?_; clear hA644 a643
      refine wl_nil ?_
      have hS647 : Sep NoB w w623 [(blk b407 42 [(Value.int .i64 (stLo plan (leastR R (rs ++ [mo]) plan))), (Value.int .i64 (stHi plan (mostR R (rs ++ [mo]) plan)))]), (row v392 67 3 plan.length (trips plan)), (runsR true v382 lv383 (rs ++ [mo])), (row u374 42 2 R.length (pairs R)), (blk b358 42 [(Value.int .i64 (stLo plan (leastR R rs plan))), (Value.int .i64 (stHi plan (mostR R rs plan)))]), (row v343 67 3 plan.length (trips plan)), (runsR true v333 lv334 rs), (row u325 42 2 R.length (pairs R)), (row u201 42 2 R.length (pairs (ratesF R (rs ++ [(⟨mo.segs, 0, 10000000000⟩ : RunD)])))), (runsR true v194 lv195 (rs ++ [(⟨mo.segs, 0, 10000000000⟩ : RunD)])), (row u186 42 2 R.length (pairs R)), (row u163 42 2 R.length (pairs (ratesF R (rs ++ [mo])))), (runsR true v156 lv157 (rs ++ [mo])), (row u148 42 2 R.length (pairs R)), (row u125 42 2 R.length (pairs (ratesF R rs))), (runsR true v118 lv119 rs), (row u110 42 2 R.length (pairs R)), (runsR false v77 (lv ++ [um]) (rs ++ [(⟨mo.segs, 0, 10000000000⟩ : RunD)])), (runsR false v27 (lv ++ [um]) (rs ++ [mo])), (row (vs14 4) 54 3 1 [um, (Value.int .i64 mo.lo), (Value.int .i64 mo.hi)]), (blk b9 54 [um, (Value.int .i64 mo.lo), (Value.int .i64 mo.hi)]), (blk b4 24 [vr]), (sl um 3 mo.segs.length (trips mo.segs)), (sl vr 2 R.length (pairs R)), (runsR false vu lv rs), (sl vp 3 plan.length (trips plan))] := hS625.keep [6, 7, 8, 9, 10, 11, 12, 13, 14, 15, 16, 17, 18, 19, 20, 21, 22, 23, 24, 25, 26, 27, 28, 29, 30, 31] (by decide) _ rfl rfl; clear hS625
      exact then_n ⟨k + 1, ⟨hA646.as _ rfl, hS647, by omega⟩, by omega⟩
     ·skip
      have hA648 := hA617.as [(30, (Value.int .i64 0)), (29, (bptr b545 0)), (28, (Value.int .i64 0)), (27, (bptr b499 0)), (26, (Value.int .i64 (k : Int))), (16, u163), (13, u125), (11, v27), (5, (bptr b4 0)), (1, vu), (4, (Value.int .u32 s))] rfl; clear hA617
      refine c_drawn mixed hA648 hS550 48 [[], [], [0, 1], [2], [], [], [4, 5], [6], [3, 7], [8], [9], [10], [10, 11], [10, 12], [13], [14], [14, 15], [14, 16], [17], [18], [18, 19], [18, 20], [18, 21], [22], [22, 23], [22, 24], [22, 25], [26], [26, 27], [26], [26, 29], [26, 28, 30], [22, 26, 31], [18, 22, 32], [18, 33], [34], [35], [35, 36], [35, 37], [35, 38], [39], [39, 40], [39, 41], [39, 42], [43], [43, 44], [43], [43, 46]] [(Yd.val u163), (Yd.val (Value.int .i64 (k : Int))), (Yd.val (eptr u163 (k * 2))), (Yd.val (Value.agg #[(Value.int .i64 (((ratesF R (rs ++ [mo])).getD k (0, 0)).1)), (Value.int .i64 (((ratesF R (rs ++ [mo])).getD k (0, 0)).2))])), (Yd.val u125), (Yd.val (Value.int .i64 (k : Int))), (Yd.val (eptr u125 (k * 2))), (Yd.val (Value.agg #[(Value.int .i64 (((ratesF R rs).getD k (0, 0)).1)), (Value.int .i64 (((ratesF R rs).getD k (0, 0)).2))])), (Yd.val (Value.bool true)), (Yd.val (Value.bool (!true))), (Yd.val (Value.bool (!true))), (Yd.val (Value.int .i64 0)), (Yd.val (Value.bool false)), (Yd.val (Value.bool false)), (Yd.val (Value.bool false)), (Yd.val (Value.int .i64 0)), (Yd.val (Value.bool false)), (Yd.val (Value.bool false)), (Yd.val (Value.bool false)), (Yd.val (bptr b499 1)), (Yd.val (Value.int .i64 ((lifeR (allowedF R rs) k s).2))), (Yd.val (Value.bool (!false))), (Yd.val (Value.bool (!false))), (Yd.val (bptr b545 1)), (Yd.val (Value.int .i64 ((lifeR (allowedF R (rs ++ [mo])) k s).2))), (Yd.val (Value.bool false)), (Yd.val (Value.bool false)), (Yd.val (bptr b545 1)), (Yd.val (Value.int .i64 ((lifeR (allowedF R (rs ++ [mo])) k s).2))), (Yd.val (bptr b499 1)), (Yd.val (Value.int .i64 ((lifeR (allowedF R rs) k s).2))), (Yd.val (Value.bool false)), (Yd.val (Value.bool false)), (Yd.val (Value.bool false)), (Yd.val (Value.bool false)), (Yd.val (Value.bool false)), (Yd.val (bptr b545 0)), (Yd.val (Value.int .i64 ((lifeR (allowedF R (rs ++ [mo])) k s).1))), (Yd.val (Value.bool (!false))), (Yd.val (Value.bool (!false))), (Yd.val (bptr b499 0)), (Yd.val (Value.int .i64 ((lifeR (allowedF R rs) k s).1))), (Yd.val (Value.bool false)), (Yd.val (Value.bool false)), (Yd.val (bptr b545 0)), (Yd.val (Value.int .i64 ((lifeR (allowedF R (rs ++ [mo])) k s).1))), (Yd.val (bptr b499 0)), (Yd.val (Value.int .i64 ((lifeR (allowedF R rs) k s).1)))] (by decide +kernel) rfl rfl ?_ ?_
      ·skip
       refine ⟨fun a w hA hS hd => by exact opG_of rfl (dv (op_move rfl (hA.ev rfl)) hS rfl), ?_⟩
       refine ⟨fun a w hA hS hd => by exact opG_of rfl (dv (op_move rfl (hA.ev rfl)) hS rfl), ?_⟩
       refine ⟨fun a w hA hS hd => by have e0 := has_ev (hd 0 (by decide)) rfl (fun _ h => h); have e1 := has_ev (hd 1 (by decide)) rfl (fun _ h => h); exact opG_of rfl (dv (op_indexS rfl un_28 ty_42 (tmp_ev e0) (i := k) (tmp_ev e1) (SlAt.of_row (hS.ok_row 17 rfl)) (by decide) (by omega)) hS rfl), ?_⟩
       refine ⟨fun a w hA hS hd => by have e2 := has_ev (hd 2 (by decide)) rfl (fun _ h => h); exact opG_of rfl (dv (op_loadAE rfl ty_42 (tmp_ev e2) (SlAt.of_row (hS.ok_row 17 rfl)) (pairs_all (by omega)) rfl (by decide)) hS rfl), ?_⟩
       refine ⟨fun a w hA hS hd => by exact opG_of rfl (dv (op_move rfl (hA.ev rfl)) hS rfl), ?_⟩
       refine ⟨fun a w hA hS hd => by exact opG_of rfl (dv (op_move rfl (hA.ev rfl)) hS rfl), ?_⟩
       refine ⟨fun a w hA hS hd => by have e4 := has_ev (hd 4 (by decide)) rfl (fun _ h => h); have e5 := has_ev (hd 5 (by decide)) rfl (fun _ h => h); exact opG_of rfl (dv (op_indexS rfl un_28 ty_42 (tmp_ev e4) (i := k) (tmp_ev e5) (SlAt.of_row (hS.ok_row 20 rfl)) (by decide) (by omega)) hS rfl), ?_⟩
       refine ⟨fun a w hA hS hd => by have e6 := has_ev (hd 6 (by decide)) rfl (fun _ h => h); exact opG_of rfl (dv (op_loadAE rfl ty_42 (tmp_ev e6) (SlAt.of_row (hS.ok_row 20 rfl)) (pairs_all (by omega)) rfl (by decide)) hS rfl), ?_⟩
       refine ⟨fun a w hA hS hd => by have e3 := has_ev (hd 3 (by decide)) rfl (fun _ h => h); have e7 := has_ev (hd 7 (by decide)) rfl (fun _ h => h); exact opG_of rfl (dx (op_call rfl en_30 (ev2 (tmp_ev e3) (tmp_ev e7)) (inside_ok _ _ _ _ _)) hS (fun _ => (by show Value.bool _ = _; simp only [(show (decide ((((ratesF R rs).getD k (0, 0)).1) ≤ (((ratesF R (rs ++ [mo])).getD k (0, 0)).1)) && decide ((((ratesF R (rs ++ [mo])).getD k (0, 0)).2) ≤ (((ratesF R rs).getD k (0, 0)).2))) = true from (by have hz_ := rates_sub (b := k) hal2 hsub (by omega); simp only [Bool.and_eq_true, decide_eq_true_eq]; exact hz_)), decide_true, decide_false, Bool.not_true, Bool.not_false]))), ?_⟩
       refine ⟨fun a w hA hS hd => by have e8 := has_ev (hd 8 (by decide)) rfl (fun _ h => h); exact opG_of rfl (dv (op_not rfl (tmp_ev e8)) hS rfl), ?_⟩
       refine ⟨fun a w hA hS hd => by have e9 := has_ev (hd 9 (by decide)) rfl (fun _ h => h); exact opG_of rfl (dv (op_move rfl (tmp_ev e9)) hS rfl), ?_⟩
       refine ⟨fun a w hA hS hd => by have e10 := has_ev (hd 10 (by decide)) rfl (fun _ h => h); exact opG_yes rfl rfl e10 (dv (op_move rfl (hA.ev rfl)) hS rfl), ?_⟩
       refine ⟨fun a w hA hS hd => by have e10 := has_ev (hd 10 (by decide)) rfl (fun _ h => h); have e11 := has_ev (hd 11 (by decide)) rfl (fun _ h => h); exact opG_yes rfl rfl e10 (dv (op_neq rfl (tmp_ev e11) (evc _ _)) hS rfl), ?_⟩
       refine ⟨fun a w hA hS hd => by have e10 := has_ev (hd 10 (by decide)) rfl (fun _ h => h); have e12 := has_ev (hd 12 (by decide)) rfl (fun _ h => h); exact opG_of rfl (dv (op_pick_f rfl (tmp_ev e10) (tmp_ev e12)) hS rfl), ?_⟩
       refine ⟨fun a w hA hS hd => by have e13 := has_ev (hd 13 (by decide)) rfl (fun _ h => h); exact opG_of rfl (dv (op_move rfl (tmp_ev e13)) hS rfl), ?_⟩
       refine ⟨fun a w hA hS hd => by have e14 := has_ev (hd 14 (by decide)) rfl (fun _ h => h); exact opG_yes rfl rfl e14 (dv (op_move rfl (hA.ev rfl)) hS rfl), ?_⟩
       refine ⟨fun a w hA hS hd => by have e14 := has_ev (hd 14 (by decide)) rfl (fun _ h => h); have e15 := has_ev (hd 15 (by decide)) rfl (fun _ h => h); exact opG_yes rfl rfl e14 (dv (op_neq rfl (tmp_ev e15) (evc _ _)) hS rfl), ?_⟩
       refine ⟨fun a w hA hS hd => by have e14 := has_ev (hd 14 (by decide)) rfl (fun _ h => h); have e16 := has_ev (hd 16 (by decide)) rfl (fun _ h => h); exact opG_of rfl (dv (op_pick_f rfl (tmp_ev e14) (tmp_ev e16)) hS rfl), ?_⟩
       refine ⟨fun a w hA hS hd => by have e17 := has_ev (hd 17 (by decide)) rfl (fun _ h => h); exact opG_of rfl (dv (op_move rfl (tmp_ev e17)) hS rfl), ?_⟩
       refine ⟨fun a w hA hS hd => by have e18 := has_ev (hd 18 (by decide)) rfl (fun _ h => h); exact opG_yes rfl rfl e18 (dv (op_field rfl fd_42_1 (hA.ev rfl)) hS rfl), ?_⟩
       refine ⟨fun a w hA hS hd => by have e18 := has_ev (hd 18 (by decide)) rfl (fun _ h => h); have e19 := has_ev (hd 19 (by decide)) rfl (fun _ h => h); exact opG_yes rfl rfl e18 (dv (op_load1 rfl ty_3 (tmp_ev e19) (hS.bk 3 rfl) rfl) hS rfl), ?_⟩
       refine ⟨fun a w hA hS hd => by have e18 := has_ev (hd 18 (by decide)) rfl (fun _ h => h); have e20 := has_ev (hd 20 (by decide)) rfl (fun _ h => h); exact opG_yes rfl rfl e18 (dv (op_neq rfl (tmp_ev e20) (evc _ _)) hS (by show Value.bool _ = _; simp only [decide_eq_false hb556, decide_true, decide_false, Bool.not_true, Bool.not_false])), ?_⟩
       refine ⟨fun a w hA hS hd => by have e18 := has_ev (hd 18 (by decide)) rfl (fun _ h => h); have e21 := has_ev (hd 21 (by decide)) rfl (fun _ h => h); exact opG_yes rfl rfl e18 (dv (op_move rfl (tmp_ev e21)) hS rfl), ?_⟩
       refine ⟨fun a w hA hS hd => by have e22 := has_ev (hd 22 (by decide)) rfl (fun _ h => h); exact opG_yes rfl rfl e22 (dv (op_field rfl fd_42_1 (hA.ev rfl)) hS rfl), ?_⟩
       refine ⟨fun a w hA hS hd => by have e22 := has_ev (hd 22 (by decide)) rfl (fun _ h => h); have e23 := has_ev (hd 23 (by decide)) rfl (fun _ h => h); exact opG_yes rfl rfl e22 (dv (op_load1 rfl ty_3 (tmp_ev e23) (hS.bk 0 rfl) rfl) hS rfl), ?_⟩
       refine ⟨fun a w hA hS hd => by have e22 := has_ev (hd 22 (by decide)) rfl (fun _ h => h); have e24 := has_ev (hd 24 (by decide)) rfl (fun _ h => h); exact opG_yes rfl rfl e22 (dv (op_eql rfl (tmp_ev e24) (evc _ _)) hS (by show Value.bool _ = _; simp only [decide_eq_false (show ¬ (((lifeR (allowedF R (rs ++ [mo])) k s).2) = (-1)) from (by omega)), decide_true, decide_false, Bool.not_true, Bool.not_false])), ?_⟩
       refine ⟨fun a w hA hS hd => by have e22 := has_ev (hd 22 (by decide)) rfl (fun _ h => h); have e25 := has_ev (hd 25 (by decide)) rfl (fun _ h => h); exact opG_yes rfl rfl e22 (dv (op_move rfl (tmp_ev e25)) hS rfl), ?_⟩
       refine ⟨fun a w hA hS hd => by have e26 := has_ev (hd 26 (by decide)) rfl (fun _ h => h); exact opG_yes rfl rfl e26 (dv (op_field rfl fd_42_1 (hA.ev rfl)) hS rfl), ?_⟩
       refine ⟨fun a w hA hS hd => by have e26 := has_ev (hd 26 (by decide)) rfl (fun _ h => h); have e27 := has_ev (hd 27 (by decide)) rfl (fun _ h => h); exact opG_yes rfl rfl e26 (dv (op_load1 rfl ty_3 (tmp_ev e27) (hS.bk 0 rfl) rfl) hS rfl), ?_⟩
       refine ⟨fun a w hA hS hd => by have e26 := has_ev (hd 26 (by decide)) rfl (fun _ h => h); exact opG_yes rfl rfl e26 (dv (op_field rfl fd_42_1 (hA.ev rfl)) hS rfl), ?_⟩
       refine ⟨fun a w hA hS hd => by have e26 := has_ev (hd 26 (by decide)) rfl (fun _ h => h); have e29 := has_ev (hd 29 (by decide)) rfl (fun _ h => h); exact opG_yes rfl rfl e26 (dv (op_load1 rfl ty_3 (tmp_ev e29) (hS.bk 3 rfl) rfl) hS rfl), ?_⟩
       refine ⟨fun a w hA hS hd => by have e26 := has_ev (hd 26 (by decide)) rfl (fun _ h => h); have e28 := has_ev (hd 28 (by decide)) rfl (fun _ h => h); have e30 := has_ev (hd 30 (by decide)) rfl (fun _ h => h); exact opG_yes rfl rfl e26 (dv (op_gtr rfl (tmp_ev e28) (tmp_ev e30)) hS (by show Value.bool _ = _; simp only [decide_eq_false (show ¬ (((lifeR (allowedF R rs) k s).2) < ((lifeR (allowedF R (rs ++ [mo])) k s).2)) from (by omega)), decide_true, decide_false, Bool.not_true, Bool.not_false])), ?_⟩
       refine ⟨fun a w hA hS hd => by have e22 := has_ev (hd 22 (by decide)) rfl (fun _ h => h); have e26 := has_ev (hd 26 (by decide)) rfl (fun _ h => h); have e31 := has_ev (hd 31 (by decide)) rfl (fun _ h => h); exact opG_yes rfl rfl e22 (dv (op_pick_f rfl (tmp_ev e26) (tmp_ev e31)) hS rfl), ?_⟩
       refine ⟨fun a w hA hS hd => by have e18 := has_ev (hd 18 (by decide)) rfl (fun _ h => h); have e22 := has_ev (hd 22 (by decide)) rfl (fun _ h => h); have e32 := has_ev (hd 32 (by decide)) rfl (fun _ h => h); exact opG_yes rfl rfl e18 (dv (op_pick_t rfl (tmp_ev e22) (tmp_ev e32)) hS rfl), ?_⟩
       refine ⟨fun a w hA hS hd => by have e18 := has_ev (hd 18 (by decide)) rfl (fun _ h => h); have e33 := has_ev (hd 33 (by decide)) rfl (fun _ h => h); exact opG_of rfl (dv (op_pick_f rfl (tmp_ev e18) (tmp_ev e33)) hS rfl), ?_⟩
       refine ⟨fun a w hA hS hd => by have e34 := has_ev (hd 34 (by decide)) rfl (fun _ h => h); exact opG_of rfl (dv (op_move rfl (tmp_ev e34)) hS rfl), ?_⟩
       refine ⟨fun a w hA hS hd => by have e35 := has_ev (hd 35 (by decide)) rfl (fun _ h => h); exact opG_yes rfl rfl e35 (dv (op_field rfl fd_42_0 (hA.ev rfl)) hS rfl), ?_⟩
       refine ⟨fun a w hA hS hd => by have e35 := has_ev (hd 35 (by decide)) rfl (fun _ h => h); have e36 := has_ev (hd 36 (by decide)) rfl (fun _ h => h); exact opG_yes rfl rfl e35 (dv (op_load1 rfl ty_3 (tmp_ev e36) (hS.bk 0 rfl) rfl) hS rfl), ?_⟩
       refine ⟨fun a w hA hS hd => by have e35 := has_ev (hd 35 (by decide)) rfl (fun _ h => h); have e37 := has_ev (hd 37 (by decide)) rfl (fun _ h => h); exact opG_yes rfl rfl e35 (dv (op_neq rfl (tmp_ev e37) (evc _ _)) hS (by show Value.bool _ = _; simp only [decide_eq_false hb619, decide_true, decide_false, Bool.not_true, Bool.not_false])), ?_⟩
       refine ⟨fun a w hA hS hd => by have e35 := has_ev (hd 35 (by decide)) rfl (fun _ h => h); have e38 := has_ev (hd 38 (by decide)) rfl (fun _ h => h); exact opG_yes rfl rfl e35 (dv (op_move rfl (tmp_ev e38)) hS rfl), ?_⟩
       refine ⟨fun a w hA hS hd => by have e39 := has_ev (hd 39 (by decide)) rfl (fun _ h => h); exact opG_yes rfl rfl e39 (dv (op_field rfl fd_42_0 (hA.ev rfl)) hS rfl), ?_⟩
       refine ⟨fun a w hA hS hd => by have e39 := has_ev (hd 39 (by decide)) rfl (fun _ h => h); have e40 := has_ev (hd 40 (by decide)) rfl (fun _ h => h); exact opG_yes rfl rfl e39 (dv (op_load1 rfl ty_3 (tmp_ev e40) (hS.bk 3 rfl) rfl) hS rfl), ?_⟩
       refine ⟨fun a w hA hS hd => by have e39 := has_ev (hd 39 (by decide)) rfl (fun _ h => h); have e41 := has_ev (hd 41 (by decide)) rfl (fun _ h => h); exact opG_yes rfl rfl e39 (dv (op_eql rfl (tmp_ev e41) (evc _ _)) hS (by show Value.bool _ = _; simp only [decide_eq_false (show ¬ (((lifeR (allowedF R rs) k s).1) = (-1)) from (by omega)), decide_true, decide_false, Bool.not_true, Bool.not_false])), ?_⟩
       refine ⟨fun a w hA hS hd => by have e39 := has_ev (hd 39 (by decide)) rfl (fun _ h => h); have e42 := has_ev (hd 42 (by decide)) rfl (fun _ h => h); exact opG_yes rfl rfl e39 (dv (op_move rfl (tmp_ev e42)) hS rfl), ?_⟩
       refine ⟨fun a w hA hS hd => by have e43 := has_ev (hd 43 (by decide)) rfl (fun _ h => h); exact opG_yes rfl rfl e43 (dv (op_field rfl fd_42_0 (hA.ev rfl)) hS rfl), ?_⟩
       refine ⟨fun a w hA hS hd => by have e43 := has_ev (hd 43 (by decide)) rfl (fun _ h => h); have e44 := has_ev (hd 44 (by decide)) rfl (fun _ h => h); exact opG_yes rfl rfl e43 (dv (op_load1 rfl ty_3 (tmp_ev e44) (hS.bk 0 rfl) rfl) hS rfl), ?_⟩
       refine ⟨fun a w hA hS hd => by have e43 := has_ev (hd 43 (by decide)) rfl (fun _ h => h); exact opG_yes rfl rfl e43 (dv (op_field rfl fd_42_0 (hA.ev rfl)) hS rfl), ?_⟩
       refine ⟨fun a w hA hS hd => by have e43 := has_ev (hd 43 (by decide)) rfl (fun _ h => h); have e46 := has_ev (hd 46 (by decide)) rfl (fun _ h => h); exact opG_yes rfl rfl e43 (dv (op_load1 rfl ty_3 (tmp_ev e46) (hS.bk 3 rfl) rfl) hS rfl), ?_⟩
       trivial
      intro a650 w651 hA652 hS653 hH654; clear hA648 hS550
      have hA655 := hA652.add (has_ev (hH654 35 (by decide)) rfl (fun _ h => h)); clear hA652
      have hA656 := hA655.add (has_ev (hH654 39 (by decide)) rfl (fun _ h => h)); clear hA655
      have hA657 := hA656.add (has_ev (hH654 43 (by decide)) rfl (fun _ h => h)); clear hA656
      have hA658 := hA657.add (has_ev (hH654 45 (by decide)) rfl (fun _ h => h)); clear hA657
      have hA659 := hA658.add (has_ev (hH654 47 (by decide)) rfl (fun _ h => h)); clear hA658
      clear hH654
      refine stg hA659 (op_lss rfl (hA659.ev rfl) (hA659.ev rfl)) rfl rfl rfl rfl (by decide) fun a660 hA661 => ?_; clear hA659 a650
      have hd662 : ¬ (((lifeR (allowedF R (rs ++ [mo])) k s).1) < ((lifeR (allowedF R rs) k s).1)) := (by omega)
      rw [decide_eq_false hd662] at hA661
      refine stg hA661 (op_pick_f rfl (hA661.ev rfl) (hA661.ev rfl)) rfl rfl rfl rfl (by decide) fun a663 hA664 => ?_; clear hA661 a660
      refine stg hA664 (op_pick_t rfl (hA664.ev rfl) (hA664.ev rfl)) rfl rfl rfl rfl (by decide) fun a665 hA666 => ?_; clear hA664 a663
      refine st hA666 (op_pick_f rfl (hA666.ev rfl) (hA666.ev rfl)) rfl rfl (by decide) fun a667 hA668 => ?_; clear hA666 a665
      refine wl_nil ?_
      refine then_n ?_
      refine c_false hA668 rfl ?_
      refine c_skip ?_
      refine blk_n ?_
      refine then_n ?_
      have hA669 := hA668.as [(26, (Value.int .i64 (k : Int))), (16, u163), (13, u125), (11, v27), (5, (bptr b4 0)), (1, vu), (4, (Value.int .u32 s))] rfl; clear hA668
      refine c_region ?_
      refine st hA669 (op_move rfl (hA669.ev rfl)) rfl rfl (by decide) fun a670 hA671 => ?_; clear hA669 a667
      refine st hA671 (op_add rfl (hA671.ev rfl) (evc _ _) (by omega) (by omega)) rfl rfl (by decide) fun a672 hA673 => ?_; clear hA671 a670
      refine st hA673 (op_assign rfl (hA673.ev rfl)) rfl rfl (by decide) fun a674 hA675 => ?_; clear hA673 a672
      refine wl_nil ?_
      have hS676 : Sep NoB w w651 [(blk b407 42 [(Value.int .i64 (stLo plan (leastR R (rs ++ [mo]) plan))), (Value.int .i64 (stHi plan (mostR R (rs ++ [mo]) plan)))]), (row v392 67 3 plan.length (trips plan)), (runsR true v382 lv383 (rs ++ [mo])), (row u374 42 2 R.length (pairs R)), (blk b358 42 [(Value.int .i64 (stLo plan (leastR R rs plan))), (Value.int .i64 (stHi plan (mostR R rs plan)))]), (row v343 67 3 plan.length (trips plan)), (runsR true v333 lv334 rs), (row u325 42 2 R.length (pairs R)), (row u201 42 2 R.length (pairs (ratesF R (rs ++ [(⟨mo.segs, 0, 10000000000⟩ : RunD)])))), (runsR true v194 lv195 (rs ++ [(⟨mo.segs, 0, 10000000000⟩ : RunD)])), (row u186 42 2 R.length (pairs R)), (row u163 42 2 R.length (pairs (ratesF R (rs ++ [mo])))), (runsR true v156 lv157 (rs ++ [mo])), (row u148 42 2 R.length (pairs R)), (row u125 42 2 R.length (pairs (ratesF R rs))), (runsR true v118 lv119 rs), (row u110 42 2 R.length (pairs R)), (runsR false v77 (lv ++ [um]) (rs ++ [(⟨mo.segs, 0, 10000000000⟩ : RunD)])), (runsR false v27 (lv ++ [um]) (rs ++ [mo])), (row (vs14 4) 54 3 1 [um, (Value.int .i64 mo.lo), (Value.int .i64 mo.hi)]), (blk b9 54 [um, (Value.int .i64 mo.lo), (Value.int .i64 mo.hi)]), (blk b4 24 [vr]), (sl um 3 mo.segs.length (trips mo.segs)), (sl vr 2 R.length (pairs R)), (runsR false vu lv rs), (sl vp 3 plan.length (trips plan))] := hS653.keep [6, 7, 8, 9, 10, 11, 12, 13, 14, 15, 16, 17, 18, 19, 20, 21, 22, 23, 24, 25, 26, 27, 28, 29, 30, 31] (by decide) _ rfl rfl; clear hS653
      exact then_n ⟨k + 1, ⟨hA675.as _ rfl, hS676, by omega⟩, by omega⟩
   ·skip
    rw [decide_eq_false hb461] at hA460
    refine c_false hA460 rfl ?_
    refine c_exit ?_
    refine then_exit ?_
    refine then_exit ?_
    refine blk_hit ?_
    refine then_n ?_
    refine c_seq ?_
    have hA677 := hA460.as [] rfl; clear hA460
    refine c_region ?_
    refine stw hA677 (op_call rfl en_17 ev0 (awake_ok _)) rfl rfl (by decide) ?_
    rintro a678 _ w680 ⟨rfl, hE681⟩ hA679; have hS682 := hS452.step hE681; clear hE681 hA677 hS452 a459
    refine st hA679 (op_assign rfl (hA679.ev rfl)) rfl rfl (by decide) fun a683 hA684 => ?_; clear hA679 a678
    refine wl_nil ?_
    refine then_n ?_
    refine c_ret ?_
    refine fin_run hA684 (.inl rfl) (run_results1 hA684 rfl (.tmp rfl)) ?_
    exact ⟨rfl, hS682.ext⟩
  ·skip
   rw [decide_eq_false hb273] at hA272
   refine stg hA272 (op_move rfl (hA272.ev rfl)) rfl rfl rfl rfl (by decide) fun a685 hA686 => ?_; clear hA272 a271
   refine stg hA686 (op_lenS rfl un_28 (hA686.ev rfl) (SlAt.of_row (hS200.ok_row 6 rfl))) rfl rfl rfl rfl (by decide) fun a687 hA688 => ?_; clear hA686 a685
   refine stg hA688 (op_field rfl fd_24_0 (hA688.ev rfl)) rfl rfl rfl rfl (by decide) fun a689 hA690 => ?_; clear hA688 a687
   refine stg hA690 (op_load1 rfl ty_22 (hA690.ev rfl) (hS200.bk 13 rfl) rfl) rfl rfl rfl rfl (by decide) fun a691 hA692 => ?_; clear hA690 a689
   refine stg hA692 (op_lenS rfl un_22 (hA692.ev rfl) (hS200.sk 15 rfl)) rfl rfl rfl rfl (by decide) fun a693 hA694 => ?_; clear hA692 a691
   refine stg hA694 (op_neq rfl (hA694.ev rfl) (hA694.ev rfl)) rfl rfl rfl rfl (by decide) fun a695 hA696 => ?_; clear hA694 a693
   have hd697 : (R.length : Int) = (R.length : Int) := rfl
   rw [decide_eq_true hd697] at hA696
   refine stg hA696 (op_pick_t rfl (hA696.ev rfl) (hA696.ev rfl)) rfl rfl rfl rfl (by decide) fun a698 hA699 => ?_; clear hA696 a695
   refine st hA699 (op_pick_f rfl (hA699.ev rfl) (hA699.ev rfl)) rfl rfl (by decide) fun a700 hA701 => ?_; clear hA699 a698
   refine st hA701 (op_move rfl (hA701.ev rfl)) rfl rfl (by decide) fun a702 hA703 => ?_; clear hA701 a700
   refine stg hA703 (op_move rfl (hA703.ev rfl)) rfl rfl rfl rfl (by decide) fun a704 hA705 => ?_; clear hA703 a702
   refine stg hA705 (op_eql rfl (hA705.ev rfl) (evc _ _)) rfl rfl rfl rfl (by decide) fun a706 hA707 => ?_; clear hA705 a704
   refine stg hA707 (op_move rfl (hA707.ev rfl)) rfl rfl rfl rfl (by decide) fun a708 hA709 => ?_; clear hA707 a706
   refine stg hA709 (op_move rfl (hA709.ev rfl)) rfl rfl rfl rfl (by decide) fun a710 hA711 => ?_; clear hA709 a708
   refine stg hA711 (op_lenS rfl un_28 (hA711.ev rfl) (SlAt.of_row (hS200.ok_row 3 rfl))) rfl rfl rfl rfl (by decide) fun a712 hA713 => ?_; clear hA711 a710
   refine stg hA713 (op_move rfl (hA713.ev rfl)) rfl rfl rfl rfl (by decide) fun a714 hA715 => ?_; clear hA713 a712
   refine stg hA715 (op_lenS rfl un_28 (hA715.ev rfl) (SlAt.of_row (hS200.ok_row 6 rfl))) rfl rfl rfl rfl (by decide) fun a716 hA717 => ?_; clear hA715 a714
   refine stg hA717 (op_neq rfl (hA717.ev rfl) (hA717.ev rfl)) rfl rfl rfl rfl (by decide) fun a718 hA719 => ?_; clear hA717 a716
   rw [decide_eq_true hd697] at hA719
   refine stg hA719 (op_pick_t rfl (hA719.ev rfl) (hA719.ev rfl)) rfl rfl rfl rfl (by decide) fun a720 hA721 => ?_; clear hA719 a718
   refine st hA721 (op_pick_f rfl (hA721.ev rfl) (hA721.ev rfl)) rfl rfl (by decide) fun a722 hA723 => ?_; clear hA721 a720
   refine wl_nil ?_
   refine then_n ?_
   refine c_false hA723 rfl ?_
   refine c_skip ?_
   refine then_n ?_
   refine c_seq ?_
   refine c_seq ?_
   have hA724 := hA723.as [(18, (Value.int .i64 0)), (16, u163), (13, u125), (11, v27), (5, (bptr b4 0)), (1, vu), (2, vp), (4, (Value.int .u32 s))] rfl; clear hA723
   refine c_region ?_
   refine st hA724 (op_move rfl (hA724.ev rfl)) rfl rfl (by decide) fun a725 hA726 => ?_; clear hA724 a722
   refine st hA726 (op_neq rfl (hA726.ev rfl) (evc _ _)) rfl rfl (by decide) fun a727 hA728 => ?_; clear hA726 a725
   refine wl_nil ?_
   refine then_n ?_
   refine c_false hA728 rfl ?_
   refine c_skip ?_
   refine then_n ?_
   refine c_seq ?_
   refine c_region ?_
   refine st hA728 (op_loadA rfl ty_24 (hA728.ev rfl) (hS200.bk 13 rfl) (l := [vr]) rfl rfl) rfl rfl (by decide) fun a729 hA730 => ?_; clear hA728 a727
   refine stw hA730 (op_call rfl en_19 (ev1 (hA730.ev rfl)) (Material_ok _ R _ (hS200.sk 15 rfl) hth.mat)) rfl rfl (by decide) ?_
   rintro a731 _ w733 ⟨u736, rfl, hT734⟩ hA732; have hS735 := hS200.callS hT734 rfl; clear hT734 hA730 hS200 a729
   refine st hA732 (op_move rfl (hA732.ev rfl)) rfl rfl (by decide) fun a737 hA738 => ?_; clear hA732 a731
   refine stw hA738 (op_call rfl en_20 (ev1 (hA738.ev rfl)) (Runs_ok _ rs _ _ (runs_at (hS735.ok 17 _ rfl)) h9 hth.segs)) rfl rfl (by decide) ?_
   rintro a739 v744 w741 ⟨lv745, hT742⟩ hA740; have hS743 := hS735.callS hT742 rfl; clear hT742 hA738 hS735 a737
   refine st hA740 (op_move rfl (hA740.ev rfl)) rfl rfl (by decide) fun a746 hA747 => ?_; clear hA740 a739
   refine stw hA747 (op_call rfl en_29 (ev1 (hA747.ev rfl)) (Plan_ok _ plan _ (hS743.sk 19 rfl) (by omega))) rfl rfl (by decide) ?_
   rintro a748 v754 w750 ⟨hE751, hO752⟩ hA749; have hS753 := hS743.new_row hE751 hO752; clear hE751 hO752 hA747 hS743 a746
   refine stw hA749 (op_call rfl en_28 (ev3 (hA749.ev rfl) (hA749.ev rfl) (hA749.ev rfl)) (stretch_fine R rs lv745 u736 v744 _ (SlAt.of_row (hS753.ok_row 2 rfl)) (runs_at (hS753.ok 1 _ rfl)) (by omega) (by omega) plan v754 (SlAt.of_row (hS753.ok_row 0 rfl)) (by omega) hc0)) rfl rfl (by decide) ?_
   rintro a755 _ w757 ⟨rfl, hE758⟩ hA756; have hS759 := hS753.step hE758; clear hE758 hA749 hS753 a748
   refine st hA756 (op_move rfl (hA756.ev rfl)) rfl rfl (by decide) fun a760 hA761 => ?_; clear hA756 a755
   refine st hA761 (op_extract rfl (hA761.ev rfl) rfl) rfl rfl (by decide) fun a762 hA763 => ?_; clear hA761 a760
   refine st hA763 (op_extract rfl (hA763.ev rfl) rfl) rfl rfl (by decide) fun a764 hA765 => ?_; clear hA763 a762
   refine stw hA765 (op_alloc hS759 rfl ze_42 (cs := [(Value.int .i64 0), (Value.int .i64 0)]) rfl) rfl rfl (by decide) ?_
   rintro a766 _ w768 ⟨b769, rfl, hS770⟩ hA767; clear hA765 hS759 a764
   refine sts hA767 (op_store hS770 rfl ty_42 (hA767.ev rfl) (hA767.ev rfl) (i := 0) rfl (vs := [(Value.int .i64 (stLo plan (leastR R rs plan))), (Value.int .i64 (stHi plan (mostR R rs plan)))]) rfl rfl rfl (Nat.le_of_ble_eq_true rfl)) rfl rfl ?_
   intro _ w771 hS772 hA773; clear hA767
   have hS774 : Sep NoB w w771 [(blk b769 42 [(Value.int .i64 (stLo plan (leastR R rs plan))), (Value.int .i64 (stHi plan (mostR R rs plan)))]), (row v754 67 3 plan.length (trips plan)), (runsR true v744 lv745 rs), (row u736 42 2 R.length (pairs R)), (row u201 42 2 R.length (pairs (ratesF R (rs ++ [(⟨mo.segs, 0, 10000000000⟩ : RunD)])))), (runsR true v194 lv195 (rs ++ [(⟨mo.segs, 0, 10000000000⟩ : RunD)])), (row u186 42 2 R.length (pairs R)), (row u163 42 2 R.length (pairs (ratesF R (rs ++ [mo])))), (runsR true v156 lv157 (rs ++ [mo])), (row u148 42 2 R.length (pairs R)), (row u125 42 2 R.length (pairs (ratesF R rs))), (runsR true v118 lv119 rs), (row u110 42 2 R.length (pairs R)), (runsR false v77 (lv ++ [um]) (rs ++ [(⟨mo.segs, 0, 10000000000⟩ : RunD)])), (runsR false v27 (lv ++ [um]) (rs ++ [mo])), (row (vs14 4) 54 3 1 [um, (Value.int .i64 mo.lo), (Value.int .i64 mo.hi)]), (blk b9 54 [um, (Value.int .i64 mo.lo), (Value.int .i64 mo.hi)]), (blk b4 24 [vr]), (sl um 3 mo.segs.length (trips mo.segs)), (sl vr 2 R.length (pairs R)), (runsR false vu lv rs), (sl vp 3 plan.length (trips plan))] := hS772; clear hS772 hS770
   refine st hA773 (op_assign rfl (hA773.ev rfl)) rfl rfl (by decide) fun a775 hA776 => ?_; clear hA773 a766
   refine wl_nil ?_
   refine then_n ?_
   refine c_seq ?_
   have hA777 := hA776.as [(23, (Value.int .i64 0)), (22, (bptr b769 0)), (16, u163), (13, u125), (11, v27), (5, (bptr b4 0)), (1, vu), (2, vp), (4, (Value.int .u32 s))] rfl; clear hA776
   refine c_region ?_
   refine st hA777 (op_loadA rfl ty_24 (hA777.ev rfl) (hS774.bk 17 rfl) (l := [vr]) rfl rfl) rfl rfl (by decide) fun a778 hA779 => ?_; clear hA777 a775
   refine stw hA779 (op_call rfl en_19 (ev1 (hA779.ev rfl)) (Material_ok _ R _ (hS774.sk 19 rfl) hth.mat)) rfl rfl (by decide) ?_
   rintro a780 _ w782 ⟨u785, rfl, hT783⟩ hA781; have hS784 := hS774.callS hT783 rfl; clear hT783 hA779 hS774 a778
   refine st hA781 (op_move rfl (hA781.ev rfl)) rfl rfl (by decide) fun a786 hA787 => ?_; clear hA781 a780
   refine stw hA787 (op_call rfl en_20 (ev1 (hA787.ev rfl)) (Runs_ok _ (rs ++ [mo]) _ _ (runs_at (hS784.ok 15 _ rfl)) h9x hth2.segs)) rfl rfl (by decide) ?_
   rintro a788 v793 w790 ⟨lv794, hT791⟩ hA789; have hS792 := hS784.callS hT791 rfl; clear hT791 hA787 hS784 a786
   refine st hA789 (op_move rfl (hA789.ev rfl)) rfl rfl (by decide) fun a795 hA796 => ?_; clear hA789 a788
   refine stw hA796 (op_call rfl en_29 (ev1 (hA796.ev rfl)) (Plan_ok _ plan _ (hS792.sk 23 rfl) (by omega))) rfl rfl (by decide) ?_
   rintro a797 v803 w799 ⟨hE800, hO801⟩ hA798; have hS802 := hS792.new_row hE800 hO801; clear hE800 hO801 hA796 hS792 a795
   refine stw hA798 (op_call rfl en_28 (ev3 (hA798.ev rfl) (hA798.ev rfl) (hA798.ev rfl)) (stretch_fine R (rs ++ [mo]) lv794 u785 v793 _ (SlAt.of_row (hS802.ok_row 2 rfl)) (runs_at (hS802.ok 1 _ rfl)) (by omega) (by omega) plan v803 (SlAt.of_row (hS802.ok_row 0 rfl)) (by omega) hc02)) rfl rfl (by decide) ?_
   rintro a804 _ w806 ⟨rfl, hE807⟩ hA805; have hS808 := hS802.step hE807; clear hE807 hA798 hS802 a797
   refine st hA805 (op_move rfl (hA805.ev rfl)) rfl rfl (by decide) fun a809 hA810 => ?_; clear hA805 a804
   refine st hA810 (op_extract rfl (hA810.ev rfl) rfl) rfl rfl (by decide) fun a811 hA812 => ?_; clear hA810 a809
   refine st hA812 (op_extract rfl (hA812.ev rfl) rfl) rfl rfl (by decide) fun a813 hA814 => ?_; clear hA812 a811
   refine stw hA814 (op_alloc hS808 rfl ze_42 (cs := [(Value.int .i64 0), (Value.int .i64 0)]) rfl) rfl rfl (by decide) ?_
   rintro a815 _ w817 ⟨b818, rfl, hS819⟩ hA816; clear hA814 hS808 a813
   refine sts hA816 (op_store hS819 rfl ty_42 (hA816.ev rfl) (hA816.ev rfl) (i := 0) rfl (vs := [(Value.int .i64 (stLo plan (leastR R (rs ++ [mo]) plan))), (Value.int .i64 (stHi plan (mostR R (rs ++ [mo]) plan)))]) rfl rfl rfl (Nat.le_of_ble_eq_true rfl)) rfl rfl ?_
   intro _ w820 hS821 hA822; clear hA816
   have hS823 : Sep NoB w w820 [(blk b818 42 [(Value.int .i64 (stLo plan (leastR R (rs ++ [mo]) plan))), (Value.int .i64 (stHi plan (mostR R (rs ++ [mo]) plan)))]), (row v803 67 3 plan.length (trips plan)), (runsR true v793 lv794 (rs ++ [mo])), (row u785 42 2 R.length (pairs R)), (blk b769 42 [(Value.int .i64 (stLo plan (leastR R rs plan))), (Value.int .i64 (stHi plan (mostR R rs plan)))]), (row v754 67 3 plan.length (trips plan)), (runsR true v744 lv745 rs), (row u736 42 2 R.length (pairs R)), (row u201 42 2 R.length (pairs (ratesF R (rs ++ [(⟨mo.segs, 0, 10000000000⟩ : RunD)])))), (runsR true v194 lv195 (rs ++ [(⟨mo.segs, 0, 10000000000⟩ : RunD)])), (row u186 42 2 R.length (pairs R)), (row u163 42 2 R.length (pairs (ratesF R (rs ++ [mo])))), (runsR true v156 lv157 (rs ++ [mo])), (row u148 42 2 R.length (pairs R)), (row u125 42 2 R.length (pairs (ratesF R rs))), (runsR true v118 lv119 rs), (row u110 42 2 R.length (pairs R)), (runsR false v77 (lv ++ [um]) (rs ++ [(⟨mo.segs, 0, 10000000000⟩ : RunD)])), (runsR false v27 (lv ++ [um]) (rs ++ [mo])), (row (vs14 4) 54 3 1 [um, (Value.int .i64 mo.lo), (Value.int .i64 mo.hi)]), (blk b9 54 [um, (Value.int .i64 mo.lo), (Value.int .i64 mo.hi)]), (blk b4 24 [vr]), (sl um 3 mo.segs.length (trips mo.segs)), (sl vr 2 R.length (pairs R)), (runsR false vu lv rs), (sl vp 3 plan.length (trips plan))] := hS821; clear hS821 hS819
   refine st hA822 (op_assign rfl (hA822.ev rfl)) rfl rfl (by decide) fun a824 hA825 => ?_; clear hA822 a815
   refine wl_nil ?_
   refine then_n ?_
   refine c_seq ?_
   refine c_seq ?_
   have hA826 := hA825.as [(25, (Value.int .i64 0)), (24, (bptr b818 0)), (23, (Value.int .i64 0)), (22, (bptr b769 0)), (16, u163), (13, u125), (11, v27), (5, (bptr b4 0)), (1, vu), (4, (Value.int .u32 s))] rfl; clear hA825
   refine c_region ?_
   refine st hA826 (op_move rfl (hA826.ev rfl)) rfl rfl (by decide) fun a827 hA828 => ?_; clear hA826 a824
   refine st hA828 (op_neq rfl (hA828.ev rfl) (evc _ _)) rfl rfl (by decide) fun a829 hA830 => ?_; clear hA828 a827
   refine st hA830 (op_move rfl (hA830.ev rfl)) rfl rfl (by decide) fun a831 hA832 => ?_; clear hA830 a829
   refine stg hA832 (op_move rfl (hA832.ev rfl)) rfl rfl rfl rfl (by decide) fun a833 hA834 => ?_; clear hA832 a831
   refine stg hA834 (op_neq rfl (hA834.ev rfl) (evc _ _)) rfl rfl rfl rfl (by decide) fun a835 hA836 => ?_; clear hA834 a833
   refine st hA836 (op_pick_f rfl (hA836.ev rfl) (hA836.ev rfl)) rfl rfl (by decide) fun a837 hA838 => ?_; clear hA836 a835
   refine st hA838 (op_move rfl (hA838.ev rfl)) rfl rfl (by decide) fun a839 hA840 => ?_; clear hA838 a837
   refine stg hA840 (op_loadA rfl ty_42 (hA840.ev rfl) (hS823.bk 0 rfl) (l := [(Value.int .i64 (stLo plan (leastR R (rs ++ [mo]) plan))), (Value.int .i64 (stHi plan (mostR R (rs ++ [mo]) plan)))]) rfl rfl) rfl rfl rfl rfl (by decide) fun a841 hA842 => ?_; clear hA840 a839
   refine stg hA842 (op_loadA rfl ty_42 (hA842.ev rfl) (hS823.bk 4 rfl) (l := [(Value.int .i64 (stLo plan (leastR R rs plan))), (Value.int .i64 (stHi plan (mostR R rs plan)))]) rfl rfl) rfl rfl rfl rfl (by decide) fun a843 hA844 => ?_; clear hA842 a841
   refine stwg hA844 (op_call rfl en_30 (ev2 (hA844.ev rfl) (hA844.ev rfl)) (inside_ok _ _ _ _ _)) rfl rfl rfl rfl (by decide) ?_
   rintro a845 _ w847 ⟨rfl, hE848⟩ hA846; have hS849 := hS823.step hE848; clear hE848 hA844 hS823 a843
   have hd850 : (decide ((stLo plan (leastR R rs plan)) ≤ (stLo plan (leastR R (rs ++ [mo]) plan))) && decide ((stHi plan (mostR R (rs ++ [mo]) plan)) ≤ (stHi plan (mostR R rs plan)))) = true := (by have hz_ := str_sub hal2 hsub plan; simp only [Bool.and_eq_true, decide_eq_true_eq]; exact hz_)
   rw [hd850] at hA846
   have hq851 := hd850; simp only [Bool.and_eq_true, Bool.and_eq_false_iff, decide_eq_true_eq, decide_eq_false_iff_not] at hq851
   refine stg hA846 (op_not rfl (hA846.ev rfl)) rfl rfl rfl rfl (by decide) fun a852 hA853 => ?_; clear hA846 a845
   refine st hA853 (op_pick_f rfl (hA853.ev rfl) (hA853.ev rfl)) rfl rfl (by decide) fun a854 hA855 => ?_; clear hA853 a852
   refine wl_nil ?_
   refine then_n ?_
   refine c_false hA855 rfl ?_
   refine c_skip ?_
   refine then_n ?_
   refine c_seq ?_
   refine c_seq ?_
   have hA856 := hA855.as [(16, u163), (13, u125), (11, v27), (5, (bptr b4 0)), (1, vu), (4, (Value.int .u32 s))] rfl; clear hA855
   refine c_region ?_
   refine st hA856 (op_assign rfl (evc _ _)) rfl rfl (by decide) fun a857 hA858 => ?_; clear hA856 a854
   refine wl_nil ?_
   refine then_n ?_
   refine c_block ?_
   have hA859 := hA858.as [(26, (Value.int .i64 0)), (16, u163), (13, u125), (11, v27), (5, (bptr b4 0)), (1, vu), (4, (Value.int .u32 s))] rfl; clear hA858
   refine c_loop (G := Nat) (fun (k : Nat) a_ w_ => Fr 252 [] [(26, (Value.int .i64 (k : Int))), (16, u163), (13, u125), (11, v27), (5, (bptr b4 0)), (1, vu), (4, (Value.int .u32 s))] a_ ∧ Sep NoB w w_ [(blk b818 42 [(Value.int .i64 (stLo plan (leastR R (rs ++ [mo]) plan))), (Value.int .i64 (stHi plan (mostR R (rs ++ [mo]) plan)))]), (row v803 67 3 plan.length (trips plan)), (runsR true v793 lv794 (rs ++ [mo])), (row u785 42 2 R.length (pairs R)), (blk b769 42 [(Value.int .i64 (stLo plan (leastR R rs plan))), (Value.int .i64 (stHi plan (mostR R rs plan)))]), (row v754 67 3 plan.length (trips plan)), (runsR true v744 lv745 rs), (row u736 42 2 R.length (pairs R)), (row u201 42 2 R.length (pairs (ratesF R (rs ++ [(⟨mo.segs, 0, 10000000000⟩ : RunD)])))), (runsR true v194 lv195 (rs ++ [(⟨mo.segs, 0, 10000000000⟩ : RunD)])), (row u186 42 2 R.length (pairs R)), (row u163 42 2 R.length (pairs (ratesF R (rs ++ [mo])))), (runsR true v156 lv157 (rs ++ [mo])), (row u148 42 2 R.length (pairs R)), (row u125 42 2 R.length (pairs (ratesF R rs))), (runsR true v118 lv119 rs), (row u110 42 2 R.length (pairs R)), (runsR false v77 (lv ++ [um]) (rs ++ [(⟨mo.segs, 0, 10000000000⟩ : RunD)])), (runsR false v27 (lv ++ [um]) (rs ++ [mo])), (row (vs14 4) 54 3 1 [um, (Value.int .i64 mo.lo), (Value.int .i64 mo.hi)]), (blk b9 54 [um, (Value.int .i64 mo.lo), (Value.int .i64 mo.hi)]), (blk b4 24 [vr]), (sl um 3 mo.segs.length (trips mo.segs)), (sl vr 2 R.length (pairs R)), (runsR false vu lv rs), (sl vp 3 plan.length (trips plan))] ∧ (k ≤ R.length)) (fun k => R.length - k) 0 ⟨hA859.as _ rfl, hS849, by omega⟩ ?_
   clear hA859 hS849 a857
   rintro k a860 w862 ⟨hA861, hS863, hk⟩
   refine c_seq ?_
   refine c_seq ?_
   refine c_region ?_
   refine st hA861 (op_move rfl (hA861.ev rfl)) rfl rfl (by decide) fun a864 hA865 => ?_; clear hA861 a860
   refine st hA865 (op_move rfl (hA865.ev rfl)) rfl rfl (by decide) fun a866 hA867 => ?_; clear hA865 a864
   refine st hA867 (op_lenS rfl un_28 (hA867.ev rfl) (SlAt.of_row (hS863.ok_row 11 rfl))) rfl rfl (by decide) fun a868 hA869 => ?_; clear hA867 a866
   refine st hA869 (op_lss rfl (hA869.ev rfl) (hA869.ev rfl)) rfl rfl (by decide) fun a870 hA871 => ?_; clear hA869 a868
   refine wl_nil ?_
   refine then_n ?_
   by_cases hb872 : (k : Int) < (R.length : Int)
   ·skip
    rw [decide_eq_true hb872] at hA871
    have hls := life_two (b := k) hR hal2 hsub hS_
    refine c_true hA871 rfl ?_
    refine c_skip ?_
    refine then_n ?_
    refine c_seq ?_
    refine c_block ?_
    refine c_seq ?_
    refine c_region ?_
    refine st hA871 (op_loadA rfl ty_24 (hA871.ev rfl) (hS863.bk 21 rfl) (l := [vr]) rfl rfl) rfl rfl (by decide) fun a873 hA874 => ?_; clear hA871 a870
    refine stw hA874 (op_call rfl en_19 (ev1 (hA874.ev rfl)) (Material_ok _ R _ (hS863.sk 23 rfl) hth.mat)) rfl rfl (by decide) ?_
    rintro a875 _ w877 ⟨u880, rfl, hT878⟩ hA876; have hS879 := hS863.callS hT878 rfl; clear hT878 hA874 hS863 a873
    refine st hA876 (op_move rfl (hA876.ev rfl)) rfl rfl (by decide) fun a881 hA882 => ?_; clear hA876 a875
    refine stw hA882 (op_call rfl en_20 (ev1 (hA882.ev rfl)) (Runs_ok _ rs _ _ (runs_at (hS879.ok 25 _ rfl)) h9 hth.segs)) rfl rfl (by decide) ?_
    rintro a883 v888 w885 ⟨lv889, hT886⟩ hA884; have hS887 := hS879.callS hT886 rfl; clear hT886 hA882 hS879 a881
    refine st hA884 (op_move rfl (hA884.ev rfl)) rfl rfl (by decide) fun a890 hA891 => ?_; clear hA884 a883
    refine st hA891 (op_move rfl (hA891.ev rfl)) rfl rfl (by decide) fun a892 hA893 => ?_; clear hA891 a890
    refine st hA893 (op_conv un_61 un_3 rfl (hA893.ev rfl) (v := s) (wrap_i64 (by omega) (by omega))) rfl rfl (by decide) fun a894 hA895 => ?_; clear hA893 a892
    refine stw hA895 (op_call rfl en_23 (ev4 (hA895.ev rfl) (hA895.ev rfl) (hA895.ev rfl) (hA895.ev rfl)) (life_fine R rs lv889 u880 v888 _ (SlAt.of_row (hS887.ok_row 1 rfl)) (runs_at (hS887.ok 0 _ rfl)) (by omega) (by omega) (k : Int) s (life_0 hc (by omega)))) rfl rfl (by decide) ?_
    rintro a896 _ w898 ⟨rfl, hE899⟩ hA897; have hS900 := hS887.step hE899; clear hE899 hA895 hS887 a894
    simp only [Int.toNat_natCast] at hA897
    refine st hA897 (op_move rfl (hA897.ev rfl)) rfl rfl (by decide) fun a901 hA902 => ?_; clear hA897 a896
    refine st hA902 (op_extract rfl (hA902.ev rfl) rfl) rfl rfl (by decide) fun a903 hA904 => ?_; clear hA902 a901
    refine st hA904 (op_extract rfl (hA904.ev rfl) rfl) rfl rfl (by decide) fun a905 hA906 => ?_; clear hA904 a903
    refine stw hA906 (op_alloc hS900 rfl ze_42 (cs := [(Value.int .i64 0), (Value.int .i64 0)]) rfl) rfl rfl (by decide) ?_
    rintro a907 _ w909 ⟨b910, rfl, hS911⟩ hA908; clear hA906 hS900 a905
    refine sts hA908 (op_store hS911 rfl ty_42 (hA908.ev rfl) (hA908.ev rfl) (i := 0) rfl (vs := [(Value.int .i64 ((lifeR (allowedF R rs) k s).1)), (Value.int .i64 ((lifeR (allowedF R rs) k s).2))]) rfl rfl rfl (Nat.le_of_ble_eq_true rfl)) rfl rfl ?_
    intro _ w912 hS913 hA914; clear hA908
    have hS915 : Sep NoB w w912 [(blk b910 42 [(Value.int .i64 ((lifeR (allowedF R rs) k s).1)), (Value.int .i64 ((lifeR (allowedF R rs) k s).2))]), (runsR true v888 lv889 rs), (row u880 42 2 R.length (pairs R)), (blk b818 42 [(Value.int .i64 (stLo plan (leastR R (rs ++ [mo]) plan))), (Value.int .i64 (stHi plan (mostR R (rs ++ [mo]) plan)))]), (row v803 67 3 plan.length (trips plan)), (runsR true v793 lv794 (rs ++ [mo])), (row u785 42 2 R.length (pairs R)), (blk b769 42 [(Value.int .i64 (stLo plan (leastR R rs plan))), (Value.int .i64 (stHi plan (mostR R rs plan)))]), (row v754 67 3 plan.length (trips plan)), (runsR true v744 lv745 rs), (row u736 42 2 R.length (pairs R)), (row u201 42 2 R.length (pairs (ratesF R (rs ++ [(⟨mo.segs, 0, 10000000000⟩ : RunD)])))), (runsR true v194 lv195 (rs ++ [(⟨mo.segs, 0, 10000000000⟩ : RunD)])), (row u186 42 2 R.length (pairs R)), (row u163 42 2 R.length (pairs (ratesF R (rs ++ [mo])))), (runsR true v156 lv157 (rs ++ [mo])), (row u148 42 2 R.length (pairs R)), (row u125 42 2 R.length (pairs (ratesF R rs))), (runsR true v118 lv119 rs), (row u110 42 2 R.length (pairs R)), (runsR false v77 (lv ++ [um]) (rs ++ [(⟨mo.segs, 0, 10000000000⟩ : RunD)])), (runsR false v27 (lv ++ [um]) (rs ++ [mo])), (row (vs14 4) 54 3 1 [um, (Value.int .i64 mo.lo), (Value.int .i64 mo.hi)]), (blk b9 54 [um, (Value.int .i64 mo.lo), (Value.int .i64 mo.hi)]), (blk b4 24 [vr]), (sl um 3 mo.segs.length (trips mo.segs)), (sl vr 2 R.length (pairs R)), (runsR false vu lv rs), (sl vp 3 plan.length (trips plan))] := hS913; clear hS913 hS911
    refine st hA914 (op_assign rfl (hA914.ev rfl)) rfl rfl (by decide) fun a916 hA917 => ?_; clear hA914 a907
    refine wl_nil ?_
    refine then_n ?_
    refine c_seq ?_
    have hA918 := hA917.as [(28, (Value.int .i64 0)), (27, (bptr b910 0)), (26, (Value.int .i64 (k : Int))), (16, u163), (13, u125), (11, v27), (5, (bptr b4 0)), (1, vu), (4, (Value.int .u32 s))] rfl; clear hA917
    refine c_region ?_
    refine st hA918 (op_loadA rfl ty_24 (hA918.ev rfl) (hS915.bk 24 rfl) (l := [vr]) rfl rfl) rfl rfl (by decide) fun a919 hA920 => ?_; clear hA918 a916
    refine stw hA920 (op_call rfl en_19 (ev1 (hA920.ev rfl)) (Material_ok _ R _ (hS915.sk 26 rfl) hth.mat)) rfl rfl (by decide) ?_
    rintro a921 _ w923 ⟨u926, rfl, hT924⟩ hA922; have hS925 := hS915.callS hT924 rfl; clear hT924 hA920 hS915 a919
    refine st hA922 (op_move rfl (hA922.ev rfl)) rfl rfl (by decide) fun a927 hA928 => ?_; clear hA922 a921
    refine stw hA928 (op_call rfl en_20 (ev1 (hA928.ev rfl)) (Runs_ok _ (rs ++ [mo]) _ _ (runs_at (hS925.ok 22 _ rfl)) h9x hth2.segs)) rfl rfl (by decide) ?_
    rintro a929 v934 w931 ⟨lv935, hT932⟩ hA930; have hS933 := hS925.callS hT932 rfl; clear hT932 hA928 hS925 a927
    refine st hA930 (op_move rfl (hA930.ev rfl)) rfl rfl (by decide) fun a936 hA937 => ?_; clear hA930 a929
    refine st hA937 (op_move rfl (hA937.ev rfl)) rfl rfl (by decide) fun a938 hA939 => ?_; clear hA937 a936
    refine st hA939 (op_conv un_61 un_3 rfl (hA939.ev rfl) (v := s) (wrap_i64 (by omega) (by omega))) rfl rfl (by decide) fun a940 hA941 => ?_; clear hA939 a938
    refine stw hA941 (op_call rfl en_23 (ev4 (hA941.ev rfl) (hA941.ev rfl) (hA941.ev rfl) (hA941.ev rfl)) (life_fine R (rs ++ [mo]) lv935 u926 v934 _ (SlAt.of_row (hS933.ok_row 1 rfl)) (runs_at (hS933.ok 0 _ rfl)) (by omega) (by omega) (k : Int) s (life_0 hc2 (by omega)))) rfl rfl (by decide) ?_
    rintro a942 _ w944 ⟨rfl, hE945⟩ hA943; have hS946 := hS933.step hE945; clear hE945 hA941 hS933 a940
    simp only [Int.toNat_natCast] at hA943
    refine st hA943 (op_move rfl (hA943.ev rfl)) rfl rfl (by decide) fun a947 hA948 => ?_; clear hA943 a942
    refine st hA948 (op_extract rfl (hA948.ev rfl) rfl) rfl rfl (by decide) fun a949 hA950 => ?_; clear hA948 a947
    refine st hA950 (op_extract rfl (hA950.ev rfl) rfl) rfl rfl (by decide) fun a951 hA952 => ?_; clear hA950 a949
    refine stw hA952 (op_alloc hS946 rfl ze_42 (cs := [(Value.int .i64 0), (Value.int .i64 0)]) rfl) rfl rfl (by decide) ?_
    rintro a953 _ w955 ⟨b956, rfl, hS957⟩ hA954; clear hA952 hS946 a951
    refine sts hA954 (op_store hS957 rfl ty_42 (hA954.ev rfl) (hA954.ev rfl) (i := 0) rfl (vs := [(Value.int .i64 ((lifeR (allowedF R (rs ++ [mo])) k s).1)), (Value.int .i64 ((lifeR (allowedF R (rs ++ [mo])) k s).2))]) rfl rfl rfl (Nat.le_of_ble_eq_true rfl)) rfl rfl ?_
    intro _ w958 hS959 hA960; clear hA954
    have hS961 : Sep NoB w w958 [(blk b956 42 [(Value.int .i64 ((lifeR (allowedF R (rs ++ [mo])) k s).1)), (Value.int .i64 ((lifeR (allowedF R (rs ++ [mo])) k s).2))]), (runsR true v934 lv935 (rs ++ [mo])), (row u926 42 2 R.length (pairs R)), (blk b910 42 [(Value.int .i64 ((lifeR (allowedF R rs) k s).1)), (Value.int .i64 ((lifeR (allowedF R rs) k s).2))]), (runsR true v888 lv889 rs), (row u880 42 2 R.length (pairs R)), (blk b818 42 [(Value.int .i64 (stLo plan (leastR R (rs ++ [mo]) plan))), (Value.int .i64 (stHi plan (mostR R (rs ++ [mo]) plan)))]), (row v803 67 3 plan.length (trips plan)), (runsR true v793 lv794 (rs ++ [mo])), (row u785 42 2 R.length (pairs R)), (blk b769 42 [(Value.int .i64 (stLo plan (leastR R rs plan))), (Value.int .i64 (stHi plan (mostR R rs plan)))]), (row v754 67 3 plan.length (trips plan)), (runsR true v744 lv745 rs), (row u736 42 2 R.length (pairs R)), (row u201 42 2 R.length (pairs (ratesF R (rs ++ [(⟨mo.segs, 0, 10000000000⟩ : RunD)])))), (runsR true v194 lv195 (rs ++ [(⟨mo.segs, 0, 10000000000⟩ : RunD)])), (row u186 42 2 R.length (pairs R)), (row u163 42 2 R.length (pairs (ratesF R (rs ++ [mo])))), (runsR true v156 lv157 (rs ++ [mo])), (row u148 42 2 R.length (pairs R)), (row u125 42 2 R.length (pairs (ratesF R rs))), (runsR true v118 lv119 rs), (row u110 42 2 R.length (pairs R)), (runsR false v77 (lv ++ [um]) (rs ++ [(⟨mo.segs, 0, 10000000000⟩ : RunD)])), (runsR false v27 (lv ++ [um]) (rs ++ [mo])), (row (vs14 4) 54 3 1 [um, (Value.int .i64 mo.lo), (Value.int .i64 mo.hi)]), (blk b9 54 [um, (Value.int .i64 mo.lo), (Value.int .i64 mo.hi)]), (blk b4 24 [vr]), (sl um 3 mo.segs.length (trips mo.segs)), (sl vr 2 R.length (pairs R)), (runsR false vu lv rs), (sl vp 3 plan.length (trips plan))] := hS959; clear hS959 hS957
    refine st hA960 (op_assign rfl (hA960.ev rfl)) rfl rfl (by decide) fun a962 hA963 => ?_; clear hA960 a953
    refine wl_nil ?_
    refine then_n ?_
    refine c_seq ?_
    have hA964 := hA963.as [(30, (Value.int .i64 0)), (29, (bptr b956 0)), (28, (Value.int .i64 0)), (27, (bptr b910 0)), (26, (Value.int .i64 (k : Int))), (16, u163), (13, u125), (11, v27), (5, (bptr b4 0)), (1, vu), (4, (Value.int .u32 s))] rfl; clear hA963
    have hA965 := hA964.as [(30, (Value.int .i64 0)), (29, (bptr b956 0)), (28, (Value.int .i64 0)), (27, (bptr b910 0)), (26, (Value.int .i64 (k : Int))), (16, u163), (13, u125), (11, v27), (5, (bptr b4 0)), (1, vu), (4, (Value.int .u32 s))] rfl; clear hA964
    by_cases hb967 : ((lifeR (allowedF R rs) k s).2) = (-1)
    ·skip
     have hA968 := hA965.as [(30, (Value.int .i64 0)), (29, (bptr b956 0)), (28, (Value.int .i64 0)), (27, (bptr b910 0)), (26, (Value.int .i64 (k : Int))), (16, u163), (13, u125), (11, v27), (5, (bptr b4 0)), (1, vu), (4, (Value.int .u32 s))] rfl; clear hA965
     by_cases hb970 : ((lifeR (allowedF R (rs ++ [mo])) k s).1) = (-1)
     ·skip
      have hA971 := hA968.as [(30, (Value.int .i64 0)), (29, (bptr b956 0)), (28, (Value.int .i64 0)), (27, (bptr b910 0)), (26, (Value.int .i64 (k : Int))), (16, u163), (13, u125), (11, v27), (5, (bptr b4 0)), (1, vu), (4, (Value.int .u32 s))] rfl; clear hA968
      refine c_drawn mixed hA971 hS961 48 [[], [], [0, 1], [2], [], [], [4, 5], [6], [3, 7], [8], [9], [10], [10, 11], [10, 12], [13], [14], [14, 15], [14, 16], [17], [18], [18, 19], [18, 20], [18, 21], [22], [22, 23], [22, 24], [22, 25], [26], [26, 27], [26], [26, 29], [26, 28, 30], [22, 26, 31], [18, 22, 32], [18, 33], [34], [35], [35, 36], [35, 37], [35, 38], [39], [39, 40], [39, 41], [39, 42], [43], [43, 44], [43], [43, 46]] [(Yd.val u163), (Yd.val (Value.int .i64 (k : Int))), (Yd.val (eptr u163 (k * 2))), (Yd.val (Value.agg #[(Value.int .i64 (((ratesF R (rs ++ [mo])).getD k (0, 0)).1)), (Value.int .i64 (((ratesF R (rs ++ [mo])).getD k (0, 0)).2))])), (Yd.val u125), (Yd.val (Value.int .i64 (k : Int))), (Yd.val (eptr u125 (k * 2))), (Yd.val (Value.agg #[(Value.int .i64 (((ratesF R rs).getD k (0, 0)).1)), (Value.int .i64 (((ratesF R rs).getD k (0, 0)).2))])), (Yd.val (Value.bool true)), (Yd.val (Value.bool (!true))), (Yd.val (Value.bool (!true))), (Yd.val (Value.int .i64 0)), (Yd.val (Value.bool false)), (Yd.val (Value.bool false)), (Yd.val (Value.bool false)), (Yd.val (Value.int .i64 0)), (Yd.val (Value.bool false)), (Yd.val (Value.bool false)), (Yd.val (Value.bool false)), (Yd.val (bptr b910 1)), (Yd.val (Value.int .i64 ((lifeR (allowedF R rs) k s).2))), (Yd.val (Value.bool (!true))), (Yd.val (Value.bool (!true))), (Yd.val undef), (Yd.val undef), (Yd.val undef), (Yd.val undef), (Yd.val undef), (Yd.val undef), (Yd.val undef), (Yd.val undef), (Yd.val undef), (Yd.val undef), (Yd.val (Value.bool false)), (Yd.val (Value.bool false)), (Yd.val (Value.bool false)), (Yd.val (bptr b956 0)), (Yd.val (Value.int .i64 ((lifeR (allowedF R (rs ++ [mo])) k s).1))), (Yd.val (Value.bool (!true))), (Yd.val (Value.bool (!true))), (Yd.val undef), (Yd.val undef), (Yd.val undef), (Yd.val undef), (Yd.val undef), (Yd.val undef), (Yd.val undef), (Yd.val undef)] (by decide +kernel) rfl rfl ?_ ?_
      ·skip
       refine ⟨fun a w hA hS hd => by exact opG_of rfl (dv (op_move rfl (hA.ev rfl)) hS rfl), ?_⟩
       refine ⟨fun a w hA hS hd => by exact opG_of rfl (dv (op_move rfl (hA.ev rfl)) hS rfl), ?_⟩
       refine ⟨fun a w hA hS hd => by have e0 := has_ev (hd 0 (by decide)) rfl (fun _ h => h); have e1 := has_ev (hd 1 (by decide)) rfl (fun _ h => h); exact opG_of rfl (dv (op_indexS rfl un_28 ty_42 (tmp_ev e0) (i := k) (tmp_ev e1) (SlAt.of_row (hS.ok_row 17 rfl)) (by decide) (by omega)) hS rfl), ?_⟩
       refine ⟨fun a w hA hS hd => by have e2 := has_ev (hd 2 (by decide)) rfl (fun _ h => h); exact opG_of rfl (dv (op_loadAE rfl ty_42 (tmp_ev e2) (SlAt.of_row (hS.ok_row 17 rfl)) (pairs_all (by omega)) rfl (by decide)) hS rfl), ?_⟩
       refine ⟨fun a w hA hS hd => by exact opG_of rfl (dv (op_move rfl (hA.ev rfl)) hS rfl), ?_⟩
       refine ⟨fun a w hA hS hd => by exact opG_of rfl (dv (op_move rfl (hA.ev rfl)) hS rfl), ?_⟩
       refine ⟨fun a w hA hS hd => by have e4 := has_ev (hd 4 (by decide)) rfl (fun _ h => h); have e5 := has_ev (hd 5 (by decide)) rfl (fun _ h => h); exact opG_of rfl (dv (op_indexS rfl un_28 ty_42 (tmp_ev e4) (i := k) (tmp_ev e5) (SlAt.of_row (hS.ok_row 20 rfl)) (by decide) (by omega)) hS rfl), ?_⟩
       refine ⟨fun a w hA hS hd => by have e6 := has_ev (hd 6 (by decide)) rfl (fun _ h => h); exact opG_of rfl (dv (op_loadAE rfl ty_42 (tmp_ev e6) (SlAt.of_row (hS.ok_row 20 rfl)) (pairs_all (by omega)) rfl (by decide)) hS rfl), ?_⟩
       refine ⟨fun a w hA hS hd => by have e3 := has_ev (hd 3 (by decide)) rfl (fun _ h => h); have e7 := has_ev (hd 7 (by decide)) rfl (fun _ h => h); exact opG_of rfl (dx (op_call rfl en_30 (ev2 (tmp_ev e3) (tmp_ev e7)) (inside_ok _ _ _ _ _)) hS (fun _ => (by show Value.bool _ = _; simp only [(show (decide ((((ratesF R rs).getD k (0, 0)).1) ≤ (((ratesF R (rs ++ [mo])).getD k (0, 0)).1)) && decide ((((ratesF R (rs ++ [mo])).getD k (0, 0)).2) ≤ (((ratesF R rs).getD k (0, 0)).2))) = true from (by have hz_ := rates_sub (b := k) hal2 hsub (by omega); simp only [Bool.and_eq_true, decide_eq_true_eq]; exact hz_)), decide_true, decide_false, Bool.not_true, Bool.not_false]))), ?_⟩
       refine ⟨fun a w hA hS hd => by have e8 := has_ev (hd 8 (by decide)) rfl (fun _ h => h); exact opG_of rfl (dv (op_not rfl (tmp_ev e8)) hS rfl), ?_⟩
       refine ⟨fun a w hA hS hd => by have e9 := has_ev (hd 9 (by decide)) rfl (fun _ h => h); exact opG_of rfl (dv (op_move rfl (tmp_ev e9)) hS rfl), ?_⟩
       refine ⟨fun a w hA hS hd => by have e10 := has_ev (hd 10 (by decide)) rfl (fun _ h => h); exact opG_yes rfl rfl e10 (dv (op_move rfl (hA.ev rfl)) hS rfl), ?_⟩
       refine ⟨fun a w hA hS hd => by have e10 := has_ev (hd 10 (by decide)) rfl (fun _ h => h); have e11 := has_ev (hd 11 (by decide)) rfl (fun _ h => h); exact opG_yes rfl rfl e10 (dv (op_neq rfl (tmp_ev e11) (evc _ _)) hS rfl), ?_⟩
       refine ⟨fun a w hA hS hd => by have e10 := has_ev (hd 10 (by decide)) rfl (fun _ h => h); have e12 := has_ev (hd 12 (by decide)) rfl (fun _ h => h); exact opG_of rfl (dv (op_pick_f rfl (tmp_ev e10) (tmp_ev e12)) hS rfl), ?_⟩
       refine ⟨fun a w hA hS hd => by have e13 := has_ev (hd 13 (by decide)) rfl (fun _ h => h); exact opG_of rfl (dv (op_move rfl (tmp_ev e13)) hS rfl), ?_⟩
       refine ⟨fun a w hA hS hd => by have e14 := has_ev (hd 14 (by decide)) rfl (fun _ h => h); exact opG_yes rfl rfl e14 (dv (op_move rfl (hA.ev rfl)) hS rfl), ?_⟩
       refine ⟨fun a w hA hS hd => by have e14 := has_ev (hd 14 (by decide)) rfl (fun _ h => h); have e15 := has_ev (hd 15 (by decide)) rfl (fun _ h => h); exact opG_yes rfl rfl e14 (dv (op_neq rfl (tmp_ev e15) (evc _ _)) hS rfl), ?_⟩
       refine ⟨fun a w hA hS hd => by have e14 := has_ev (hd 14 (by decide)) rfl (fun _ h => h); have e16 := has_ev (hd 16 (by decide)) rfl (fun _ h => h); exact opG_of rfl (dv (op_pick_f rfl (tmp_ev e14) (tmp_ev e16)) hS rfl), ?_⟩
       refine ⟨fun a w hA hS hd => by have e17 := has_ev (hd 17 (by decide)) rfl (fun _ h => h); exact opG_of rfl (dv (op_move rfl (tmp_ev e17)) hS rfl), ?_⟩
       refine ⟨fun a w hA hS hd => by have e18 := has_ev (hd 18 (by decide)) rfl (fun _ h => h); exact opG_yes rfl rfl e18 (dv (op_field rfl fd_42_1 (hA.ev rfl)) hS rfl), ?_⟩
       refine ⟨fun a w hA hS hd => by have e18 := has_ev (hd 18 (by decide)) rfl (fun _ h => h); have e19 := has_ev (hd 19 (by decide)) rfl (fun _ h => h); exact opG_yes rfl rfl e18 (dv (op_load1 rfl ty_3 (tmp_ev e19) (hS.bk 3 rfl) rfl) hS rfl), ?_⟩
       refine ⟨fun a w hA hS hd => by have e18 := has_ev (hd 18 (by decide)) rfl (fun _ h => h); have e20 := has_ev (hd 20 (by decide)) rfl (fun _ h => h); exact opG_yes rfl rfl e18 (dv (op_neq rfl (tmp_ev e20) (evc _ _)) hS (by show Value.bool _ = _; simp only [decide_eq_true hb967, decide_true, decide_false, Bool.not_true, Bool.not_false])), ?_⟩
       refine ⟨fun a w hA hS hd => by have e18 := has_ev (hd 18 (by decide)) rfl (fun _ h => h); have e21 := has_ev (hd 21 (by decide)) rfl (fun _ h => h); exact opG_yes rfl rfl e18 (dv (op_move rfl (tmp_ev e21)) hS rfl), ?_⟩
       refine ⟨fun a w hA hS hd => by have e22 := has_ev (hd 22 (by decide)) rfl (fun _ h => h); exact opG_no rfl rfl e22 rfl (dskip hS rfl), ?_⟩
       refine ⟨fun a w hA hS hd => by have e22 := has_ev (hd 22 (by decide)) rfl (fun _ h => h); have e23 := has_ev (hd 23 (by decide)) rfl (fun _ h => h); exact opG_no rfl rfl e22 rfl (dskip hS rfl), ?_⟩
       refine ⟨fun a w hA hS hd => by have e22 := has_ev (hd 22 (by decide)) rfl (fun _ h => h); have e24 := has_ev (hd 24 (by decide)) rfl (fun _ h => h); exact opG_no rfl rfl e22 rfl (dskip hS rfl), ?_⟩
       refine ⟨fun a w hA hS hd => by have e22 := has_ev (hd 22 (by decide)) rfl (fun _ h => h); have e25 := has_ev (hd 25 (by decide)) rfl (fun _ h => h); exact opG_no rfl rfl e22 rfl (dskip hS rfl), ?_⟩
       refine ⟨fun a w hA hS hd => by have e26 := has_ev (hd 26 (by decide)) rfl (fun _ h => h); exact opG_noU rfl rfl e26 (dskip hS rfl), ?_⟩
       refine ⟨fun a w hA hS hd => by have e26 := has_ev (hd 26 (by decide)) rfl (fun _ h => h); have e27 := has_ev (hd 27 (by decide)) rfl (fun _ h => h); exact opG_noU rfl rfl e26 (dskip hS rfl), ?_⟩
       refine ⟨fun a w hA hS hd => by have e26 := has_ev (hd 26 (by decide)) rfl (fun _ h => h); exact opG_noU rfl rfl e26 (dskip hS rfl), ?_⟩
       refine ⟨fun a w hA hS hd => by have e26 := has_ev (hd 26 (by decide)) rfl (fun _ h => h); have e29 := has_ev (hd 29 (by decide)) rfl (fun _ h => h); exact opG_noU rfl rfl e26 (dskip hS rfl), ?_⟩
       refine ⟨fun a w hA hS hd => by have e26 := has_ev (hd 26 (by decide)) rfl (fun _ h => h); have e28 := has_ev (hd 28 (by decide)) rfl (fun _ h => h); have e30 := has_ev (hd 30 (by decide)) rfl (fun _ h => h); exact opG_noU rfl rfl e26 (dskip hS rfl), ?_⟩
       refine ⟨fun a w hA hS hd => by have e22 := has_ev (hd 22 (by decide)) rfl (fun _ h => h); have e26 := has_ev (hd 26 (by decide)) rfl (fun _ h => h); have e31 := has_ev (hd 31 (by decide)) rfl (fun _ h => h); exact opG_no rfl rfl e22 rfl (dskip hS rfl), ?_⟩
       refine ⟨fun a w hA hS hd => by have e18 := has_ev (hd 18 (by decide)) rfl (fun _ h => h); have e22 := has_ev (hd 22 (by decide)) rfl (fun _ h => h); have e32 := has_ev (hd 32 (by decide)) rfl (fun _ h => h); exact opG_yes rfl rfl e18 (dv (op_pick_f rfl (tmp_ev e22) (evc _ _)) hS rfl), ?_⟩
       refine ⟨fun a w hA hS hd => by have e18 := has_ev (hd 18 (by decide)) rfl (fun _ h => h); have e33 := has_ev (hd 33 (by decide)) rfl (fun _ h => h); exact opG_of rfl (dv (op_pick_f rfl (tmp_ev e18) (tmp_ev e33)) hS rfl), ?_⟩
       refine ⟨fun a w hA hS hd => by have e34 := has_ev (hd 34 (by decide)) rfl (fun _ h => h); exact opG_of rfl (dv (op_move rfl (tmp_ev e34)) hS rfl), ?_⟩
       refine ⟨fun a w hA hS hd => by have e35 := has_ev (hd 35 (by decide)) rfl (fun _ h => h); exact opG_yes rfl rfl e35 (dv (op_field rfl fd_42_0 (hA.ev rfl)) hS rfl), ?_⟩
       refine ⟨fun a w hA hS hd => by have e35 := has_ev (hd 35 (by decide)) rfl (fun _ h => h); have e36 := has_ev (hd 36 (by decide)) rfl (fun _ h => h); exact opG_yes rfl rfl e35 (dv (op_load1 rfl ty_3 (tmp_ev e36) (hS.bk 0 rfl) rfl) hS rfl), ?_⟩
       refine ⟨fun a w hA hS hd => by have e35 := has_ev (hd 35 (by decide)) rfl (fun _ h => h); have e37 := has_ev (hd 37 (by decide)) rfl (fun _ h => h); exact opG_yes rfl rfl e35 (dv (op_neq rfl (tmp_ev e37) (evc _ _)) hS (by show Value.bool _ = _; simp only [decide_eq_true hb970, decide_true, decide_false, Bool.not_true, Bool.not_false])), ?_⟩
       refine ⟨fun a w hA hS hd => by have e35 := has_ev (hd 35 (by decide)) rfl (fun _ h => h); have e38 := has_ev (hd 38 (by decide)) rfl (fun _ h => h); exact opG_yes rfl rfl e35 (dv (op_move rfl (tmp_ev e38)) hS rfl), ?_⟩
       refine ⟨fun a w hA hS hd => by have e39 := has_ev (hd 39 (by decide)) rfl (fun _ h => h); exact opG_no rfl rfl e39 rfl (dskip hS rfl), ?_⟩
       refine ⟨fun a w hA hS hd => by have e39 := has_ev (hd 39 (by decide)) rfl (fun _ h => h); have e40 := has_ev (hd 40 (by decide)) rfl (fun _ h => h); exact opG_no rfl rfl e39 rfl (dskip hS rfl), ?_⟩
       refine ⟨fun a w hA hS hd => by have e39 := has_ev (hd 39 (by decide)) rfl (fun _ h => h); have e41 := has_ev (hd 41 (by decide)) rfl (fun _ h => h); exact opG_no rfl rfl e39 rfl (dskip hS rfl), ?_⟩
       refine ⟨fun a w hA hS hd => by have e39 := has_ev (hd 39 (by decide)) rfl (fun _ h => h); have e42 := has_ev (hd 42 (by decide)) rfl (fun _ h => h); exact opG_no rfl rfl e39 rfl (dskip hS rfl), ?_⟩
       refine ⟨fun a w hA hS hd => by have e43 := has_ev (hd 43 (by decide)) rfl (fun _ h => h); exact opG_noU rfl rfl e43 (dskip hS rfl), ?_⟩
       refine ⟨fun a w hA hS hd => by have e43 := has_ev (hd 43 (by decide)) rfl (fun _ h => h); have e44 := has_ev (hd 44 (by decide)) rfl (fun _ h => h); exact opG_noU rfl rfl e43 (dskip hS rfl), ?_⟩
       refine ⟨fun a w hA hS hd => by have e43 := has_ev (hd 43 (by decide)) rfl (fun _ h => h); exact opG_noU rfl rfl e43 (dskip hS rfl), ?_⟩
       refine ⟨fun a w hA hS hd => by have e43 := has_ev (hd 43 (by decide)) rfl (fun _ h => h); have e46 := has_ev (hd 46 (by decide)) rfl (fun _ h => h); exact opG_noU rfl rfl e43 (dskip hS rfl), ?_⟩
       trivial
      intro a973 w974 hA975 hS976 hH977; clear hA971 hS961
      have hA978 := hA975.add (has_ev (hH977 35 (by decide)) rfl (fun _ h => h)); clear hA975
      have hA979 := hA978.add (has_ev (hH977 39 (by decide)) rfl (fun _ h => h)); clear hA978
      have hA980 := hA979.add (has_ev (hH977 43 (by decide)) rfl (fun _ h => h)); clear hA979
      have hA981 := hA980.add (has_ev (hH977 45 (by decide)) rfl (fun _ h => h)); clear hA980
      have hA982 := hA981.add (has_ev (hH977 47 (by decide)) rfl (fun _ h => h)); clear hA981
      clear hH977
      refine skpU hA982 rfl rfl rfl rfl (by decide) fun a983 hA984 => ?_; clear hA982 a973
      refine skp hA984 rfl rfl rfl rfl rfl (by decide) fun a985 hA986 => ?_; clear hA984 a983
      refine stg hA986 (op_pick_f rfl (hA986.ev rfl) (evc _ _)) rfl rfl rfl rfl (by decide) fun a987 hA988 => ?_; clear hA986 a985
      refine st hA988 (op_pick_f rfl (hA988.ev rfl) (hA988.ev rfl)) rfl rfl (by decide) fun a989 hA990 => ?_; clear hA988 a987
      refine wl_nil ?_
      refine then_n ?_
      refine c_false hA990 rfl ?_
      refine c_skip ?_
      refine blk_n ?_
      refine then_n ?_
      have hA991 := hA990.as [(26, (Value.int .i64 (k : Int))), (16, u163), (13, u125), (11, v27), (5, (bptr b4 0)), (1, vu), (4, (Value.int .u32 s))] rfl; clear hA990
      refine c_region ?_
      refine st hA991 (op_move rfl (hA991.ev rfl)) rfl rfl (by decide) fun a992 hA993 => ?_; clear hA991 a989
      refine st hA993 (op_add rfl (hA993.ev rfl) (evc _ _) (by omega) (by omega)) rfl rfl (by decide) fun a994 hA995 => ?_; clear hA993 a992
      refine st hA995 (op_assign rfl (hA995.ev rfl)) rfl rfl (by decide) fun a996 hA997 => ?_; clear hA995 a994
      refine wl_nil ?_
      have hS998 : Sep NoB w w974 [(blk b818 42 [(Value.int .i64 (stLo plan (leastR R (rs ++ [mo]) plan))), (Value.int .i64 (stHi plan (mostR R (rs ++ [mo]) plan)))]), (row v803 67 3 plan.length (trips plan)), (runsR true v793 lv794 (rs ++ [mo])), (row u785 42 2 R.length (pairs R)), (blk b769 42 [(Value.int .i64 (stLo plan (leastR R rs plan))), (Value.int .i64 (stHi plan (mostR R rs plan)))]), (row v754 67 3 plan.length (trips plan)), (runsR true v744 lv745 rs), (row u736 42 2 R.length (pairs R)), (row u201 42 2 R.length (pairs (ratesF R (rs ++ [(⟨mo.segs, 0, 10000000000⟩ : RunD)])))), (runsR true v194 lv195 (rs ++ [(⟨mo.segs, 0, 10000000000⟩ : RunD)])), (row u186 42 2 R.length (pairs R)), (row u163 42 2 R.length (pairs (ratesF R (rs ++ [mo])))), (runsR true v156 lv157 (rs ++ [mo])), (row u148 42 2 R.length (pairs R)), (row u125 42 2 R.length (pairs (ratesF R rs))), (runsR true v118 lv119 rs), (row u110 42 2 R.length (pairs R)), (runsR false v77 (lv ++ [um]) (rs ++ [(⟨mo.segs, 0, 10000000000⟩ : RunD)])), (runsR false v27 (lv ++ [um]) (rs ++ [mo])), (row (vs14 4) 54 3 1 [um, (Value.int .i64 mo.lo), (Value.int .i64 mo.hi)]), (blk b9 54 [um, (Value.int .i64 mo.lo), (Value.int .i64 mo.hi)]), (blk b4 24 [vr]), (sl um 3 mo.segs.length (trips mo.segs)), (sl vr 2 R.length (pairs R)), (runsR false vu lv rs), (sl vp 3 plan.length (trips plan))] := hS976.keep [6, 7, 8, 9, 10, 11, 12, 13, 14, 15, 16, 17, 18, 19, 20, 21, 22, 23, 24, 25, 26, 27, 28, 29, 30, 31] (by decide) _ rfl rfl; clear hS976
      exact then_n ⟨k + 1, ⟨hA997.as _ rfl, hS998, by omega⟩, by omega⟩
     ·skip
      have hA999 := hA968.as [(30, (Value.int .i64 0)), (29, (bptr b956 0)), (28, (Value.int .i64 0)), (27, (bptr b910 0)), (26, (Value.int .i64 (k : Int))), (16, u163), (13, u125), (11, v27), (5, (bptr b4 0)), (1, vu), (4, (Value.int .u32 s))] rfl; clear hA968
      refine c_drawn mixed hA999 hS961 48 [[], [], [0, 1], [2], [], [], [4, 5], [6], [3, 7], [8], [9], [10], [10, 11], [10, 12], [13], [14], [14, 15], [14, 16], [17], [18], [18, 19], [18, 20], [18, 21], [22], [22, 23], [22, 24], [22, 25], [26], [26, 27], [26], [26, 29], [26, 28, 30], [22, 26, 31], [18, 22, 32], [18, 33], [34], [35], [35, 36], [35, 37], [35, 38], [39], [39, 40], [39, 41], [39, 42], [43], [43, 44], [43], [43, 46]] [(Yd.val u163), (Yd.val (Value.int .i64 (k : Int))), (Yd.val (eptr u163 (k * 2))), (Yd.val (Value.agg #[(Value.int .i64 (((ratesF R (rs ++ [mo])).getD k (0, 0)).1)), (Value.int .i64 (((ratesF R (rs ++ [mo])).getD k (0, 0)).2))])), (Yd.val u125), (Yd.val (Value.int .i64 (k : Int))), (Yd.val (eptr u125 (k * 2))), (Yd.val (Value.agg #[(Value.int .i64 (((ratesF R rs).getD k (0, 0)).1)), (Value.int .i64 (((ratesF R rs).getD k (0, 0)).2))])), (Yd.val (Value.bool true)), (Yd.val (Value.bool (!true))), (Yd.val (Value.bool (!true))), (Yd.val (Value.int .i64 0)), (Yd.val (Value.bool false)), (Yd.val (Value.bool false)), (Yd.val (Value.bool false)), (Yd.val (Value.int .i64 0)), (Yd.val (Value.bool false)), (Yd.val (Value.bool false)), (Yd.val (Value.bool false)), (Yd.val (bptr b910 1)), (Yd.val (Value.int .i64 ((lifeR (allowedF R rs) k s).2))), (Yd.val (Value.bool (!true))), (Yd.val (Value.bool (!true))), (Yd.val undef), (Yd.val undef), (Yd.val undef), (Yd.val undef), (Yd.val undef), (Yd.val undef), (Yd.val undef), (Yd.val undef), (Yd.val undef), (Yd.val undef), (Yd.val (Value.bool false)), (Yd.val (Value.bool false)), (Yd.val (Value.bool false)), (Yd.val (bptr b956 0)), (Yd.val (Value.int .i64 ((lifeR (allowedF R (rs ++ [mo])) k s).1))), (Yd.val (Value.bool (!false))), (Yd.val (Value.bool (!false))), (Yd.val (bptr b910 0)), (Yd.val (Value.int .i64 ((lifeR (allowedF R rs) k s).1))), (Yd.val (Value.bool false)), (Yd.val (Value.bool false)), (Yd.val (bptr b956 0)), (Yd.val (Value.int .i64 ((lifeR (allowedF R (rs ++ [mo])) k s).1))), (Yd.val (bptr b910 0)), (Yd.val (Value.int .i64 ((lifeR (allowedF R rs) k s).1)))] (by decide +kernel) rfl rfl ?_ ?_
      ·skip
       refine ⟨fun a w hA hS hd => by exact opG_of rfl (dv (op_move rfl (hA.ev rfl)) hS rfl), ?_⟩
       refine ⟨fun a w hA hS hd => by exact opG_of rfl (dv (op_move rfl (hA.ev rfl)) hS rfl), ?_⟩
       refine ⟨fun a w hA hS hd => by have e0 := has_ev (hd 0 (by decide)) rfl (fun _ h => h); have e1 := has_ev (hd 1 (by decide)) rfl (fun _ h => h); exact opG_of rfl (dv (op_indexS rfl un_28 ty_42 (tmp_ev e0) (i := k) (tmp_ev e1) (SlAt.of_row (hS.ok_row 17 rfl)) (by decide) (by omega)) hS rfl), ?_⟩
       refine ⟨fun a w hA hS hd => by have e2 := has_ev (hd 2 (by decide)) rfl (fun _ h => h); exact opG_of rfl (dv (op_loadAE rfl ty_42 (tmp_ev e2) (SlAt.of_row (hS.ok_row 17 rfl)) (pairs_all (by omega)) rfl (by decide)) hS rfl), ?_⟩
       refine ⟨fun a w hA hS hd => by exact opG_of rfl (dv (op_move rfl (hA.ev rfl)) hS rfl), ?_⟩
       refine ⟨fun a w hA hS hd => by exact opG_of rfl (dv (op_move rfl (hA.ev rfl)) hS rfl), ?_⟩
       refine ⟨fun a w hA hS hd => by have e4 := has_ev (hd 4 (by decide)) rfl (fun _ h => h); have e5 := has_ev (hd 5 (by decide)) rfl (fun _ h => h); exact opG_of rfl (dv (op_indexS rfl un_28 ty_42 (tmp_ev e4) (i := k) (tmp_ev e5) (SlAt.of_row (hS.ok_row 20 rfl)) (by decide) (by omega)) hS rfl), ?_⟩
       refine ⟨fun a w hA hS hd => by have e6 := has_ev (hd 6 (by decide)) rfl (fun _ h => h); exact opG_of rfl (dv (op_loadAE rfl ty_42 (tmp_ev e6) (SlAt.of_row (hS.ok_row 20 rfl)) (pairs_all (by omega)) rfl (by decide)) hS rfl), ?_⟩
       refine ⟨fun a w hA hS hd => by have e3 := has_ev (hd 3 (by decide)) rfl (fun _ h => h); have e7 := has_ev (hd 7 (by decide)) rfl (fun _ h => h); exact opG_of rfl (dx (op_call rfl en_30 (ev2 (tmp_ev e3) (tmp_ev e7)) (inside_ok _ _ _ _ _)) hS (fun _ => (by show Value.bool _ = _; simp only [(show (decide ((((ratesF R rs).getD k (0, 0)).1) ≤ (((ratesF R (rs ++ [mo])).getD k (0, 0)).1)) && decide ((((ratesF R (rs ++ [mo])).getD k (0, 0)).2) ≤ (((ratesF R rs).getD k (0, 0)).2))) = true from (by have hz_ := rates_sub (b := k) hal2 hsub (by omega); simp only [Bool.and_eq_true, decide_eq_true_eq]; exact hz_)), decide_true, decide_false, Bool.not_true, Bool.not_false]))), ?_⟩
       refine ⟨fun a w hA hS hd => by have e8 := has_ev (hd 8 (by decide)) rfl (fun _ h => h); exact opG_of rfl (dv (op_not rfl (tmp_ev e8)) hS rfl), ?_⟩
       refine ⟨fun a w hA hS hd => by have e9 := has_ev (hd 9 (by decide)) rfl (fun _ h => h); exact opG_of rfl (dv (op_move rfl (tmp_ev e9)) hS rfl), ?_⟩
       refine ⟨fun a w hA hS hd => by have e10 := has_ev (hd 10 (by decide)) rfl (fun _ h => h); exact opG_yes rfl rfl e10 (dv (op_move rfl (hA.ev rfl)) hS rfl), ?_⟩
       refine ⟨fun a w hA hS hd => by have e10 := has_ev (hd 10 (by decide)) rfl (fun _ h => h); have e11 := has_ev (hd 11 (by decide)) rfl (fun _ h => h); exact opG_yes rfl rfl e10 (dv (op_neq rfl (tmp_ev e11) (evc _ _)) hS rfl), ?_⟩
       refine ⟨fun a w hA hS hd => by have e10 := has_ev (hd 10 (by decide)) rfl (fun _ h => h); have e12 := has_ev (hd 12 (by decide)) rfl (fun _ h => h); exact opG_of rfl (dv (op_pick_f rfl (tmp_ev e10) (tmp_ev e12)) hS rfl), ?_⟩
       refine ⟨fun a w hA hS hd => by have e13 := has_ev (hd 13 (by decide)) rfl (fun _ h => h); exact opG_of rfl (dv (op_move rfl (tmp_ev e13)) hS rfl), ?_⟩
       refine ⟨fun a w hA hS hd => by have e14 := has_ev (hd 14 (by decide)) rfl (fun _ h => h); exact opG_yes rfl rfl e14 (dv (op_move rfl (hA.ev rfl)) hS rfl), ?_⟩
       refine ⟨fun a w hA hS hd => by have e14 := has_ev (hd 14 (by decide)) rfl (fun _ h => h); have e15 := has_ev (hd 15 (by decide)) rfl (fun _ h => h); exact opG_yes rfl rfl e14 (dv (op_neq rfl (tmp_ev e15) (evc _ _)) hS rfl), ?_⟩
       refine ⟨fun a w hA hS hd => by have e14 := has_ev (hd 14 (by decide)) rfl (fun _ h => h); have e16 := has_ev (hd 16 (by decide)) rfl (fun _ h => h); exact opG_of rfl (dv (op_pick_f rfl (tmp_ev e14) (tmp_ev e16)) hS rfl), ?_⟩
       refine ⟨fun a w hA hS hd => by have e17 := has_ev (hd 17 (by decide)) rfl (fun _ h => h); exact opG_of rfl (dv (op_move rfl (tmp_ev e17)) hS rfl), ?_⟩
       refine ⟨fun a w hA hS hd => by have e18 := has_ev (hd 18 (by decide)) rfl (fun _ h => h); exact opG_yes rfl rfl e18 (dv (op_field rfl fd_42_1 (hA.ev rfl)) hS rfl), ?_⟩
       refine ⟨fun a w hA hS hd => by have e18 := has_ev (hd 18 (by decide)) rfl (fun _ h => h); have e19 := has_ev (hd 19 (by decide)) rfl (fun _ h => h); exact opG_yes rfl rfl e18 (dv (op_load1 rfl ty_3 (tmp_ev e19) (hS.bk 3 rfl) rfl) hS rfl), ?_⟩
       refine ⟨fun a w hA hS hd => by have e18 := has_ev (hd 18 (by decide)) rfl (fun _ h => h); have e20 := has_ev (hd 20 (by decide)) rfl (fun _ h => h); exact opG_yes rfl rfl e18 (dv (op_neq rfl (tmp_ev e20) (evc _ _)) hS (by show Value.bool _ = _; simp only [decide_eq_true hb967, decide_true, decide_false, Bool.not_true, Bool.not_false])), ?_⟩
       refine ⟨fun a w hA hS hd => by have e18 := has_ev (hd 18 (by decide)) rfl (fun _ h => h); have e21 := has_ev (hd 21 (by decide)) rfl (fun _ h => h); exact opG_yes rfl rfl e18 (dv (op_move rfl (tmp_ev e21)) hS rfl), ?_⟩
       refine ⟨fun a w hA hS hd => by have e22 := has_ev (hd 22 (by decide)) rfl (fun _ h => h); exact opG_no rfl rfl e22 rfl (dskip hS rfl), ?_⟩
       refine ⟨fun a w hA hS hd => by have e22 := has_ev (hd 22 (by decide)) rfl (fun _ h => h); have e23 := has_ev (hd 23 (by decide)) rfl (fun _ h => h); exact opG_no rfl rfl e22 rfl (dskip hS rfl), ?_⟩
       refine ⟨fun a w hA hS hd => by have e22 := has_ev (hd 22 (by decide)) rfl (fun _ h => h); have e24 := has_ev (hd 24 (by decide)) rfl (fun _ h => h); exact opG_no rfl rfl e22 rfl (dskip hS rfl), ?_⟩
       refine ⟨fun a w hA hS hd => by have e22 := has_ev (hd 22 (by decide)) rfl (fun _ h => h); have e25 := has_ev (hd 25 (by decide)) rfl (fun _ h => h); exact opG_no rfl rfl e22 rfl (dskip hS rfl), ?_⟩
       refine ⟨fun a w hA hS hd => by have e26 := has_ev (hd 26 (by decide)) rfl (fun _ h => h); exact opG_noU rfl rfl e26 (dskip hS rfl), ?_⟩
       refine ⟨fun a w hA hS hd => by have e26 := has_ev (hd 26 (by decide)) rfl (fun _ h => h); have e27 := has_ev (hd 27 (by decide)) rfl (fun _ h => h); exact opG_noU rfl rfl e26 (dskip hS rfl), ?_⟩
       refine ⟨fun a w hA hS hd => by have e26 := has_ev (hd 26 (by decide)) rfl (fun _ h => h); exact opG_noU rfl rfl e26 (dskip hS rfl), ?_⟩
       refine ⟨fun a w hA hS hd => by have e26 := has_ev (hd 26 (by decide)) rfl (fun _ h => h); have e29 := has_ev (hd 29 (by decide)) rfl (fun _ h => h); exact opG_noU rfl rfl e26 (dskip hS rfl), ?_⟩
       refine ⟨fun a w hA hS hd => by have e26 := has_ev (hd 26 (by decide)) rfl (fun _ h => h); have e28 := has_ev (hd 28 (by decide)) rfl (fun _ h => h); have e30 := has_ev (hd 30 (by decide)) rfl (fun _ h => h); exact opG_noU rfl rfl e26 (dskip hS rfl), ?_⟩
       refine ⟨fun a w hA hS hd => by have e22 := has_ev (hd 22 (by decide)) rfl (fun _ h => h); have e26 := has_ev (hd 26 (by decide)) rfl (fun _ h => h); have e31 := has_ev (hd 31 (by decide)) rfl (fun _ h => h); exact opG_no rfl rfl e22 rfl (dskip hS rfl), ?_⟩
       refine ⟨fun a w hA hS hd => by have e18 := has_ev (hd 18 (by decide)) rfl (fun _ h => h); have e22 := has_ev (hd 22 (by decide)) rfl (fun _ h => h); have e32 := has_ev (hd 32 (by decide)) rfl (fun _ h => h); exact opG_yes rfl rfl e18 (dv (op_pick_f rfl (tmp_ev e22) (evc _ _)) hS rfl), ?_⟩
       refine ⟨fun a w hA hS hd => by have e18 := has_ev (hd 18 (by decide)) rfl (fun _ h => h); have e33 := has_ev (hd 33 (by decide)) rfl (fun _ h => h); exact opG_of rfl (dv (op_pick_f rfl (tmp_ev e18) (tmp_ev e33)) hS rfl), ?_⟩
       refine ⟨fun a w hA hS hd => by have e34 := has_ev (hd 34 (by decide)) rfl (fun _ h => h); exact opG_of rfl (dv (op_move rfl (tmp_ev e34)) hS rfl), ?_⟩
       refine ⟨fun a w hA hS hd => by have e35 := has_ev (hd 35 (by decide)) rfl (fun _ h => h); exact opG_yes rfl rfl e35 (dv (op_field rfl fd_42_0 (hA.ev rfl)) hS rfl), ?_⟩
       refine ⟨fun a w hA hS hd => by have e35 := has_ev (hd 35 (by decide)) rfl (fun _ h => h); have e36 := has_ev (hd 36 (by decide)) rfl (fun _ h => h); exact opG_yes rfl rfl e35 (dv (op_load1 rfl ty_3 (tmp_ev e36) (hS.bk 0 rfl) rfl) hS rfl), ?_⟩
       refine ⟨fun a w hA hS hd => by have e35 := has_ev (hd 35 (by decide)) rfl (fun _ h => h); have e37 := has_ev (hd 37 (by decide)) rfl (fun _ h => h); exact opG_yes rfl rfl e35 (dv (op_neq rfl (tmp_ev e37) (evc _ _)) hS (by show Value.bool _ = _; simp only [decide_eq_false hb970, decide_true, decide_false, Bool.not_true, Bool.not_false])), ?_⟩
       refine ⟨fun a w hA hS hd => by have e35 := has_ev (hd 35 (by decide)) rfl (fun _ h => h); have e38 := has_ev (hd 38 (by decide)) rfl (fun _ h => h); exact opG_yes rfl rfl e35 (dv (op_move rfl (tmp_ev e38)) hS rfl), ?_⟩
       refine ⟨fun a w hA hS hd => by have e39 := has_ev (hd 39 (by decide)) rfl (fun _ h => h); exact opG_yes rfl rfl e39 (dv (op_field rfl fd_42_0 (hA.ev rfl)) hS rfl), ?_⟩
       refine ⟨fun a w hA hS hd => by have e39 := has_ev (hd 39 (by decide)) rfl (fun _ h => h); have e40 := has_ev (hd 40 (by decide)) rfl (fun _ h => h); exact opG_yes rfl rfl e39 (dv (op_load1 rfl ty_3 (tmp_ev e40) (hS.bk 3 rfl) rfl) hS rfl), ?_⟩
       refine ⟨fun a w hA hS hd => by have e39 := has_ev (hd 39 (by decide)) rfl (fun _ h => h); have e41 := has_ev (hd 41 (by decide)) rfl (fun _ h => h); exact opG_yes rfl rfl e39 (dv (op_eql rfl (tmp_ev e41) (evc _ _)) hS (by show Value.bool _ = _; simp only [decide_eq_false (show ¬ (((lifeR (allowedF R rs) k s).1) = (-1)) from (by omega)), decide_true, decide_false, Bool.not_true, Bool.not_false])), ?_⟩
       refine ⟨fun a w hA hS hd => by have e39 := has_ev (hd 39 (by decide)) rfl (fun _ h => h); have e42 := has_ev (hd 42 (by decide)) rfl (fun _ h => h); exact opG_yes rfl rfl e39 (dv (op_move rfl (tmp_ev e42)) hS rfl), ?_⟩
       refine ⟨fun a w hA hS hd => by have e43 := has_ev (hd 43 (by decide)) rfl (fun _ h => h); exact opG_yes rfl rfl e43 (dv (op_field rfl fd_42_0 (hA.ev rfl)) hS rfl), ?_⟩
       refine ⟨fun a w hA hS hd => by have e43 := has_ev (hd 43 (by decide)) rfl (fun _ h => h); have e44 := has_ev (hd 44 (by decide)) rfl (fun _ h => h); exact opG_yes rfl rfl e43 (dv (op_load1 rfl ty_3 (tmp_ev e44) (hS.bk 0 rfl) rfl) hS rfl), ?_⟩
       refine ⟨fun a w hA hS hd => by have e43 := has_ev (hd 43 (by decide)) rfl (fun _ h => h); exact opG_yes rfl rfl e43 (dv (op_field rfl fd_42_0 (hA.ev rfl)) hS rfl), ?_⟩
       refine ⟨fun a w hA hS hd => by have e43 := has_ev (hd 43 (by decide)) rfl (fun _ h => h); have e46 := has_ev (hd 46 (by decide)) rfl (fun _ h => h); exact opG_yes rfl rfl e43 (dv (op_load1 rfl ty_3 (tmp_ev e46) (hS.bk 3 rfl) rfl) hS rfl), ?_⟩
       trivial
      intro a1001 w1002 hA1003 hS1004 hH1005; clear hA999 hS961
      have hA1006 := hA1003.add (has_ev (hH1005 35 (by decide)) rfl (fun _ h => h)); clear hA1003
      have hA1007 := hA1006.add (has_ev (hH1005 39 (by decide)) rfl (fun _ h => h)); clear hA1006
      have hA1008 := hA1007.add (has_ev (hH1005 43 (by decide)) rfl (fun _ h => h)); clear hA1007
      have hA1009 := hA1008.add (has_ev (hH1005 45 (by decide)) rfl (fun _ h => h)); clear hA1008
      have hA1010 := hA1009.add (has_ev (hH1005 47 (by decide)) rfl (fun _ h => h)); clear hA1009
      clear hH1005
      refine stg hA1010 (op_lss rfl (hA1010.ev rfl) (hA1010.ev rfl)) rfl rfl rfl rfl (by decide) fun a1011 hA1012 => ?_; clear hA1010 a1001
      have hd1013 : ¬ (((lifeR (allowedF R (rs ++ [mo])) k s).1) < ((lifeR (allowedF R rs) k s).1)) := (by omega)
      rw [decide_eq_false hd1013] at hA1012
      refine stg hA1012 (op_pick_f rfl (hA1012.ev rfl) (hA1012.ev rfl)) rfl rfl rfl rfl (by decide) fun a1014 hA1015 => ?_; clear hA1012 a1011
      refine stg hA1015 (op_pick_t rfl (hA1015.ev rfl) (hA1015.ev rfl)) rfl rfl rfl rfl (by decide) fun a1016 hA1017 => ?_; clear hA1015 a1014
      refine st hA1017 (op_pick_f rfl (hA1017.ev rfl) (hA1017.ev rfl)) rfl rfl (by decide) fun a1018 hA1019 => ?_; clear hA1017 a1016
      refine wl_nil ?_
      refine then_n ?_
      refine c_false hA1019 rfl ?_
      refine c_skip ?_
      refine blk_n ?_
      refine then_n ?_
      have hA1020 := hA1019.as [(26, (Value.int .i64 (k : Int))), (16, u163), (13, u125), (11, v27), (5, (bptr b4 0)), (1, vu), (4, (Value.int .u32 s))] rfl; clear hA1019
      refine c_region ?_
      refine st hA1020 (op_move rfl (hA1020.ev rfl)) rfl rfl (by decide) fun a1021 hA1022 => ?_; clear hA1020 a1018
      refine st hA1022 (op_add rfl (hA1022.ev rfl) (evc _ _) (by omega) (by omega)) rfl rfl (by decide) fun a1023 hA1024 => ?_; clear hA1022 a1021
      refine st hA1024 (op_assign rfl (hA1024.ev rfl)) rfl rfl (by decide) fun a1025 hA1026 => ?_; clear hA1024 a1023
      refine wl_nil ?_
      have hS1027 : Sep NoB w w1002 [(blk b818 42 [(Value.int .i64 (stLo plan (leastR R (rs ++ [mo]) plan))), (Value.int .i64 (stHi plan (mostR R (rs ++ [mo]) plan)))]), (row v803 67 3 plan.length (trips plan)), (runsR true v793 lv794 (rs ++ [mo])), (row u785 42 2 R.length (pairs R)), (blk b769 42 [(Value.int .i64 (stLo plan (leastR R rs plan))), (Value.int .i64 (stHi plan (mostR R rs plan)))]), (row v754 67 3 plan.length (trips plan)), (runsR true v744 lv745 rs), (row u736 42 2 R.length (pairs R)), (row u201 42 2 R.length (pairs (ratesF R (rs ++ [(⟨mo.segs, 0, 10000000000⟩ : RunD)])))), (runsR true v194 lv195 (rs ++ [(⟨mo.segs, 0, 10000000000⟩ : RunD)])), (row u186 42 2 R.length (pairs R)), (row u163 42 2 R.length (pairs (ratesF R (rs ++ [mo])))), (runsR true v156 lv157 (rs ++ [mo])), (row u148 42 2 R.length (pairs R)), (row u125 42 2 R.length (pairs (ratesF R rs))), (runsR true v118 lv119 rs), (row u110 42 2 R.length (pairs R)), (runsR false v77 (lv ++ [um]) (rs ++ [(⟨mo.segs, 0, 10000000000⟩ : RunD)])), (runsR false v27 (lv ++ [um]) (rs ++ [mo])), (row (vs14 4) 54 3 1 [um, (Value.int .i64 mo.lo), (Value.int .i64 mo.hi)]), (blk b9 54 [um, (Value.int .i64 mo.lo), (Value.int .i64 mo.hi)]), (blk b4 24 [vr]), (sl um 3 mo.segs.length (trips mo.segs)), (sl vr 2 R.length (pairs R)), (runsR false vu lv rs), (sl vp 3 plan.length (trips plan))] := hS1004.keep [6, 7, 8, 9, 10, 11, 12, 13, 14, 15, 16, 17, 18, 19, 20, 21, 22, 23, 24, 25, 26, 27, 28, 29, 30, 31] (by decide) _ rfl rfl; clear hS1004
      exact then_n ⟨k + 1, ⟨hA1026.as _ rfl, hS1027, by omega⟩, by omega⟩
    ·skip
     have hA1028 := hA965.as [(30, (Value.int .i64 0)), (29, (bptr b956 0)), (28, (Value.int .i64 0)), (27, (bptr b910 0)), (26, (Value.int .i64 (k : Int))), (16, u163), (13, u125), (11, v27), (5, (bptr b4 0)), (1, vu), (4, (Value.int .u32 s))] rfl; clear hA965
     by_cases hb1030 : ((lifeR (allowedF R (rs ++ [mo])) k s).1) = (-1)
     ·skip
      have hA1031 := hA1028.as [(30, (Value.int .i64 0)), (29, (bptr b956 0)), (28, (Value.int .i64 0)), (27, (bptr b910 0)), (26, (Value.int .i64 (k : Int))), (16, u163), (13, u125), (11, v27), (5, (bptr b4 0)), (1, vu), (4, (Value.int .u32 s))] rfl; clear hA1028
      refine c_drawn mixed hA1031 hS961 48 [[], [], [0, 1], [2], [], [], [4, 5], [6], [3, 7], [8], [9], [10], [10, 11], [10, 12], [13], [14], [14, 15], [14, 16], [17], [18], [18, 19], [18, 20], [18, 21], [22], [22, 23], [22, 24], [22, 25], [26], [26, 27], [26], [26, 29], [26, 28, 30], [22, 26, 31], [18, 22, 32], [18, 33], [34], [35], [35, 36], [35, 37], [35, 38], [39], [39, 40], [39, 41], [39, 42], [43], [43, 44], [43], [43, 46]] [(Yd.val u163), (Yd.val (Value.int .i64 (k : Int))), (Yd.val (eptr u163 (k * 2))), (Yd.val (Value.agg #[(Value.int .i64 (((ratesF R (rs ++ [mo])).getD k (0, 0)).1)), (Value.int .i64 (((ratesF R (rs ++ [mo])).getD k (0, 0)).2))])), (Yd.val u125), (Yd.val (Value.int .i64 (k : Int))), (Yd.val (eptr u125 (k * 2))), (Yd.val (Value.agg #[(Value.int .i64 (((ratesF R rs).getD k (0, 0)).1)), (Value.int .i64 (((ratesF R rs).getD k (0, 0)).2))])), (Yd.val (Value.bool true)), (Yd.val (Value.bool (!true))), (Yd.val (Value.bool (!true))), (Yd.val (Value.int .i64 0)), (Yd.val (Value.bool false)), (Yd.val (Value.bool false)), (Yd.val (Value.bool false)), (Yd.val (Value.int .i64 0)), (Yd.val (Value.bool false)), (Yd.val (Value.bool false)), (Yd.val (Value.bool false)), (Yd.val (bptr b910 1)), (Yd.val (Value.int .i64 ((lifeR (allowedF R rs) k s).2))), (Yd.val (Value.bool (!false))), (Yd.val (Value.bool (!false))), (Yd.val (bptr b956 1)), (Yd.val (Value.int .i64 ((lifeR (allowedF R (rs ++ [mo])) k s).2))), (Yd.val (Value.bool false)), (Yd.val (Value.bool false)), (Yd.val (bptr b956 1)), (Yd.val (Value.int .i64 ((lifeR (allowedF R (rs ++ [mo])) k s).2))), (Yd.val (bptr b910 1)), (Yd.val (Value.int .i64 ((lifeR (allowedF R rs) k s).2))), (Yd.val (Value.bool false)), (Yd.val (Value.bool false)), (Yd.val (Value.bool false)), (Yd.val (Value.bool false)), (Yd.val (Value.bool false)), (Yd.val (bptr b956 0)), (Yd.val (Value.int .i64 ((lifeR (allowedF R (rs ++ [mo])) k s).1))), (Yd.val (Value.bool (!true))), (Yd.val (Value.bool (!true))), (Yd.val undef), (Yd.val undef), (Yd.val undef), (Yd.val undef), (Yd.val undef), (Yd.val undef), (Yd.val undef), (Yd.val undef)] (by decide +kernel) rfl rfl ?_ ?_
      ·skip
       refine ⟨fun a w hA hS hd => by exact opG_of rfl (dv (op_move rfl (hA.ev rfl)) hS rfl), ?_⟩
       refine ⟨fun a w hA hS hd => by exact opG_of rfl (dv (op_move rfl (hA.ev rfl)) hS rfl), ?_⟩
       refine ⟨fun a w hA hS hd => by have e0 := has_ev (hd 0 (by decide)) rfl (fun _ h => h); have e1 := has_ev (hd 1 (by decide)) rfl (fun _ h => h); exact opG_of rfl (dv (op_indexS rfl un_28 ty_42 (tmp_ev e0) (i := k) (tmp_ev e1) (SlAt.of_row (hS.ok_row 17 rfl)) (by decide) (by omega)) hS rfl), ?_⟩
       refine ⟨fun a w hA hS hd => by have e2 := has_ev (hd 2 (by decide)) rfl (fun _ h => h); exact opG_of rfl (dv (op_loadAE rfl ty_42 (tmp_ev e2) (SlAt.of_row (hS.ok_row 17 rfl)) (pairs_all (by omega)) rfl (by decide)) hS rfl), ?_⟩
       refine ⟨fun a w hA hS hd => by exact opG_of rfl (dv (op_move rfl (hA.ev rfl)) hS rfl), ?_⟩
       refine ⟨fun a w hA hS hd => by exact opG_of rfl (dv (op_move rfl (hA.ev rfl)) hS rfl), ?_⟩
       refine ⟨fun a w hA hS hd => by have e4 := has_ev (hd 4 (by decide)) rfl (fun _ h => h); have e5 := has_ev (hd 5 (by decide)) rfl (fun _ h => h); exact opG_of rfl (dv (op_indexS rfl un_28 ty_42 (tmp_ev e4) (i := k) (tmp_ev e5) (SlAt.of_row (hS.ok_row 20 rfl)) (by decide) (by omega)) hS rfl), ?_⟩
       refine ⟨fun a w hA hS hd => by have e6 := has_ev (hd 6 (by decide)) rfl (fun _ h => h); exact opG_of rfl (dv (op_loadAE rfl ty_42 (tmp_ev e6) (SlAt.of_row (hS.ok_row 20 rfl)) (pairs_all (by omega)) rfl (by decide)) hS rfl), ?_⟩
       refine ⟨fun a w hA hS hd => by have e3 := has_ev (hd 3 (by decide)) rfl (fun _ h => h); have e7 := has_ev (hd 7 (by decide)) rfl (fun _ h => h); exact opG_of rfl (dx (op_call rfl en_30 (ev2 (tmp_ev e3) (tmp_ev e7)) (inside_ok _ _ _ _ _)) hS (fun _ => (by show Value.bool _ = _; simp only [(show (decide ((((ratesF R rs).getD k (0, 0)).1) ≤ (((ratesF R (rs ++ [mo])).getD k (0, 0)).1)) && decide ((((ratesF R (rs ++ [mo])).getD k (0, 0)).2) ≤ (((ratesF R rs).getD k (0, 0)).2))) = true from (by have hz_ := rates_sub (b := k) hal2 hsub (by omega); simp only [Bool.and_eq_true, decide_eq_true_eq]; exact hz_)), decide_true, decide_false, Bool.not_true, Bool.not_false]))), ?_⟩
       refine ⟨fun a w hA hS hd => by have e8 := has_ev (hd 8 (by decide)) rfl (fun _ h => h); exact opG_of rfl (dv (op_not rfl (tmp_ev e8)) hS rfl), ?_⟩
       refine ⟨fun a w hA hS hd => by have e9 := has_ev (hd 9 (by decide)) rfl (fun _ h => h); exact opG_of rfl (dv (op_move rfl (tmp_ev e9)) hS rfl), ?_⟩
       refine ⟨fun a w hA hS hd => by have e10 := has_ev (hd 10 (by decide)) rfl (fun _ h => h); exact opG_yes rfl rfl e10 (dv (op_move rfl (hA.ev rfl)) hS rfl), ?_⟩
       refine ⟨fun a w hA hS hd => by have e10 := has_ev (hd 10 (by decide)) rfl (fun _ h => h); have e11 := has_ev (hd 11 (by decide)) rfl (fun _ h => h); exact opG_yes rfl rfl e10 (dv (op_neq rfl (tmp_ev e11) (evc _ _)) hS rfl), ?_⟩
       refine ⟨fun a w hA hS hd => by have e10 := has_ev (hd 10 (by decide)) rfl (fun _ h => h); have e12 := has_ev (hd 12 (by decide)) rfl (fun _ h => h); exact opG_of rfl (dv (op_pick_f rfl (tmp_ev e10) (tmp_ev e12)) hS rfl), ?_⟩
       refine ⟨fun a w hA hS hd => by have e13 := has_ev (hd 13 (by decide)) rfl (fun _ h => h); exact opG_of rfl (dv (op_move rfl (tmp_ev e13)) hS rfl), ?_⟩
       refine ⟨fun a w hA hS hd => by have e14 := has_ev (hd 14 (by decide)) rfl (fun _ h => h); exact opG_yes rfl rfl e14 (dv (op_move rfl (hA.ev rfl)) hS rfl), ?_⟩
       refine ⟨fun a w hA hS hd => by have e14 := has_ev (hd 14 (by decide)) rfl (fun _ h => h); have e15 := has_ev (hd 15 (by decide)) rfl (fun _ h => h); exact opG_yes rfl rfl e14 (dv (op_neq rfl (tmp_ev e15) (evc _ _)) hS rfl), ?_⟩
       refine ⟨fun a w hA hS hd => by have e14 := has_ev (hd 14 (by decide)) rfl (fun _ h => h); have e16 := has_ev (hd 16 (by decide)) rfl (fun _ h => h); exact opG_of rfl (dv (op_pick_f rfl (tmp_ev e14) (tmp_ev e16)) hS rfl), ?_⟩
       refine ⟨fun a w hA hS hd => by have e17 := has_ev (hd 17 (by decide)) rfl (fun _ h => h); exact opG_of rfl (dv (op_move rfl (tmp_ev e17)) hS rfl), ?_⟩
       refine ⟨fun a w hA hS hd => by have e18 := has_ev (hd 18 (by decide)) rfl (fun _ h => h); exact opG_yes rfl rfl e18 (dv (op_field rfl fd_42_1 (hA.ev rfl)) hS rfl), ?_⟩
       refine ⟨fun a w hA hS hd => by have e18 := has_ev (hd 18 (by decide)) rfl (fun _ h => h); have e19 := has_ev (hd 19 (by decide)) rfl (fun _ h => h); exact opG_yes rfl rfl e18 (dv (op_load1 rfl ty_3 (tmp_ev e19) (hS.bk 3 rfl) rfl) hS rfl), ?_⟩
       refine ⟨fun a w hA hS hd => by have e18 := has_ev (hd 18 (by decide)) rfl (fun _ h => h); have e20 := has_ev (hd 20 (by decide)) rfl (fun _ h => h); exact opG_yes rfl rfl e18 (dv (op_neq rfl (tmp_ev e20) (evc _ _)) hS (by show Value.bool _ = _; simp only [decide_eq_false hb967, decide_true, decide_false, Bool.not_true, Bool.not_false])), ?_⟩
       refine ⟨fun a w hA hS hd => by have e18 := has_ev (hd 18 (by decide)) rfl (fun _ h => h); have e21 := has_ev (hd 21 (by decide)) rfl (fun _ h => h); exact opG_yes rfl rfl e18 (dv (op_move rfl (tmp_ev e21)) hS rfl), ?_⟩
       refine ⟨fun a w hA hS hd => by have e22 := has_ev (hd 22 (by decide)) rfl (fun _ h => h); exact opG_yes rfl rfl e22 (dv (op_field rfl fd_42_1 (hA.ev rfl)) hS rfl), ?_⟩
       refine ⟨fun a w hA hS hd => by have e22 := has_ev (hd 22 (by decide)) rfl (fun _ h => h); have e23 := has_ev (hd 23 (by decide)) rfl (fun _ h => h); exact opG_yes rfl rfl e22 (dv (op_load1 rfl ty_3 (tmp_ev e23) (hS.bk 0 rfl) rfl) hS rfl), ?_⟩
       refine ⟨fun a w hA hS hd => by have e22 := has_ev (hd 22 (by decide)) rfl (fun _ h => h); have e24 := has_ev (hd 24 (by decide)) rfl (fun _ h => h); exact opG_yes rfl rfl e22 (dv (op_eql rfl (tmp_ev e24) (evc _ _)) hS (by show Value.bool _ = _; simp only [decide_eq_false (show ¬ (((lifeR (allowedF R (rs ++ [mo])) k s).2) = (-1)) from (by omega)), decide_true, decide_false, Bool.not_true, Bool.not_false])), ?_⟩
       refine ⟨fun a w hA hS hd => by have e22 := has_ev (hd 22 (by decide)) rfl (fun _ h => h); have e25 := has_ev (hd 25 (by decide)) rfl (fun _ h => h); exact opG_yes rfl rfl e22 (dv (op_move rfl (tmp_ev e25)) hS rfl), ?_⟩
       refine ⟨fun a w hA hS hd => by have e26 := has_ev (hd 26 (by decide)) rfl (fun _ h => h); exact opG_yes rfl rfl e26 (dv (op_field rfl fd_42_1 (hA.ev rfl)) hS rfl), ?_⟩
       refine ⟨fun a w hA hS hd => by have e26 := has_ev (hd 26 (by decide)) rfl (fun _ h => h); have e27 := has_ev (hd 27 (by decide)) rfl (fun _ h => h); exact opG_yes rfl rfl e26 (dv (op_load1 rfl ty_3 (tmp_ev e27) (hS.bk 0 rfl) rfl) hS rfl), ?_⟩
       refine ⟨fun a w hA hS hd => by have e26 := has_ev (hd 26 (by decide)) rfl (fun _ h => h); exact opG_yes rfl rfl e26 (dv (op_field rfl fd_42_1 (hA.ev rfl)) hS rfl), ?_⟩
       refine ⟨fun a w hA hS hd => by have e26 := has_ev (hd 26 (by decide)) rfl (fun _ h => h); have e29 := has_ev (hd 29 (by decide)) rfl (fun _ h => h); exact opG_yes rfl rfl e26 (dv (op_load1 rfl ty_3 (tmp_ev e29) (hS.bk 3 rfl) rfl) hS rfl), ?_⟩
       refine ⟨fun a w hA hS hd => by have e26 := has_ev (hd 26 (by decide)) rfl (fun _ h => h); have e28 := has_ev (hd 28 (by decide)) rfl (fun _ h => h); have e30 := has_ev (hd 30 (by decide)) rfl (fun _ h => h); exact opG_yes rfl rfl e26 (dv (op_gtr rfl (tmp_ev e28) (tmp_ev e30)) hS (by show Value.bool _ = _; simp only [decide_eq_false (show ¬ (((lifeR (allowedF R rs) k s).2) < ((lifeR (allowedF R (rs ++ [mo])) k s).2)) from (by omega)), decide_true, decide_false, Bool.not_true, Bool.not_false])), ?_⟩
       refine ⟨fun a w hA hS hd => by have e22 := has_ev (hd 22 (by decide)) rfl (fun _ h => h); have e26 := has_ev (hd 26 (by decide)) rfl (fun _ h => h); have e31 := has_ev (hd 31 (by decide)) rfl (fun _ h => h); exact opG_yes rfl rfl e22 (dv (op_pick_f rfl (tmp_ev e26) (tmp_ev e31)) hS rfl), ?_⟩
       refine ⟨fun a w hA hS hd => by have e18 := has_ev (hd 18 (by decide)) rfl (fun _ h => h); have e22 := has_ev (hd 22 (by decide)) rfl (fun _ h => h); have e32 := has_ev (hd 32 (by decide)) rfl (fun _ h => h); exact opG_yes rfl rfl e18 (dv (op_pick_t rfl (tmp_ev e22) (tmp_ev e32)) hS rfl), ?_⟩
       refine ⟨fun a w hA hS hd => by have e18 := has_ev (hd 18 (by decide)) rfl (fun _ h => h); have e33 := has_ev (hd 33 (by decide)) rfl (fun _ h => h); exact opG_of rfl (dv (op_pick_f rfl (tmp_ev e18) (tmp_ev e33)) hS rfl), ?_⟩
       refine ⟨fun a w hA hS hd => by have e34 := has_ev (hd 34 (by decide)) rfl (fun _ h => h); exact opG_of rfl (dv (op_move rfl (tmp_ev e34)) hS rfl), ?_⟩
       refine ⟨fun a w hA hS hd => by have e35 := has_ev (hd 35 (by decide)) rfl (fun _ h => h); exact opG_yes rfl rfl e35 (dv (op_field rfl fd_42_0 (hA.ev rfl)) hS rfl), ?_⟩
       refine ⟨fun a w hA hS hd => by have e35 := has_ev (hd 35 (by decide)) rfl (fun _ h => h); have e36 := has_ev (hd 36 (by decide)) rfl (fun _ h => h); exact opG_yes rfl rfl e35 (dv (op_load1 rfl ty_3 (tmp_ev e36) (hS.bk 0 rfl) rfl) hS rfl), ?_⟩
       refine ⟨fun a w hA hS hd => by have e35 := has_ev (hd 35 (by decide)) rfl (fun _ h => h); have e37 := has_ev (hd 37 (by decide)) rfl (fun _ h => h); exact opG_yes rfl rfl e35 (dv (op_neq rfl (tmp_ev e37) (evc _ _)) hS (by show Value.bool _ = _; simp only [decide_eq_true hb1030, decide_true, decide_false, Bool.not_true, Bool.not_false])), ?_⟩
       refine ⟨fun a w hA hS hd => by have e35 := has_ev (hd 35 (by decide)) rfl (fun _ h => h); have e38 := has_ev (hd 38 (by decide)) rfl (fun _ h => h); exact opG_yes rfl rfl e35 (dv (op_move rfl (tmp_ev e38)) hS rfl), ?_⟩
       refine ⟨fun a w hA hS hd => by have e39 := has_ev (hd 39 (by decide)) rfl (fun _ h => h); exact opG_no rfl rfl e39 rfl (dskip hS rfl), ?_⟩
       refine ⟨fun a w hA hS hd => by have e39 := has_ev (hd 39 (by decide)) rfl (fun _ h => h); have e40 := has_ev (hd 40 (by decide)) rfl (fun _ h => h); exact opG_no rfl rfl e39 rfl (dskip hS rfl), ?_⟩
       refine ⟨fun a w hA hS hd => by have e39 := has_ev (hd 39 (by decide)) rfl (fun _ h => h); have e41 := has_ev (hd 41 (by decide)) rfl (fun _ h => h); exact opG_no rfl rfl e39 rfl (dskip hS rfl), ?_⟩
       refine ⟨fun a w hA hS hd => by have e39 := has_ev (hd 39 (by decide)) rfl (fun _ h => h); have e42 := has_ev (hd 42 (by decide)) rfl (fun _ h => h); exact opG_no rfl rfl e39 rfl (dskip hS rfl), ?_⟩
       refine ⟨fun a w hA hS hd => by have e43 := has_ev (hd 43 (by decide)) rfl (fun _ h => h); exact opG_noU rfl rfl e43 (dskip hS rfl), ?_⟩
       refine ⟨fun a w hA hS hd => by have e43 := has_ev (hd 43 (by decide)) rfl (fun _ h => h); have e44 := has_ev (hd 44 (by decide)) rfl (fun _ h => h); exact opG_noU rfl rfl e43 (dskip hS rfl), ?_⟩
       refine ⟨fun a w hA hS hd => by have e43 := has_ev (hd 43 (by decide)) rfl (fun _ h => h); exact opG_noU rfl rfl e43 (dskip hS rfl), ?_⟩
       refine ⟨fun a w hA hS hd => by have e43 := has_ev (hd 43 (by decide)) rfl (fun _ h => h); have e46 := has_ev (hd 46 (by decide)) rfl (fun _ h => h); exact opG_noU rfl rfl e43 (dskip hS rfl), ?_⟩
       trivial
      intro a1033 w1034 hA1035 hS1036 hH1037; clear hA1031 hS961
      have hA1038 := hA1035.add (has_ev (hH1037 35 (by decide)) rfl (fun _ h => h)); clear hA1035
      have hA1039 := hA1038.add (has_ev (hH1037 39 (by decide)) rfl (fun _ h => h)); clear hA1038
      have hA1040 := hA1039.add (has_ev (hH1037 43 (by decide)) rfl (fun _ h => h)); clear hA1039
      have hA1041 := hA1040.add (has_ev (hH1037 45 (by decide)) rfl (fun _ h => h)); clear hA1040
      have hA1042 := hA1041.add (has_ev (hH1037 47 (by decide)) rfl (fun _ h => h)); clear hA1041
      clear hH1037
      refine skpU hA1042 rfl rfl rfl rfl (by decide) fun a1043 hA1044 => ?_; clear hA1042 a1033
      refine skp hA1044 rfl rfl rfl rfl rfl (by decide) fun a1045 hA1046 => ?_; clear hA1044 a1043
      refine stg hA1046 (op_pick_f rfl (hA1046.ev rfl) (evc _ _)) rfl rfl rfl rfl (by decide) fun a1047 hA1048 => ?_; clear hA1046 a1045
      refine st hA1048 (op_pick_f rfl (hA1048.ev rfl) (hA1048.ev rfl)) rfl rfl (by decide) fun a1049 hA1050 => ?_; clear hA1048 a1047
      refine wl_nil ?_
      refine then_n ?_
      refine c_false hA1050 rfl ?_
      refine c_skip ?_
      refine blk_n ?_
      refine then_n ?_
      have hA1051 := hA1050.as [(26, (Value.int .i64 (k : Int))), (16, u163), (13, u125), (11, v27), (5, (bptr b4 0)), (1, vu), (4, (Value.int .u32 s))] rfl; clear hA1050
      refine c_region ?_
      refine st hA1051 (op_move rfl (hA1051.ev rfl)) rfl rfl (by decide) fun a1052 hA1053 => ?_; clear hA1051 a1049
      refine st hA1053 (op_add rfl (hA1053.ev rfl) (evc _ _) (by omega) (by omega)) rfl rfl (by decide) fun a1054 hA1055 => ?_; clear hA1053 a1052
      refine st hA1055 (op_assign rfl (hA1055.ev rfl)) rfl rfl (by decide) fun a1056 hA1057 => ?_; clear hA1055 a1054
      refine wl_nil ?_
      have hS1058 : Sep NoB w w1034 [(blk b818 42 [(Value.int .i64 (stLo plan (leastR R (rs ++ [mo]) plan))), (Value.int .i64 (stHi plan (mostR R (rs ++ [mo]) plan)))]), (row v803 67 3 plan.length (trips plan)), (runsR true v793 lv794 (rs ++ [mo])), (row u785 42 2 R.length (pairs R)), (blk b769 42 [(Value.int .i64 (stLo plan (leastR R rs plan))), (Value.int .i64 (stHi plan (mostR R rs plan)))]), (row v754 67 3 plan.length (trips plan)), (runsR true v744 lv745 rs), (row u736 42 2 R.length (pairs R)), (row u201 42 2 R.length (pairs (ratesF R (rs ++ [(⟨mo.segs, 0, 10000000000⟩ : RunD)])))), (runsR true v194 lv195 (rs ++ [(⟨mo.segs, 0, 10000000000⟩ : RunD)])), (row u186 42 2 R.length (pairs R)), (row u163 42 2 R.length (pairs (ratesF R (rs ++ [mo])))), (runsR true v156 lv157 (rs ++ [mo])), (row u148 42 2 R.length (pairs R)), (row u125 42 2 R.length (pairs (ratesF R rs))), (runsR true v118 lv119 rs), (row u110 42 2 R.length (pairs R)), (runsR false v77 (lv ++ [um]) (rs ++ [(⟨mo.segs, 0, 10000000000⟩ : RunD)])), (runsR false v27 (lv ++ [um]) (rs ++ [mo])), (row (vs14 4) 54 3 1 [um, (Value.int .i64 mo.lo), (Value.int .i64 mo.hi)]), (blk b9 54 [um, (Value.int .i64 mo.lo), (Value.int .i64 mo.hi)]), (blk b4 24 [vr]), (sl um 3 mo.segs.length (trips mo.segs)), (sl vr 2 R.length (pairs R)), (runsR false vu lv rs), (sl vp 3 plan.length (trips plan))] := hS1036.keep [6, 7, 8, 9, 10, 11, 12, 13, 14, 15, 16, 17, 18, 19, 20, 21, 22, 23, 24, 25, 26, 27, 28, 29, 30, 31] (by decide) _ rfl rfl; clear hS1036
      exact then_n ⟨k + 1, ⟨hA1057.as _ rfl, hS1058, by omega⟩, by omega⟩
     ·skip
      have hA1059 := hA1028.as [(30, (Value.int .i64 0)), (29, (bptr b956 0)), (28, (Value.int .i64 0)), (27, (bptr b910 0)), (26, (Value.int .i64 (k : Int))), (16, u163), (13, u125), (11, v27), (5, (bptr b4 0)), (1, vu), (4, (Value.int .u32 s))] rfl; clear hA1028
      refine c_drawn mixed hA1059 hS961 48 [[], [], [0, 1], [2], [], [], [4, 5], [6], [3, 7], [8], [9], [10], [10, 11], [10, 12], [13], [14], [14, 15], [14, 16], [17], [18], [18, 19], [18, 20], [18, 21], [22], [22, 23], [22, 24], [22, 25], [26], [26, 27], [26], [26, 29], [26, 28, 30], [22, 26, 31], [18, 22, 32], [18, 33], [34], [35], [35, 36], [35, 37], [35, 38], [39], [39, 40], [39, 41], [39, 42], [43], [43, 44], [43], [43, 46]] [(Yd.val u163), (Yd.val (Value.int .i64 (k : Int))), (Yd.val (eptr u163 (k * 2))), (Yd.val (Value.agg #[(Value.int .i64 (((ratesF R (rs ++ [mo])).getD k (0, 0)).1)), (Value.int .i64 (((ratesF R (rs ++ [mo])).getD k (0, 0)).2))])), (Yd.val u125), (Yd.val (Value.int .i64 (k : Int))), (Yd.val (eptr u125 (k * 2))), (Yd.val (Value.agg #[(Value.int .i64 (((ratesF R rs).getD k (0, 0)).1)), (Value.int .i64 (((ratesF R rs).getD k (0, 0)).2))])), (Yd.val (Value.bool true)), (Yd.val (Value.bool (!true))), (Yd.val (Value.bool (!true))), (Yd.val (Value.int .i64 0)), (Yd.val (Value.bool false)), (Yd.val (Value.bool false)), (Yd.val (Value.bool false)), (Yd.val (Value.int .i64 0)), (Yd.val (Value.bool false)), (Yd.val (Value.bool false)), (Yd.val (Value.bool false)), (Yd.val (bptr b910 1)), (Yd.val (Value.int .i64 ((lifeR (allowedF R rs) k s).2))), (Yd.val (Value.bool (!false))), (Yd.val (Value.bool (!false))), (Yd.val (bptr b956 1)), (Yd.val (Value.int .i64 ((lifeR (allowedF R (rs ++ [mo])) k s).2))), (Yd.val (Value.bool false)), (Yd.val (Value.bool false)), (Yd.val (bptr b956 1)), (Yd.val (Value.int .i64 ((lifeR (allowedF R (rs ++ [mo])) k s).2))), (Yd.val (bptr b910 1)), (Yd.val (Value.int .i64 ((lifeR (allowedF R rs) k s).2))), (Yd.val (Value.bool false)), (Yd.val (Value.bool false)), (Yd.val (Value.bool false)), (Yd.val (Value.bool false)), (Yd.val (Value.bool false)), (Yd.val (bptr b956 0)), (Yd.val (Value.int .i64 ((lifeR (allowedF R (rs ++ [mo])) k s).1))), (Yd.val (Value.bool (!false))), (Yd.val (Value.bool (!false))), (Yd.val (bptr b910 0)), (Yd.val (Value.int .i64 ((lifeR (allowedF R rs) k s).1))), (Yd.val (Value.bool false)), (Yd.val (Value.bool false)), (Yd.val (bptr b956 0)), (Yd.val (Value.int .i64 ((lifeR (allowedF R (rs ++ [mo])) k s).1))), (Yd.val (bptr b910 0)), (Yd.val (Value.int .i64 ((lifeR (allowedF R rs) k s).1)))] (by decide +kernel) rfl rfl ?_ ?_
      ·skip
       refine ⟨fun a w hA hS hd => by exact opG_of rfl (dv (op_move rfl (hA.ev rfl)) hS rfl), ?_⟩
       refine ⟨fun a w hA hS hd => by exact opG_of rfl (dv (op_move rfl (hA.ev rfl)) hS rfl), ?_⟩
       refine ⟨fun a w hA hS hd => by have e0 := has_ev (hd 0 (by decide)) rfl (fun _ h => h); have e1 := has_ev (hd 1 (by decide)) rfl (fun _ h => h); exact opG_of rfl (dv (op_indexS rfl un_28 ty_42 (tmp_ev e0) (i := k) (tmp_ev e1) (SlAt.of_row (hS.ok_row 17 rfl)) (by decide) (by omega)) hS rfl), ?_⟩
       refine ⟨fun a w hA hS hd => by have e2 := has_ev (hd 2 (by decide)) rfl (fun _ h => h); exact opG_of rfl (dv (op_loadAE rfl ty_42 (tmp_ev e2) (SlAt.of_row (hS.ok_row 17 rfl)) (pairs_all (by omega)) rfl (by decide)) hS rfl), ?_⟩
       refine ⟨fun a w hA hS hd => by exact opG_of rfl (dv (op_move rfl (hA.ev rfl)) hS rfl), ?_⟩
       refine ⟨fun a w hA hS hd => by exact opG_of rfl (dv (op_move rfl (hA.ev rfl)) hS rfl), ?_⟩
       refine ⟨fun a w hA hS hd => by have e4 := has_ev (hd 4 (by decide)) rfl (fun _ h => h); have e5 := has_ev (hd 5 (by decide)) rfl (fun _ h => h); exact opG_of rfl (dv (op_indexS rfl un_28 ty_42 (tmp_ev e4) (i := k) (tmp_ev e5) (SlAt.of_row (hS.ok_row 20 rfl)) (by decide) (by omega)) hS rfl), ?_⟩
       refine ⟨fun a w hA hS hd => by have e6 := has_ev (hd 6 (by decide)) rfl (fun _ h => h); exact opG_of rfl (dv (op_loadAE rfl ty_42 (tmp_ev e6) (SlAt.of_row (hS.ok_row 20 rfl)) (pairs_all (by omega)) rfl (by decide)) hS rfl), ?_⟩
       refine ⟨fun a w hA hS hd => by have e3 := has_ev (hd 3 (by decide)) rfl (fun _ h => h); have e7 := has_ev (hd 7 (by decide)) rfl (fun _ h => h); exact opG_of rfl (dx (op_call rfl en_30 (ev2 (tmp_ev e3) (tmp_ev e7)) (inside_ok _ _ _ _ _)) hS (fun _ => (by show Value.bool _ = _; simp only [(show (decide ((((ratesF R rs).getD k (0, 0)).1) ≤ (((ratesF R (rs ++ [mo])).getD k (0, 0)).1)) && decide ((((ratesF R (rs ++ [mo])).getD k (0, 0)).2) ≤ (((ratesF R rs).getD k (0, 0)).2))) = true from (by have hz_ := rates_sub (b := k) hal2 hsub (by omega); simp only [Bool.and_eq_true, decide_eq_true_eq]; exact hz_)), decide_true, decide_false, Bool.not_true, Bool.not_false]))), ?_⟩
       refine ⟨fun a w hA hS hd => by have e8 := has_ev (hd 8 (by decide)) rfl (fun _ h => h); exact opG_of rfl (dv (op_not rfl (tmp_ev e8)) hS rfl), ?_⟩
       refine ⟨fun a w hA hS hd => by have e9 := has_ev (hd 9 (by decide)) rfl (fun _ h => h); exact opG_of rfl (dv (op_move rfl (tmp_ev e9)) hS rfl), ?_⟩
       refine ⟨fun a w hA hS hd => by have e10 := has_ev (hd 10 (by decide)) rfl (fun _ h => h); exact opG_yes rfl rfl e10 (dv (op_move rfl (hA.ev rfl)) hS rfl), ?_⟩
       refine ⟨fun a w hA hS hd => by have e10 := has_ev (hd 10 (by decide)) rfl (fun _ h => h); have e11 := has_ev (hd 11 (by decide)) rfl (fun _ h => h); exact opG_yes rfl rfl e10 (dv (op_neq rfl (tmp_ev e11) (evc _ _)) hS rfl), ?_⟩
       refine ⟨fun a w hA hS hd => by have e10 := has_ev (hd 10 (by decide)) rfl (fun _ h => h); have e12 := has_ev (hd 12 (by decide)) rfl (fun _ h => h); exact opG_of rfl (dv (op_pick_f rfl (tmp_ev e10) (tmp_ev e12)) hS rfl), ?_⟩
       refine ⟨fun a w hA hS hd => by have e13 := has_ev (hd 13 (by decide)) rfl (fun _ h => h); exact opG_of rfl (dv (op_move rfl (tmp_ev e13)) hS rfl), ?_⟩
       refine ⟨fun a w hA hS hd => by have e14 := has_ev (hd 14 (by decide)) rfl (fun _ h => h); exact opG_yes rfl rfl e14 (dv (op_move rfl (hA.ev rfl)) hS rfl), ?_⟩
       refine ⟨fun a w hA hS hd => by have e14 := has_ev (hd 14 (by decide)) rfl (fun _ h => h); have e15 := has_ev (hd 15 (by decide)) rfl (fun _ h => h); exact opG_yes rfl rfl e14 (dv (op_neq rfl (tmp_ev e15) (evc _ _)) hS rfl), ?_⟩
       refine ⟨fun a w hA hS hd => by have e14 := has_ev (hd 14 (by decide)) rfl (fun _ h => h); have e16 := has_ev (hd 16 (by decide)) rfl (fun _ h => h); exact opG_of rfl (dv (op_pick_f rfl (tmp_ev e14) (tmp_ev e16)) hS rfl), ?_⟩
       refine ⟨fun a w hA hS hd => by have e17 := has_ev (hd 17 (by decide)) rfl (fun _ h => h); exact opG_of rfl (dv (op_move rfl (tmp_ev e17)) hS rfl), ?_⟩
       refine ⟨fun a w hA hS hd => by have e18 := has_ev (hd 18 (by decide)) rfl (fun _ h => h); exact opG_yes rfl rfl e18 (dv (op_field rfl fd_42_1 (hA.ev rfl)) hS rfl), ?_⟩
       refine ⟨fun a w hA hS hd => by have e18 := has_ev (hd 18 (by decide)) rfl (fun _ h => h); have e19 := has_ev (hd 19 (by decide)) rfl (fun _ h => h); exact opG_yes rfl rfl e18 (dv (op_load1 rfl ty_3 (tmp_ev e19) (hS.bk 3 rfl) rfl) hS rfl), ?_⟩
       refine ⟨fun a w hA hS hd => by have e18 := has_ev (hd 18 (by decide)) rfl (fun _ h => h); have e20 := has_ev (hd 20 (by decide)) rfl (fun _ h => h); exact opG_yes rfl rfl e18 (dv (op_neq rfl (tmp_ev e20) (evc _ _)) hS (by show Value.bool _ = _; simp only [decide_eq_false hb967, decide_true, decide_false, Bool.not_true, Bool.not_false])), ?_⟩
       refine ⟨fun a w hA hS hd => by have e18 := has_ev (hd 18 (by decide)) rfl (fun _ h => h); have e21 := has_ev (hd 21 (by decide)) rfl (fun _ h => h); exact opG_yes rfl rfl e18 (dv (op_move rfl (tmp_ev e21)) hS rfl), ?_⟩
       refine ⟨fun a w hA hS hd => by have e22 := has_ev (hd 22 (by decide)) rfl (fun _ h => h); exact opG_yes rfl rfl e22 (dv (op_field rfl fd_42_1 (hA.ev rfl)) hS rfl), ?_⟩
       refine ⟨fun a w hA hS hd => by have e22 := has_ev (hd 22 (by decide)) rfl (fun _ h => h); have e23 := has_ev (hd 23 (by decide)) rfl (fun _ h => h); exact opG_yes rfl rfl e22 (dv (op_load1 rfl ty_3 (tmp_ev e23) (hS.bk 0 rfl) rfl) hS rfl), ?_⟩
       refine ⟨fun a w hA hS hd => by have e22 := has_ev (hd 22 (by decide)) rfl (fun _ h => h); have e24 := has_ev (hd 24 (by decide)) rfl (fun _ h => h); exact opG_yes rfl rfl e22 (dv (op_eql rfl (tmp_ev e24) (evc _ _)) hS (by show Value.bool _ = _; simp only [decide_eq_false (show ¬ (((lifeR (allowedF R (rs ++ [mo])) k s).2) = (-1)) from (by omega)), decide_true, decide_false, Bool.not_true, Bool.not_false])), ?_⟩
       refine ⟨fun a w hA hS hd => by have e22 := has_ev (hd 22 (by decide)) rfl (fun _ h => h); have e25 := has_ev (hd 25 (by decide)) rfl (fun _ h => h); exact opG_yes rfl rfl e22 (dv (op_move rfl (tmp_ev e25)) hS rfl), ?_⟩
       refine ⟨fun a w hA hS hd => by have e26 := has_ev (hd 26 (by decide)) rfl (fun _ h => h); exact opG_yes rfl rfl e26 (dv (op_field rfl fd_42_1 (hA.ev rfl)) hS rfl), ?_⟩
       refine ⟨fun a w hA hS hd => by have e26 := has_ev (hd 26 (by decide)) rfl (fun _ h => h); have e27 := has_ev (hd 27 (by decide)) rfl (fun _ h => h); exact opG_yes rfl rfl e26 (dv (op_load1 rfl ty_3 (tmp_ev e27) (hS.bk 0 rfl) rfl) hS rfl), ?_⟩
       refine ⟨fun a w hA hS hd => by have e26 := has_ev (hd 26 (by decide)) rfl (fun _ h => h); exact opG_yes rfl rfl e26 (dv (op_field rfl fd_42_1 (hA.ev rfl)) hS rfl), ?_⟩
       refine ⟨fun a w hA hS hd => by have e26 := has_ev (hd 26 (by decide)) rfl (fun _ h => h); have e29 := has_ev (hd 29 (by decide)) rfl (fun _ h => h); exact opG_yes rfl rfl e26 (dv (op_load1 rfl ty_3 (tmp_ev e29) (hS.bk 3 rfl) rfl) hS rfl), ?_⟩
       refine ⟨fun a w hA hS hd => by have e26 := has_ev (hd 26 (by decide)) rfl (fun _ h => h); have e28 := has_ev (hd 28 (by decide)) rfl (fun _ h => h); have e30 := has_ev (hd 30 (by decide)) rfl (fun _ h => h); exact opG_yes rfl rfl e26 (dv (op_gtr rfl (tmp_ev e28) (tmp_ev e30)) hS (by show Value.bool _ = _; simp only [decide_eq_false (show ¬ (((lifeR (allowedF R rs) k s).2) < ((lifeR (allowedF R (rs ++ [mo])) k s).2)) from (by omega)), decide_true, decide_false, Bool.not_true, Bool.not_false])), ?_⟩
       refine ⟨fun a w hA hS hd => by have e22 := has_ev (hd 22 (by decide)) rfl (fun _ h => h); have e26 := has_ev (hd 26 (by decide)) rfl (fun _ h => h); have e31 := has_ev (hd 31 (by decide)) rfl (fun _ h => h); exact opG_yes rfl rfl e22 (dv (op_pick_f rfl (tmp_ev e26) (tmp_ev e31)) hS rfl), ?_⟩
       refine ⟨fun a w hA hS hd => by have e18 := has_ev (hd 18 (by decide)) rfl (fun _ h => h); have e22 := has_ev (hd 22 (by decide)) rfl (fun _ h => h); have e32 := has_ev (hd 32 (by decide)) rfl (fun _ h => h); exact opG_yes rfl rfl e18 (dv (op_pick_t rfl (tmp_ev e22) (tmp_ev e32)) hS rfl), ?_⟩
       refine ⟨fun a w hA hS hd => by have e18 := has_ev (hd 18 (by decide)) rfl (fun _ h => h); have e33 := has_ev (hd 33 (by decide)) rfl (fun _ h => h); exact opG_of rfl (dv (op_pick_f rfl (tmp_ev e18) (tmp_ev e33)) hS rfl), ?_⟩
       refine ⟨fun a w hA hS hd => by have e34 := has_ev (hd 34 (by decide)) rfl (fun _ h => h); exact opG_of rfl (dv (op_move rfl (tmp_ev e34)) hS rfl), ?_⟩
       refine ⟨fun a w hA hS hd => by have e35 := has_ev (hd 35 (by decide)) rfl (fun _ h => h); exact opG_yes rfl rfl e35 (dv (op_field rfl fd_42_0 (hA.ev rfl)) hS rfl), ?_⟩
       refine ⟨fun a w hA hS hd => by have e35 := has_ev (hd 35 (by decide)) rfl (fun _ h => h); have e36 := has_ev (hd 36 (by decide)) rfl (fun _ h => h); exact opG_yes rfl rfl e35 (dv (op_load1 rfl ty_3 (tmp_ev e36) (hS.bk 0 rfl) rfl) hS rfl), ?_⟩
       refine ⟨fun a w hA hS hd => by have e35 := has_ev (hd 35 (by decide)) rfl (fun _ h => h); have e37 := has_ev (hd 37 (by decide)) rfl (fun _ h => h); exact opG_yes rfl rfl e35 (dv (op_neq rfl (tmp_ev e37) (evc _ _)) hS (by show Value.bool _ = _; simp only [decide_eq_false hb1030, decide_true, decide_false, Bool.not_true, Bool.not_false])), ?_⟩
       refine ⟨fun a w hA hS hd => by have e35 := has_ev (hd 35 (by decide)) rfl (fun _ h => h); have e38 := has_ev (hd 38 (by decide)) rfl (fun _ h => h); exact opG_yes rfl rfl e35 (dv (op_move rfl (tmp_ev e38)) hS rfl), ?_⟩
       refine ⟨fun a w hA hS hd => by have e39 := has_ev (hd 39 (by decide)) rfl (fun _ h => h); exact opG_yes rfl rfl e39 (dv (op_field rfl fd_42_0 (hA.ev rfl)) hS rfl), ?_⟩
       refine ⟨fun a w hA hS hd => by have e39 := has_ev (hd 39 (by decide)) rfl (fun _ h => h); have e40 := has_ev (hd 40 (by decide)) rfl (fun _ h => h); exact opG_yes rfl rfl e39 (dv (op_load1 rfl ty_3 (tmp_ev e40) (hS.bk 3 rfl) rfl) hS rfl), ?_⟩
       refine ⟨fun a w hA hS hd => by have e39 := has_ev (hd 39 (by decide)) rfl (fun _ h => h); have e41 := has_ev (hd 41 (by decide)) rfl (fun _ h => h); exact opG_yes rfl rfl e39 (dv (op_eql rfl (tmp_ev e41) (evc _ _)) hS (by show Value.bool _ = _; simp only [decide_eq_false (show ¬ (((lifeR (allowedF R rs) k s).1) = (-1)) from (by omega)), decide_true, decide_false, Bool.not_true, Bool.not_false])), ?_⟩
       refine ⟨fun a w hA hS hd => by have e39 := has_ev (hd 39 (by decide)) rfl (fun _ h => h); have e42 := has_ev (hd 42 (by decide)) rfl (fun _ h => h); exact opG_yes rfl rfl e39 (dv (op_move rfl (tmp_ev e42)) hS rfl), ?_⟩
       refine ⟨fun a w hA hS hd => by have e43 := has_ev (hd 43 (by decide)) rfl (fun _ h => h); exact opG_yes rfl rfl e43 (dv (op_field rfl fd_42_0 (hA.ev rfl)) hS rfl), ?_⟩
       refine ⟨fun a w hA hS hd => by have e43 := has_ev (hd 43 (by decide)) rfl (fun _ h => h); have e44 := has_ev (hd 44 (by decide)) rfl (fun _ h => h); exact opG_yes rfl rfl e43 (dv (op_load1 rfl ty_3 (tmp_ev e44) (hS.bk 0 rfl) rfl) hS rfl), ?_⟩
       refine ⟨fun a w hA hS hd => by have e43 := has_ev (hd 43 (by decide)) rfl (fun _ h => h); exact opG_yes rfl rfl e43 (dv (op_field rfl fd_42_0 (hA.ev rfl)) hS rfl), ?_⟩
       refine ⟨fun a w hA hS hd => by have e43 := has_ev (hd 43 (by decide)) rfl (fun _ h => h); have e46 := has_ev (hd 46 (by decide)) rfl (fun _ h => h); exact opG_yes rfl rfl e43 (dv (op_load1 rfl ty_3 (tmp_ev e46) (hS.bk 3 rfl) rfl) hS rfl), ?_⟩
       trivial
      intro a1061 w1062 hA1063 hS1064 hH1065; clear hA1059 hS961
      have hA1066 := hA1063.add (has_ev (hH1065 35 (by decide)) rfl (fun _ h => h)); clear hA1063
      have hA1067 := hA1066.add (has_ev (hH1065 39 (by decide)) rfl (fun _ h => h)); clear hA1066
      have hA1068 := hA1067.add (has_ev (hH1065 43 (by decide)) rfl (fun _ h => h)); clear hA1067
      have hA1069 := hA1068.add (has_ev (hH1065 45 (by decide)) rfl (fun _ h => h)); clear hA1068
      have hA1070 := hA1069.add (has_ev (hH1065 47 (by decide)) rfl (fun _ h => h)); clear hA1069
      clear hH1065
      refine stg hA1070 (op_lss rfl (hA1070.ev rfl) (hA1070.ev rfl)) rfl rfl rfl rfl (by decide) fun a1071 hA1072 => ?_; clear hA1070 a1061
      have hd1073 : ¬ (((lifeR (allowedF R (rs ++ [mo])) k s).1) < ((lifeR (allowedF R rs) k s).1)) := (by omega)
      rw [decide_eq_false hd1073] at hA1072
      refine stg hA1072 (op_pick_f rfl (hA1072.ev rfl) (hA1072.ev rfl)) rfl rfl rfl rfl (by decide) fun a1074 hA1075 => ?_; clear hA1072 a1071
      refine stg hA1075 (op_pick_t rfl (hA1075.ev rfl) (hA1075.ev rfl)) rfl rfl rfl rfl (by decide) fun a1076 hA1077 => ?_; clear hA1075 a1074
      refine st hA1077 (op_pick_f rfl (hA1077.ev rfl) (hA1077.ev rfl)) rfl rfl (by decide) fun a1078 hA1079 => ?_; clear hA1077 a1076
      refine wl_nil ?_
      refine then_n ?_
      refine c_false hA1079 rfl ?_
      refine c_skip ?_
      refine blk_n ?_
      refine then_n ?_
      have hA1080 := hA1079.as [(26, (Value.int .i64 (k : Int))), (16, u163), (13, u125), (11, v27), (5, (bptr b4 0)), (1, vu), (4, (Value.int .u32 s))] rfl; clear hA1079
      refine c_region ?_
      refine st hA1080 (op_move rfl (hA1080.ev rfl)) rfl rfl (by decide) fun a1081 hA1082 => ?_; clear hA1080 a1078
      refine st hA1082 (op_add rfl (hA1082.ev rfl) (evc _ _) (by omega) (by omega)) rfl rfl (by decide) fun a1083 hA1084 => ?_; clear hA1082 a1081
      refine st hA1084 (op_assign rfl (hA1084.ev rfl)) rfl rfl (by decide) fun a1085 hA1086 => ?_; clear hA1084 a1083
      refine wl_nil ?_
      have hS1087 : Sep NoB w w1062 [(blk b818 42 [(Value.int .i64 (stLo plan (leastR R (rs ++ [mo]) plan))), (Value.int .i64 (stHi plan (mostR R (rs ++ [mo]) plan)))]), (row v803 67 3 plan.length (trips plan)), (runsR true v793 lv794 (rs ++ [mo])), (row u785 42 2 R.length (pairs R)), (blk b769 42 [(Value.int .i64 (stLo plan (leastR R rs plan))), (Value.int .i64 (stHi plan (mostR R rs plan)))]), (row v754 67 3 plan.length (trips plan)), (runsR true v744 lv745 rs), (row u736 42 2 R.length (pairs R)), (row u201 42 2 R.length (pairs (ratesF R (rs ++ [(⟨mo.segs, 0, 10000000000⟩ : RunD)])))), (runsR true v194 lv195 (rs ++ [(⟨mo.segs, 0, 10000000000⟩ : RunD)])), (row u186 42 2 R.length (pairs R)), (row u163 42 2 R.length (pairs (ratesF R (rs ++ [mo])))), (runsR true v156 lv157 (rs ++ [mo])), (row u148 42 2 R.length (pairs R)), (row u125 42 2 R.length (pairs (ratesF R rs))), (runsR true v118 lv119 rs), (row u110 42 2 R.length (pairs R)), (runsR false v77 (lv ++ [um]) (rs ++ [(⟨mo.segs, 0, 10000000000⟩ : RunD)])), (runsR false v27 (lv ++ [um]) (rs ++ [mo])), (row (vs14 4) 54 3 1 [um, (Value.int .i64 mo.lo), (Value.int .i64 mo.hi)]), (blk b9 54 [um, (Value.int .i64 mo.lo), (Value.int .i64 mo.hi)]), (blk b4 24 [vr]), (sl um 3 mo.segs.length (trips mo.segs)), (sl vr 2 R.length (pairs R)), (runsR false vu lv rs), (sl vp 3 plan.length (trips plan))] := hS1064.keep [6, 7, 8, 9, 10, 11, 12, 13, 14, 15, 16, 17, 18, 19, 20, 21, 22, 23, 24, 25, 26, 27, 28, 29, 30, 31] (by decide) _ rfl rfl; clear hS1064
      exact then_n ⟨k + 1, ⟨hA1086.as _ rfl, hS1087, by omega⟩, by omega⟩
   ·skip
    rw [decide_eq_false hb872] at hA871
    refine c_false hA871 rfl ?_
    refine c_exit ?_
    refine then_exit ?_
    refine then_exit ?_
    refine blk_hit ?_
    refine then_n ?_
    refine c_seq ?_
    have hA1088 := hA871.as [] rfl; clear hA871
    refine c_region ?_
    refine stw hA1088 (op_call rfl en_17 ev0 (awake_ok _)) rfl rfl (by decide) ?_
    rintro a1089 _ w1091 ⟨rfl, hE1092⟩ hA1090; have hS1093 := hS863.step hE1092; clear hE1092 hA1088 hS863 a870
    refine st hA1090 (op_assign rfl (hA1090.ev rfl)) rfl rfl (by decide) fun a1094 hA1095 => ?_; clear hA1090 a1089
    refine wl_nil ?_
    refine then_n ?_
    refine c_ret ?_
    refine fin_run hA1095 (.inl rfl) (run_results1 hA1095 rfl (.tmp rfl)) ?_
    exact ⟨rfl, hS1093.ext⟩
theorem CreepMore_ok (w : World) (R : List (Int × Int)) (vr : Value) (hm : SlAt w vr 2 R.length (pairs R)) (rs : List RunD) (lv : List Value) (vu : Value) (hx : RunsAt w vu lv rs) (plan : List Seg) (vp : Value) (hp : SlAt w vp 3 plan.length (trips plan)) (mo : RunD) (um : Value) (hu : SlAt w um 3 mo.segs.length (trips mo.segs)) (s : Int) (hS_ : 0 ≤ s ∧ s ≤ 4294967295) (hsz : rs.length * 40 ≤ 140737488351232) : Calls Try.prog 6 #[.agg #[vr], vu, vp, .agg #[um, .int .i64 mo.lo, .int .i64 mo.hi], .int .u32 s] w (Ret fun v w' => v = .bool true ∧ Ext NoB w w') := by
 rcases Bool.eq_false_or_eq_true (readyB R rs plan) with hf | hf
 ·rcases Bool.eq_false_or_eq_true (readyB R (rs ++ [mo]) plan) with hf2 | hf2
  ·rcases poss_09 (ready_is hf).2.1 with hc | hc
   ·rcases poss_09 (ready_is hf2).2.1 with hc2 | hc2
    ·exact CreepMore_e w R vr hm rs lv vu hx plan vp hp mo um hu s hS_ hsz hf hf2 hc hc2
    ·exact CreepMore_d w R vr hm rs lv vu hx plan vp hp mo um hu s hS_ hsz hf hf2 hc hc2
   ·exact CreepMore_c w R vr hm rs lv vu hx plan vp hp mo um hu s hS_ hsz hf hf2 hc
  ·exact CreepMore_b w R vr hm rs lv vu hx plan vp hp mo um hu s hS_ hsz hf hf2
 ·exact CreepMore_a w R vr hm rs lv vu hx plan vp hp mo um hu s hS_ hsz hf
end Go.Proofs.Ytkkglkdnnfegkaa
