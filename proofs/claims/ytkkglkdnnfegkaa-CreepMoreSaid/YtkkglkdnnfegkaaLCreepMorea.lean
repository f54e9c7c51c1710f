/-
  Walks through the functions of the seat, printed by a program of ours (gowalk), a theorem a function: what the call returns and what it leaves in memory.
-/
import Derived.Test.YtkkglkdnnfegkaaBc
import Derived.Test.YtkkglkdnnfegkaaEnga
import Derived.Test.YtkkglkdnnfegkaaEngb
set_option linter.unusedSimpArgs false
set_option linter.unusedVariables false
namespace Go.Proofs.Ytkkglkdnnfegkaa
open Go.RowKit Go.Shelf Go.Eng
set_option maxHeartbeats 4000000 in
theorem CreepMore_a (w : World) (R : List (Int × Int)) (vr : Value) (hm : SlAt w vr 2 R.length (pairs R)) (rs : List RunD) (lv : List Value) (vu : Value) (hx : RunsAt w vu lv rs) (plan : List Seg) (vp : Value) (hp : SlAt w vp 3 plan.length (trips plan)) (mo : RunD) (um : Value) (hu : SlAt w um 3 mo.segs.length (trips mo.segs)) (s : Int) (hS_ : 0 ≤ s ∧ s ≤ 4294967295) (hsz : rs.length * 40 ≤ 140737488351232) (hf : readyB R rs plan = false) :
  Calls Try.prog 6 #[(Value.agg #[vr]), vu, vp, (Value.agg #[um, (Value.int .i64 mo.lo), (Value.int .i64 mo.hi)]), (Value.int .u32 s)] w (Ret fun v w' => v = .bool true ∧ Ext NoB w w') := by
 refine calls_enter Try.func6 rfl fun a0 hA0 => ?_
 replace hA0 : Fr 252 [] [(0, (Value.agg #[vr])), (1, vu), (2, vp), (3, (Value.agg #[um, (Value.int .i64 mo.lo), (Value.int .i64 mo.hi)])), (4, (Value.int .u32 s))] a0 := hA0
 have hll_ : (lv ++ [um]).length = (rs ++ [mo]).length := by rw [List.length_append, List.length_append, hx.len]; rfl
 have hxl : (rs ++ [mo]).length = rs.length + 1 := by rw [List.length_append]; rfl
 have hxa : (rs ++ [(⟨mo.segs, 0, 10000000000⟩ : RunD)]).length = rs.length + 1 := by rw [List.length_append]; rfl
 have hS0 : Sep NoB w w [(sl um 3 mo.segs.length (trips mo.segs)), (sl vr 2 R.length (pairs R)), (runsR false vu lv rs), (sl vp 3 plan.length (trips plan))] := sep_ro ⟨rfl, hu, rfl, hm, rfl, hx, rfl, hp, trivial⟩
 refine c_seq ?_
 refine c_region ?_
 refine stw hA0 (op_box hS0 rfl (hA0.ev rfl) (cs := [vr]) rfl) rfl rfl (by decide) ?_
 rintro a1 _ w3 ⟨b4, rfl, hS5⟩ hA2; clear hA0 hS0 a0
 refine stw hA2 (op_box hS5 rfl (hA2.ev rfl) (cs := [um, (Value.int .i64 mo.lo), (Value.int .i64 mo.hi)]) rfl) rfl rfl (by decide) ?_
 rintro a6 _ w8 ⟨b9, rfl, hS10⟩ hA7; clear hA2 hS5 a1
 refine st hA7 (op_assign rfl (evc _ _)) rfl rfl (by decide) fun a11 hA12 => ?_; clear hA7 a6
 refine wl_nil ?_
 refine then_n ?_
 refine c_seq ?_
 have hA13 := hA12.as [(8, (bptr b9 0)), (5, (bptr b4 0)), (1, vu), (2, vp), (4, (Value.int .u32 s))] rfl; clear hA12
 refine c_drawCC mixed hA13 hS10 5 [(2, 0)] [[], [], [0, 1], [], [3]] [(fun (vs14 : Nat → Value) (v_ : Value) (rs_ : List Res) => ∃ (b0_ : Nat), v_ = (Value.slice (some ⟨b0_, 0, none⟩) 0 0) ∧ rs_ = [(blk b0_ 54 [])]), (fun (vs14 : Nat → Value) (v_ : Value) (rs_ : List Res) => v_ = vu ∧ rs_ = []), (fun (vs14 : Nat → Value) (v_ : Value) (rs_ : List Res) => True ∧ rs_ = [(row v_ 54 3 rs.length (vtrips (runV lv rs)))]), (fun (vs14 : Nat → Value) (v_ : Value) (rs_ : List Res) => v_ = (Value.agg #[um, (Value.int .i64 mo.lo), (Value.int .i64 mo.hi)]) ∧ rs_ = []), (fun (vs14 : Nat → Value) (v_ : Value) (rs_ : List Res) => True ∧ rs_ = [(row v_ 54 3 1 [um, (Value.int .i64 mo.lo), (Value.int .i64 mo.hi)])])] (by decide +kernel) (by decide +kernel) (by decide +kernel) (by decide +kernel) rfl rfl ⟨(fun _ _ _ _ _ h_ => h_), (fun _ _ _ _ _ h_ => h_), (fun _ _ _ _ _ h_ => h_), (fun _ _ _ _ _ h_ => h_), (fun _ _ _ _ _ h_ => h_), trivial⟩ (by decide +kernel) ?_ ?_ ?_
 ·skip
  refine ⟨fun hj_ a w vs14 hA hS hd => ?_, ?_⟩
  ·skip
   exact opG_of rfl (vblz rfl pv0 un_25 ty_54 ze_54 bs_54_0_ (fun b_ => ⟨b_, rfl, rfl⟩))
  refine ⟨fun hj_ a w vs14 hA hS hd => ?_, ?_⟩
  ·skip
   exact opG_of rfl (vv (op_move rfl (hA.ev rfl)) (And.intro rfl rfl))
  refine ⟨fun hj_ => absurd hj_ (by decide), ?_⟩
  refine ⟨fun hj_ a w vs14 hA hS hd => ?_, ?_⟩
  ·skip
   exact opG_of rfl (vv (op_loadA rfl ty_54 (hA.ev rfl) (hS.bk 0 rfl) (l := [um, (Value.int .i64 mo.lo), (Value.int .i64 mo.hi)]) rfl rfl) (And.intro rfl rfl))
  refine ⟨fun hj_ a w vs14 hA hS hd => ?_, ?_⟩
  ·skip
   obtain ⟨e3, rs3, hy3, hp3⟩ := hd 3 (by decide)
   obtain ⟨hv3, hr3⟩ := hy3; subst hr3
   rw [hv3] at e3
   exact opG_of rfl (vblt rfl (pv1 (tmp_ev (slot_ev e3 rfl))) un_25 ty_54 ze_54 (by decide) (cs := [um, (Value.int .i64 mo.lo), (Value.int .i64 mo.hi)]) (bs_54_1_0viia _ _ _) rfl (by decide) (fun _ => And.intro trivial rfl))
  trivial
 ·skip
  refine ⟨fun o_ ho_ => ?_, ?_⟩
  ·skip
   obtain rfl := Option.some.inj ho_; clear ho_
   intro a w vs14 rs0 Lr hA hs0 hy0 hd hL hS
   obtain ⟨b0_, hv0, hr0⟩ := hy0; subst hr0
   rw [hv0] at hs0
   replace hS := hS.blk_row (i := 0) (sz := 3) (n := 0) rfl rfl (by decide)
   obtain ⟨e1, rs1, hy1, hp1⟩ := hd 1 (by decide) (by decide)
   obtain ⟨hv1, hr1⟩ := hy1; subst hr1
   rw [hv1] at e1
   exact opG_of rfl (opY_mono (op_append hS rfl un_25 el_54 (tmp_ev (slot_ev hs0 rfl)) (tmp_ev (slot_ev e1 rfl)) (i := 0) rfl (runs_at (hL.ok 4 _ rfl)).runs (runs_one (runs_at (hL.ok 4 _ rfl)).len (runs_at (hL.ok 4 _ rfl)).segs) (by simp only [maxLen]; omega) (by omega)) fun v_ w_ h_ => ⟨_, And.intro trivial rfl, h_.row_say (i := 0) rfl (n' := rs.length) (xs' := (vtrips (runV lv rs))) (by simp) (by simp)⟩)
  trivial
 ·skip
  intro a15 w16 vs14 rsf20 hA17 hH19 hrq hS18; clear hA13 hS10
  have hrq_0 := hrq (2, 0) (by decide)
  obtain ⟨hs_1, hy_1⟩ := hH19 1 (by decide) (by decide)
  obtain ⟨hv_1, hr_1⟩ := hy_1
  obtain ⟨hs_2, hy_2⟩ := hH19 2 (by decide) (by decide)
  obtain ⟨hv_2, hr_2⟩ := hy_2
  obtain ⟨hs_3, hy_3⟩ := hH19 3 (by decide) (by decide)
  obtain ⟨hv_3, hr_3⟩ := hy_3
  obtain ⟨hs_4, hy_4⟩ := hH19 4 (by decide) (by decide)
  obtain ⟨hv_4, hr_4⟩ := hy_4
  have hS21 : Sep NoB w w16 [(row (vs14 2) 54 3 rs.length (vtrips (runV lv rs))), (row (vs14 4) 54 3 1 [um, (Value.int .i64 mo.lo), (Value.int .i64 mo.hi)]), (blk b9 54 [um, (Value.int .i64 mo.lo), (Value.int .i64 mo.hi)]), (blk b4 24 [vr]), (sl um 3 mo.segs.length (trips mo.segs)), (sl vr 2 R.length (pairs R)), (runsR false vu lv rs), (sl vp 3 plan.length (trips plan))] := by rw [show catR rsf20 0 5 = ([(row (vs14 2) 54 3 rs.length (vtrips (runV lv rs))), (row (vs14 4) 54 3 1 [um, (Value.int .i64 mo.lo), (Value.int .i64 mo.hi)])] : List Res) by (try simp only [catR, hr_1, hr_2, hr_3, hr_4, hrq_0]); (try rfl)] at hS18; exact hS18
  have hA22 : Fr 252 [] [(33, (vs14 2)), (8, (bptr b9 0)), (5, (bptr b4 0)), (1, vu), (2, vp), (4, (Value.int .u32 s))] a15 := hA17.add (slot_ev hs_2 rfl); clear hA17
  have hA23 : Fr 252 [] [(35, (vs14 4)), (33, (vs14 2)), (8, (bptr b9 0)), (5, (bptr b4 0)), (1, vu), (2, vp), (4, (Value.int .u32 s))] a15 := hA22.add (slot_ev hs_4 rfl); clear hA22
  clear hH19 hS18 hs_1 hs_2 hs_3 hs_4 hrq hrq_0
  clear hr_1
  clear hv_1
  clear hr_2
  clear hv_2
  clear hr_3
  clear hv_3
  clear hr_4
  clear hv_4
  refine stw hA23 (op_append hS21 rfl un_25 el_54 (hA23.ev rfl) (hA23.ev rfl) (i := 0) rfl (SlAt.of_row (hS21.ok_row 1 rfl)) (all_c (SlAt.one (hS21.sk 4 rfl)) (all_c rfl (all_c rfl all_n))) (by simp only [maxLen]; omega) (by omega)) rfl rfl (by decide) ?_
  intro a24 v27 w26 hS28 hA25
  have hS29 := hS28.row_say (i := 0) rfl (n' := (rs ++ [mo]).length) (xs' := (vtrips (runV (lv ++ [um]) (rs ++ [mo])))) (by simp) (runs_snoc (runs_at (hS21.ok 6 _ rfl)).len um mo); clear hS28 hA23 hS21 a15
  refine st hA25 (op_assign rfl (hA25.ev rfl)) rfl rfl (by decide) fun a30 hA31 => ?_; clear hA25 a24
  refine wl_nil ?_
  refine then_n ?_
  refine c_seq ?_
  refine c_seq ?_
  have hS32 := hS29.segs_app (x := mo) (i := 6) (j := 4) rfl rfl; clear hS29
  have hS33 : Sep NoB w w26 [(row v27 54 3 ((rs ++ [mo]).length) (vtrips (runV (lv ++ [um]) (rs ++ [mo])))), (segsR false (lv ++ [um]) (rs ++ [mo])), (row (vs14 4) 54 3 1 [um, (Value.int .i64 mo.lo), (Value.int .i64 mo.hi)]), (blk b9 54 [um, (Value.int .i64 mo.lo), (Value.int .i64 mo.hi)]), (blk b4 24 [vr]), (sl um 3 mo.segs.length (trips mo.segs)), (sl vr 2 R.length (pairs R)), (runsR false vu lv rs), (sl vp 3 plan.length (trips plan))] := hS32.keep [1, 0, 2, 3, 4, 5, 6, 7, 8] (by decide) _ rfl rfl; clear hS32
  have hS34 := hS33.runs_ro rfl; clear hS33
  refine c_region ?_
  refine st hA31 (op_loadA rfl ty_24 (hA31.ev rfl) (hS34.bk 3 rfl) (l := [vr]) rfl rfl) rfl rfl (by decide) fun a35 hA36 => ?_; clear hA31 a30
  refine st hA36 (op_move rfl (hA36.ev rfl)) rfl rfl (by decide) fun a37 hA38 => ?_; clear hA36 a35
  refine st hA38 (op_move rfl (hA38.ev rfl)) rfl rfl (by decide) fun a39 hA40 => ?_; clear hA38 a37
  refine stw hA40 (op_call rfl en_27 (ev3 (hA40.ev rfl) (hA40.ev rfl) (hA40.ev rfl)) (ready_ok _ R _ (hS34.sk 5 rfl) rs _ _ (runs_at (hS34.ok 6 _ rfl)) plan _ (hS34.sk 7 rfl))) rfl rfl (by decide) ?_
  rintro a41 _ w43 ⟨rfl, hE44⟩ hA42; have hS45 := hS34.step hE44; clear hE44 hA40 hS34 a39
  rw [hf] at hA42
  refine st hA42 (op_not rfl (hA42.ev rfl)) rfl rfl (by decide) fun a46 hA47 => ?_; clear hA42 a41
  refine st hA47 (op_move rfl (hA47.ev rfl)) rfl rfl (by decide) fun a48 hA49 => ?_; clear hA47 a46
  refine skp hA49 rfl rfl rfl rfl rfl (by decide) fun a50 hA51 => ?_; clear hA49 a48
  refine skp hA51 rfl rfl rfl rfl rfl (by decide) fun a52 hA53 => ?_; clear hA51 a50
  refine skp hA53 rfl rfl rfl rfl rfl (by decide) fun a54 hA55 => ?_; clear hA53 a52
  refine skp hA55 rfl rfl rfl rfl rfl (by decide) fun a56 hA57 => ?_; clear hA55 a54
  refine skp hA57 rfl rfl rfl rfl rfl (by decide) fun a58 hA59 => ?_; clear hA57 a56
  refine st hA59 (op_pick_t rfl (hA59.ev rfl) (evc _ _)) rfl rfl (by decide) fun a60 hA61 => ?_; clear hA59 a58
  refine wl_nil ?_
  refine then_n ?_
  refine c_true hA61 rfl ?_
  refine c_seq ?_
  have hA62 := hA61.as [] rfl; clear hA61
  refine c_region ?_
  refine stw hA62 (op_call rfl en_17 ev0 (awake_ok _)) rfl rfl (by decide) ?_
  rintro a63 _ w65 ⟨rfl, hE66⟩ hA64; have hS67 := hS45.step hE66; clear hE66 hA62 hS45 a60
  refine st hA64 (op_assign rfl (hA64.ev rfl)) rfl rfl (by decide) fun a68 hA69 => ?_; clear hA64 a63
  refine wl_nil ?_
  refine then_n ?_
  refine c_ret ?_
  refine then_ret ?_
  refine fin_run hA69 (.inl rfl) (run_results1 hA69 rfl (.tmp rfl)) ?_
  exact ⟨rfl, hS67.ext⟩
set_option maxHeartbeats 4000000 in
theorem CreepMore_b (w : World) (R : List (Int × Int)) (vr : Value) (hm : SlAt w vr 2 R.length (pairs R)) (rs : List RunD) (lv : List Value) (vu : Value) (hx : RunsAt w vu lv rs) (plan : List Seg) (vp : Value) (hp : SlAt w vp 3 plan.length (trips plan)) (mo : RunD) (um : Value) (hu : SlAt w um 3 mo.segs.length (trips mo.segs)) (s : Int) (hS_ : 0 ≤ s ∧ s ≤ 4294967295) (hsz : rs.length * 40 ≤ 140737488351232) (hf : readyB R rs plan = true) (hf2 : readyB R (rs ++ [mo]) plan = false) :
  Calls Try.prog 6 #[(Value.agg #[vr]), vu, vp, (Value.agg #[um, (Value.int .i64 mo.lo), (Value.int .i64 mo.hi)]), (Value.int .u32 s)] w (Ret fun v w' => v = .bool true ∧ Ext NoB w w') := by
 refine calls_enter Try.func6 rfl fun a0 hA0 => ?_
 replace hA0 : Fr 252 [] [(0, (Value.agg #[vr])), (1, vu), (2, vp), (3, (Value.agg #[um, (Value.int .i64 mo.lo), (Value.int .i64 mo.hi)])), (4, (Value.int .u32 s))] a0 := hA0
 have hll_ : (lv ++ [um]).length = (rs ++ [mo]).length := by rw [List.length_append, List.length_append, hx.len]; rfl
 have hxl : (rs ++ [mo]).length = rs.length + 1 := by rw [List.length_append]; rfl
 have hxa : (rs ++ [(⟨mo.segs, 0, 10000000000⟩ : RunD)]).length = rs.length + 1 := by rw [List.length_append]; rfl
 have hS0 : Sep NoB w w [(sl um 3 mo.segs.length (trips mo.segs)), (sl vr 2 R.length (pairs R)), (runsR false vu lv rs), (sl vp 3 plan.length (trips plan))] := sep_ro ⟨rfl, hu, rfl, hm, rfl, hx, rfl, hp, trivial⟩
 refine c_seq ?_
 refine c_region ?_
 refine stw hA0 (op_box hS0 rfl (hA0.ev rfl) (cs := [vr]) rfl) rfl rfl (by decide) ?_
 rintro a1 _ w3 ⟨b4, rfl, hS5⟩ hA2; clear hA0 hS0 a0
 refine stw hA2 (op_box hS5 rfl (hA2.ev rfl) (cs := [um, (Value.int .i64 mo.lo), (Value.int .i64 mo.hi)]) rfl) rfl rfl (by decide) ?_
 rintro a6 _ w8 ⟨b9, rfl, hS10⟩ hA7; clear hA2 hS5 a1
 refine st hA7 (op_assign rfl (evc _ _)) rfl rfl (by decide) fun a11 hA12 => ?_; clear hA7 a6
 refine wl_nil ?_
 refine then_n ?_
 refine c_seq ?_
 have hA13 := hA12.as [(8, (bptr b9 0)), (5, (bptr b4 0)), (1, vu), (2, vp), (4, (Value.int .u32 s))] rfl; clear hA12
 refine c_drawCC mixed hA13 hS10 5 [(2, 0)] [[], [], [0, 1], [], [3]] [(fun (vs14 : Nat → Value) (v_ : Value) (rs_ : List Res) => ∃ (b0_ : Nat), v_ = (Value.slice (some ⟨b0_, 0, none⟩) 0 0) ∧ rs_ = [(blk b0_ 54 [])]), (fun (vs14 : Nat → Value) (v_ : Value) (rs_ : List Res) => v_ = vu ∧ rs_ = []), (fun (vs14 : Nat → Value) (v_ : Value) (rs_ : List Res) => True ∧ rs_ = [(row v_ 54 3 rs.length (vtrips (runV lv rs)))]), (fun (vs14 : Nat → Value) (v_ : Value) (rs_ : List Res) => v_ = (Value.agg #[um, (Value.int .i64 mo.lo), (Value.int .i64 mo.hi)]) ∧ rs_ = []), (fun (vs14 : Nat → Value) (v_ : Value) (rs_ : List Res) => True ∧ rs_ = [(row v_ 54 3 1 [um, (Value.int .i64 mo.lo), (Value.int .i64 mo.hi)])])] (by decide +kernel) (by decide +kernel) (by decide +kernel) (by decide +kernel) rfl rfl ⟨(fun _ _ _ _ _ h_ => h_), (fun _ _ _ _ _ h_ => h_), (fun _ _ _ _ _ h_ => h_), (fun _ _ _ _ _ h_ => h_), (fun _ _ _ _ _ h_ => h_), trivial⟩ (by decide +kernel) ?_ ?_ ?_
 ·skip
  refine ⟨fun hj_ a w vs14 hA hS hd => ?_, ?_⟩
  ·skip
   exact opG_of rfl (vblz rfl pv0 un_25 ty_54 ze_54 bs_54_0_ (fun b_ => ⟨b_, rfl, rfl⟩))
  refine ⟨fun hj_ a w vs14 hA hS hd => ?_, ?_⟩
  ·skip
   exact opG_of rfl (vv (op_move rfl (hA.ev rfl)) (And.intro rfl rfl))
  refine ⟨fun hj_ => absurd hj_ (by decide), ?_⟩
  refine ⟨fun hj_ a w vs14 hA hS hd => ?_, ?_⟩
  ·skip
   exact opG_of rfl (vv (op_loadA rfl ty_54 (hA.ev rfl) (hS.bk 0 rfl) (l := [um, (Value.int .i64 mo.lo), (Value.int .i64 mo.hi)]) rfl rfl) (And.intro rfl rfl))
  refine ⟨fun hj_ a w vs14 hA hS hd => ?_, ?_⟩
  ·skip
   obtain ⟨e3, rs3, hy3, hp3⟩ := hd 3 (by decide)
   obtain ⟨hv3, hr3⟩ := hy3; subst hr3
   rw [hv3] at e3
   exact opG_of rfl (vblt rfl (pv1 (tmp_ev (slot_ev e3 rfl))) un_25 ty_54 ze_54 (by decide) (cs := [um, (Value.int .i64 mo.lo), (Value.int .i64 mo.hi)]) (bs_54_1_0viia _ _ _) rfl (by decide) (fun _ => And.intro trivial rfl))
  trivial
 ·skip
  refine ⟨fun o_ ho_ => ?_, ?_⟩
  ·skip
   obtain rfl := Option.some.inj ho_; clear ho_
   intro a w vs14 rs0 Lr hA hs0 hy0 hd hL hS
   obtain ⟨b0_, hv0, hr0⟩ := hy0; subst hr0
   rw [hv0] at hs0
   replace hS := hS.blk_row (i := 0) (sz := 3) (n := 0) rfl rfl (by decide)
   obtain ⟨e1, rs1, hy1, hp1⟩ := hd 1 (by decide) (by decide)
   obtain ⟨hv1, hr1⟩ := hy1; subst hr1
   rw [hv1] at e1
   exact opG_of rfl (opY_mono (op_append hS rfl un_25 el_54 (tmp_ev (slot_ev hs0 rfl)) (tmp_ev (slot_ev e1 rfl)) (i := 0) rfl (runs_at (hL.ok 4 _ rfl)).runs (runs_one (runs_at (hL.ok 4 _ rfl)).len (runs_at (hL.ok 4 _ rfl)).segs) (by simp only [maxLen]; omega) (by omega)) fun v_ w_ h_ => ⟨_, And.intro trivial rfl, h_.row_say (i := 0) rfl (n' := rs.length) (xs' := (vtrips (runV lv rs))) (by simp) (by simp)⟩)
  trivial
 ·skip
  intro a15 w16 vs14 rsf20 hA17 hH19 hrq hS18; clear hA13 hS10
  have hrq_0 := hrq (2, 0) (by decide)
  obtain ⟨hs_1, hy_1⟩ := hH19 1 (by decide) (by decide)
  obtain ⟨hv_1, hr_1⟩ := hy_1
  obtain ⟨hs_2, hy_2⟩ := hH19 2 (by decide) (by decide)
  obtain ⟨hv_2, hr_2⟩ := hy_2
  obtain ⟨hs_3, hy_3⟩ := hH19 3 (by decide) (by decide)
  obtain ⟨hv_3, hr_3⟩ := hy_3
  obtain ⟨hs_4, hy_4⟩ := hH19 4 (by decide) (by decide)
  obtain ⟨hv_4, hr_4⟩ := hy_4
  have hS21 : Sep NoB w w16 [(row (vs14 2) 54 3 rs.length (vtrips (runV lv rs))), (row (vs14 4) 54 3 1 [um, (Value.int .i64 mo.lo), (Value.int .i64 mo.hi)]), (blk b9 54 [um, (Value.int .i64 mo.lo), (Value.int .i64 mo.hi)]), (blk b4 24 [vr]), (sl um 3 mo.segs.length (trips mo.segs)), (sl vr 2 R.length (pairs R)), (runsR false vu lv rs), (sl vp 3 plan.length (trips plan))] := by rw [show catR rsf20 0 5 = ([(row (vs14 2) 54 3 rs.length (vtrips (runV lv rs))), (row (vs14 4) 54 3 1 [um, (Value.int .i64 mo.lo), (Value.int .i64 mo.hi)])] : List Res) by (try simp only [catR, hr_1, hr_2, hr_3, hr_4, hrq_0]); (try rfl)] at hS18; exact hS18
  have hA22 : Fr 252 [] [(33, (vs14 2)), (8, (bptr b9 0)), (5, (bptr b4 0)), (1, vu), (2, vp), (4, (Value.int .u32 s))] a15 := hA17.add (slot_ev hs_2 rfl); clear hA17
  have hA23 : Fr 252 [] [(35, (vs14 4)), (33, (vs14 2)), (8, (bptr b9 0)), (5, (bptr b4 0)), (1, vu), (2, vp), (4, (Value.int .u32 s))] a15 := hA22.add (slot_ev hs_4 rfl); clear hA22
  clear hH19 hS18 hs_1 hs_2 hs_3 hs_4 hrq hrq_0
  clear hr_1
  clear hv_1
  clear hr_2
  clear hv_2
  clear hr_3
  clear hv_3
  clear hr_4
  clear hv_4
  refine stw hA23 (op_append hS21 rfl un_25 el_54 (hA23.ev rfl) (hA23.ev rfl) (i := 0) rfl (SlAt.of_row (hS21.ok_row 1 rfl)) (all_c (SlAt.one (hS21.sk 4 rfl)) (all_c rfl (all_c rfl all_n))) (by simp only [maxLen]; omega) (by omega)) rfl rfl (by decide) ?_
  intro a24 v27 w26 hS28 hA25
  have hS29 := hS28.row_say (i := 0) rfl (n' := (rs ++ [mo]).length) (xs' := (vtrips (runV (lv ++ [um]) (rs ++ [mo])))) (by simp) (runs_snoc (runs_at (hS21.ok 6 _ rfl)).len um mo); clear hS28 hA23 hS21 a15
  refine st hA25 (op_assign rfl (hA25.ev rfl)) rfl rfl (by decide) fun a30 hA31 => ?_; clear hA25 a24
  refine wl_nil ?_
  refine then_n ?_
  refine c_seq ?_
  refine c_seq ?_
  have hS32 := hS29.segs_app (x := mo) (i := 6) (j := 4) rfl rfl; clear hS29
  have hS33 : Sep NoB w w26 [(row v27 54 3 ((rs ++ [mo]).length) (vtrips (runV (lv ++ [um]) (rs ++ [mo])))), (segsR false (lv ++ [um]) (rs ++ [mo])), (row (vs14 4) 54 3 1 [um, (Value.int .i64 mo.lo), (Value.int .i64 mo.hi)]), (blk b9 54 [um, (Value.int .i64 mo.lo), (Value.int .i64 mo.hi)]), (blk b4 24 [vr]), (sl um 3 mo.segs.length (trips mo.segs)), (sl vr 2 R.length (pairs R)), (runsR false vu lv rs), (sl vp 3 plan.length (trips plan))] := hS32.keep [1, 0, 2, 3, 4, 5, 6, 7, 8] (by decide) _ rfl rfl; clear hS32
  have hS34 := hS33.runs_ro rfl; clear hS33
  refine c_region ?_
  refine st hA31 (op_loadA rfl ty_24 (hA31.ev rfl) (hS34.bk 3 rfl) (l := [vr]) rfl rfl) rfl rfl (by decide) fun a35 hA36 => ?_; clear hA31 a30
  refine st hA36 (op_move rfl (hA36.ev rfl)) rfl rfl (by decide) fun a37 hA38 => ?_; clear hA36 a35
  refine st hA38 (op_move rfl (hA38.ev rfl)) rfl rfl (by decide) fun a39 hA40 => ?_; clear hA38 a37
  refine stw hA40 (op_call rfl en_27 (ev3 (hA40.ev rfl) (hA40.ev rfl) (hA40.ev rfl)) (ready_ok _ R _ (hS34.sk 5 rfl) rs _ _ (runs_at (hS34.ok 6 _ rfl)) plan _ (hS34.sk 7 rfl))) rfl rfl (by decide) ?_
  rintro a41 _ w43 ⟨rfl, hE44⟩ hA42; have hS45 := hS34.step hE44; clear hE44 hA40 hS34 a39
  rw [hf] at hA42
  refine st hA42 (op_not rfl (hA42.ev rfl)) rfl rfl (by decide) fun a46 hA47 => ?_; clear hA42 a41
  refine st hA47 (op_move rfl (hA47.ev rfl)) rfl rfl (by decide) fun a48 hA49 => ?_; clear hA47 a46
  refine stg hA49 (op_loadA rfl ty_24 (hA49.ev rfl) (hS45.bk 3 rfl) (l := [vr]) rfl rfl) rfl rfl rfl rfl (by decide) fun a50 hA51 => ?_; clear hA49 a48
  refine stg hA51 (op_move rfl (hA51.ev rfl)) rfl rfl rfl rfl (by decide) fun a52 hA53 => ?_; clear hA51 a50
  refine stg hA53 (op_move rfl (hA53.ev rfl)) rfl rfl rfl rfl (by decide) fun a54 hA55 => ?_; clear hA53 a52
  refine stwg hA55 (op_call rfl en_27 (ev3 (hA55.ev rfl) (hA55.ev rfl) (hA55.ev rfl)) (ready_ok _ R _ (hS45.sk 5 rfl) (rs ++ [mo]) _ _ (runs_at (hS45.ok 0 _ rfl)) plan _ (hS45.sk 7 rfl))) rfl rfl rfl rfl (by decide) ?_
  rintro a56 _ w58 ⟨rfl, hE59⟩ hA57; have hS60 := hS45.step hE59; clear hE59 hA55 hS45 a54
  rw [hf2] at hA57
  refine stg hA57 (op_not rfl (hA57.ev rfl)) rfl rfl rfl rfl (by decide) fun a61 hA62 => ?_; clear hA57 a56
  refine st hA62 (op_pick_f rfl (hA62.ev rfl) (hA62.ev rfl)) rfl rfl (by decide) fun a63 hA64 => ?_; clear hA62 a61
  refine wl_nil ?_
  refine then_n ?_
  refine c_true hA64 rfl ?_
  refine c_seq ?_
  have hA65 := hA64.as [] rfl; clear hA64
  refine c_region ?_
  refine stw hA65 (op_call rfl en_17 ev0 (awake_ok _)) rfl rfl (by decide) ?_
  rintro a66 _ w68 ⟨rfl, hE69⟩ hA67; have hS70 := hS60.step hE69; clear hE69 hA65 hS60 a63
  refine st hA67 (op_assign rfl (hA67.ev rfl)) rfl rfl (by decide) fun a71 hA72 => ?_; clear hA67 a66
  refine wl_nil ?_
  refine then_n ?_
  refine c_ret ?_
  refine then_ret ?_
  refine fin_run hA72 (.inl rfl) (run_results1 hA72 rfl (.tmp rfl)) ?_
  exact ⟨rfl, hS70.ext⟩
set_option maxHeartbeats 4000000 in
theorem CreepMore_c (w : World) (R : List (Int × Int)) (vr : Value) (hm : SlAt w vr 2 R.length (pairs R)) (rs : List RunD) (lv : List Value) (vu : Value) (hx : RunsAt w vu lv rs) (plan : List Seg) (vp : Value) (hp : SlAt w vp 3 plan.length (trips plan)) (mo : RunD) (um : Value) (hu : SlAt w um 3 mo.segs.length (trips mo.segs)) (s : Int) (hS_ : 0 ≤ s ∧ s ≤ 4294967295) (hsz : rs.length * 40 ≤ 140737488351232) (hf : readyB R rs plan = true) (hf2 : readyB R (rs ++ [mo]) plan = true) (hc : possF R rs = 9) :
  Calls Try.prog 6 #[(Value.agg #[vr]), vu, vp, (Value.agg #[um, (Value.int .i64 mo.lo), (Value.int .i64 mo.hi)]), (Value.int .u32 s)] w (Ret fun v w' => v = .bool true ∧ Ext NoB w w') := by
 refine calls_enter Try.func6 rfl fun a0 hA0 => ?_
 replace hA0 : Fr 252 [] [(0, (Value.agg #[vr])), (1, vu), (2, vp), (3, (Value.agg #[um, (Value.int .i64 mo.lo), (Value.int .i64 mo.hi)])), (4, (Value.int .u32 s))] a0 := hA0
 have hll_ : (lv ++ [um]).length = (rs ++ [mo]).length := by rw [List.length_append, List.length_append, hx.len]; rfl
 have hxl : (rs ++ [mo]).length = rs.length + 1 := by rw [List.length_append]; rfl
 have hxa : (rs ++ [(⟨mo.segs, 0, 10000000000⟩ : RunD)]).length = rs.length + 1 := by rw [List.length_append]; rfl
 have hrd := ready_is hf; have hth := hrd.1; have he := hrd.2.1; have h6 := hth.mat; have h9 := hth.runs; have h12 := hth.plan; have hp8 := hrd.2.2.1; have hsb := hrd.2.2.2; have hcm := check_mat (enter_mat he); have hR := hcm.1; have hR1 := hcm.2.1; have hR3 := hR.1; have hV := enter_runs he; have hs : ∀ i, i < plan.length → SegV R.length (plan.getD i (0, 0, 0)) := fun i hi => segV_of (List.all_eq_true.1 hsb i (List.mem_range.2 hi)); have hrt := ratesF_len R rs; have hle := allowed_le (rs := rs) hR; have hrd2 := ready_is hf2; have hth2 := hrd2.1; have he2 := hrd2.2.1; have h9x := hth2.runs; have hV2 := enter_runs he2; have hmo : RunV R.length mo := by have := hV2.runs rs.length (by omega); rwa [getD_last] at this
 have h9a : (rs ++ [(⟨mo.segs, 0, 10000000000⟩ : RunD)]).length ≤ 9 := by omega
 have hsga : ∀ i, i < (rs ++ [(⟨mo.segs, 0, 10000000000⟩ : RunD)]).length → ((rs ++ [(⟨mo.segs, 0, 10000000000⟩ : RunD)]).getD i run0).segs.length ≤ 12 := more_segs hth.segs (Nat.le_trans (show mo.segs.length ≤ 8 from hmo.len) (by decide))
 have hea : enterF R (rs ++ [(⟨mo.segs, 0, 10000000000⟩ : RunD)]) = 0 := more_enter he he2
 have hala : allowedF R (rs ++ [(⟨mo.segs, 0, 10000000000⟩ : RunD)]) = allowedF R rs := allowed_all hR hmo.len hmo.segs
 have hpa : possF R (rs ++ [(⟨mo.segs, 0, 10000000000⟩ : RunD)]) = possF R rs := poss_same hala he hea
 have hrta := ratesF_len R (rs ++ [(⟨mo.segs, 0, 10000000000⟩ : RunD)]); have hrt2 := ratesF_len R (rs ++ [mo])
 have hale : (allowedF R (rs ++ [(⟨mo.segs, 0, 10000000000⟩ : RunD)])).length = (allowedF R rs).length := by rw [hala]
 have hle2 := app_len R rs mo
 have hpx : possF R (rs ++ [mo]) = 9 := poss_9 he2 (by have h0 : ¬ 0 < (allowedF R rs).length := (fun h => by have := poss_0 he h; omega); omega)
 have hz1 : possF R rs ≠ 0 := by omega
 have hz2 : possF R (rs ++ [mo]) ≠ 0 := by omega
 have hz3 : possF R (rs ++ [(⟨mo.segs, 0, 10000000000⟩ : RunD)]) ≠ 0 := by omega
 have hS0 : Sep NoB w w [(sl um 3 mo.segs.length (trips mo.segs)), (sl vr 2 R.length (pairs R)), (runsR false vu lv rs), (sl vp 3 plan.length (trips plan))] := sep_ro ⟨rfl, hu, rfl, hm, rfl, hx, rfl, hp, trivial⟩
 refine c_seq ?_
 refine c_region ?_
 refine stw hA0 (op_box hS0 rfl (hA0.ev rfl) (cs := [vr]) rfl) rfl rfl (by decide) ?_
 rintro a1 _ w3 ⟨b4, rfl, hS5⟩ hA2; clear hA0 hS0 a0
 refine stw hA2 (op_box hS5 rfl (hA2.ev rfl) (cs := [um, (Value.int .i64 mo.lo), (Value.int .i64 mo.hi)]) rfl) rfl rfl (by decide) ?_
 rintro a6 _ w8 ⟨b9, rfl, hS10⟩ hA7; clear hA2 hS5 a1
 refine st hA7 (op_assign rfl (evc _ _)) rfl rfl (by decide) fun a11 hA12 => ?_; clear hA7 a6
 refine wl_nil ?_
 refine then_n ?_
 refine c_seq ?_
 have hA13 := hA12.as [(8, (bptr b9 0)), (5, (bptr b4 0)), (1, vu), (2, vp), (4, (Value.int .u32 s))] rfl; clear hA12
 refine c_drawCC mixed hA13 hS10 5 [(2, 0)] [[], [], [0, 1], [], [3]] [(fun (vs14 : Nat → Value) (v_ : Value) (rs_ : List Res) => ∃ (b0_ : Nat), v_ = (Value.slice (some ⟨b0_, 0, none⟩) 0 0) ∧ rs_ = [(blk b0_ 54 [])]), (fun (vs14 : Nat → Value) (v_ : Value) (rs_ : List Res) => v_ = vu ∧ rs_ = []), (fun (vs14 : Nat → Value) (v_ : Value) (rs_ : List Res) => True ∧ rs_ = [(row v_ 54 3 rs.length (vtrips (runV lv rs)))]), (fun (vs14 : Nat → Value) (v_ : Value) (rs_ : List Res) => v_ = (Value.agg #[um, (Value.int .i64 mo.lo), (Value.int .i64 mo.hi)]) ∧ rs_ = []), (fun (vs14 : Nat → Value) (v_ : Value) (rs_ : List Res) => True ∧ rs_ = [(row v_ 54 3 1 [um, (Value.int .i64 mo.lo), (Value.int .i64 mo.hi)])])] (by decide +kernel) (by decide +kernel) (by decide +kernel) (by decide +kernel) rfl rfl ⟨(fun _ _ _ _ _ h_ => h_), (fun _ _ _ _ _ h_ => h_), (fun _ _ _ _ _ h_ => h_), (fun _ _ _ _ _ h_ => h_), (fun _ _ _ _ _ h_ => h_), trivial⟩ (by decide +kernel) ?_ ?_ ?_
 ·skip
  refine ⟨fun hj_ a w vs14 hA hS hd => ?_, ?_⟩
  ·skip
   exact opG_of rfl (vblz rfl pv0 un_25 ty_54 ze_54 bs_54_0_ (fun b_ => ⟨b_, rfl, rfl⟩))
  refine ⟨fun hj_ a w vs14 hA hS hd => ?_, ?_⟩
  ·skip
   exact opG_of rfl (vv (op_move rfl (hA.ev rfl)) (And.intro rfl rfl))
  refine ⟨fun hj_ => absurd hj_ (by decide), ?_⟩
  refine ⟨fun hj_ a w vs14 hA hS hd => ?_, ?_⟩
  ·skip
   exact opG_of rfl (vv (op_loadA rfl ty_54 (hA.ev rfl) (hS.bk 0 rfl) (l := [um, (Value.int .i64 mo.lo), (Value.int .i64 mo.hi)]) rfl rfl) (And.intro rfl rfl))
  refine ⟨fun hj_ a w vs14 hA hS hd => ?_, ?_⟩
  ·skip
   obtain ⟨e3, rs3, hy3, hp3⟩ := hd 3 (by decide)
   obtain ⟨hv3, hr3⟩ := hy3; subst hr3
   rw [hv3] at e3
   exact opG_of rfl (vblt rfl (pv1 (tmp_ev (slot_ev e3 rfl))) un_25 ty_54 ze_54 (by decide) (cs := [um, (Value.int .i64 mo.lo), (Value.int .i64 mo.hi)]) (bs_54_1_0viia _ _ _) rfl (by decide) (fun _ => And.intro trivial rfl))
  trivial
 ·skip
  refine ⟨fun o_ ho_ => ?_, ?_⟩
  ·skip
   obtain rfl := Option.some.inj ho_; clear ho_
   intro a w vs14 rs0 Lr hA hs0 hy0 hd hL hS
   obtain ⟨b0_, hv0, hr0⟩ := hy0; subst hr0
   rw [hv0] at hs0
   replace hS := hS.blk_row (i := 0) (sz := 3) (n := 0) rfl rfl (by decide)
   obtain ⟨e1, rs1, hy1, hp1⟩ := hd 1 (by decide) (by decide)
   obtain ⟨hv1, hr1⟩ := hy1; subst hr1
   rw [hv1] at e1
   exact opG_of rfl (opY_mono (op_append hS rfl un_25 el_54 (tmp_ev (slot_ev hs0 rfl)) (tmp_ev (slot_ev e1 rfl)) (i := 0) rfl (runs_at (hL.ok 4 _ rfl)).runs (runs_one (runs_at (hL.ok 4 _ rfl)).len (runs_at (hL.ok 4 _ rfl)).segs) (by simp only [maxLen]; omega) (by omega)) fun v_ w_ h_ => ⟨_, And.intro trivial rfl, h_.row_say (i := 0) rfl (n' := rs.length) (xs' := (vtrips (runV lv rs))) (by simp) (by simp)⟩)
  trivial
 ·skip
  intro a15 w16 vs14 rsf20 hA17 hH19 hrq hS18; clear hA13 hS10
  have hrq_0 := hrq (2, 0) (by decide)
  obtain ⟨hs_1, hy_1⟩ := hH19 1 (by decide) (by decide)
  obtain ⟨hv_1, hr_1⟩ := hy_1
  obtain ⟨hs_2, hy_2⟩ := hH19 2 (by decide) (by decide)
  obtain ⟨hv_2, hr_2⟩ := hy_2
  obtain ⟨hs_3, hy_3⟩ := hH19 3 (by decide) (by decide)
  obtain ⟨hv_3, hr_3⟩ := hy_3
  obtain ⟨hs_4, hy_4⟩ := hH19 4 (by decide) (by decide)
  obtain ⟨hv_4, hr_4⟩ := hy_4
  have hS21 : Sep NoB w w16 [(row (vs14 2) 54 3 rs.length (vtrips (runV lv rs))), (row (vs14 4) 54 3 1 [um, (Value.int .i64 mo.lo), (Value.int .i64 mo.hi)]), (blk b9 54 [um, (Value.int .i64 mo.lo), (Value.int .i64 mo.hi)]), (blk b4 24 [vr]), (sl um 3 mo.segs.length (trips mo.segs)), (sl vr 2 R.length (pairs R)), (runsR false vu lv rs), (sl vp 3 plan.length (trips plan))] := by rw [show catR rsf20 0 5 = ([(row (vs14 2) 54 3 rs.length (vtrips (runV lv rs))), (row (vs14 4) 54 3 1 [um, (Value.int .i64 mo.lo), (Value.int .i64 mo.hi)])] : List Res) by (try simp only [catR, hr_1, hr_2, hr_3, hr_4, hrq_0]); (try rfl)] at hS18; exact hS18
  have hA22 : Fr 252 [] [(33, (vs14 2)), (8, (bptr b9 0)), (5, (bptr b4 0)), (1, vu), (2, vp), (4, (Value.int .u32 s))] a15 := hA17.add (slot_ev hs_2 rfl); clear hA17
  have hA23 : Fr 252 [] [(35, (vs14 4)), (33, (vs14 2)), (8, (bptr b9 0)), (5, (bptr b4 0)), (1, vu), (2, vp), (4, (Value.int .u32 s))] a15 := hA22.add (slot_ev hs_4 rfl); clear hA22
  clear hH19 hS18 hs_1 hs_2 hs_3 hs_4 hrq hrq_0
  clear hr_1
  clear hv_1
  clear hr_2
  clear hv_2
  clear hr_3
  clear hv_3
  clear hr_4
  clear hv_4
  refine stw hA23 (op_append hS21 rfl un_25 el_54 (hA23.ev rfl) (hA23.ev rfl) (i := 0) rfl (SlAt.of_row (hS21.ok_row 1 rfl)) (all_c (SlAt.one (hS21.sk 4 rfl)) (all_c rfl (all_c rfl all_n))) (by simp only [maxLen]; omega) (by omega)) rfl rfl (by decide) ?_
  intro a24 v27 w26 hS28 hA25
  have hS29 := hS28.row_say (i := 0) rfl (n' := (rs ++ [mo]).length) (xs' := (vtrips (runV (lv ++ [um]) (rs ++ [mo])))) (by simp) (runs_snoc (runs_at (hS21.ok 6 _ rfl)).len um mo); clear hS28 hA23 hS21 a15
  refine st hA25 (op_assign rfl (hA25.ev rfl)) rfl rfl (by decide) fun a30 hA31 => ?_; clear hA25 a24
  refine wl_nil ?_
  refine then_n ?_
  refine c_seq ?_
  refine c_seq ?_
  have hS32 := hS29.segs_app (x := mo) (i := 6) (j := 4) rfl rfl; clear hS29
  have hS33 : Sep NoB w w26 [(row v27 54 3 ((rs ++ [mo]).length) (vtrips (runV (lv ++ [um]) (rs ++ [mo])))), (segsR false (lv ++ [um]) (rs ++ [mo])), (row (vs14 4) 54 3 1 [um, (Value.int .i64 mo.lo), (Value.int .i64 mo.hi)]), (blk b9 54 [um, (Value.int .i64 mo.lo), (Value.int .i64 mo.hi)]), (blk b4 24 [vr]), (sl um 3 mo.segs.length (trips mo.segs)), (sl vr 2 R.length (pairs R)), (runsR false vu lv rs), (sl vp 3 plan.length (trips plan))] := hS32.keep [1, 0, 2, 3, 4, 5, 6, 7, 8] (by decide) _ rfl rfl; clear hS32
  have hS34 := hS33.runs_ro rfl; clear hS33
  refine c_region ?_
  refine st hA31 (op_loadA rfl ty_24 (hA31.ev rfl) (hS34.bk 3 rfl) (l := [vr]) rfl rfl) rfl rfl (by decide) fun a35 hA36 => ?_; clear hA31 a30
  refine st hA36 (op_move rfl (hA36.ev rfl)) rfl rfl (by decide) fun a37 hA38 => ?_; clear hA36 a35
  refine st hA38 (op_move rfl (hA38.ev rfl)) rfl rfl (by decide) fun a39 hA40 => ?_; clear hA38 a37
  refine stw hA40 (op_call rfl en_27 (ev3 (hA40.ev rfl) (hA40.ev rfl) (hA40.ev rfl)) (ready_ok _ R _ (hS34.sk 5 rfl) rs _ _ (runs_at (hS34.ok 6 _ rfl)) plan _ (hS34.sk 7 rfl))) rfl rfl (by decide) ?_
  rintro a41 _ w43 ⟨rfl, hE44⟩ hA42; have hS45 := hS34.step hE44; clear hE44 hA40 hS34 a39
  rw [hf] at hA42
  refine st hA42 (op_not rfl (hA42.ev rfl)) rfl rfl (by decide) fun a46 hA47 => ?_; clear hA42 a41
  refine st hA47 (op_move rfl (hA47.ev rfl)) rfl rfl (by decide) fun a48 hA49 => ?_; clear hA47 a46
  refine stg hA49 (op_loadA rfl ty_24 (hA49.ev rfl) (hS45.bk 3 rfl) (l := [vr]) rfl rfl) rfl rfl rfl rfl (by decide) fun a50 hA51 => ?_; clear hA49 a48
  refine stg hA51 (op_move rfl (hA51.ev rfl)) rfl rfl rfl rfl (by decide) fun a52 hA53 => ?_; clear hA51 a50
  refine stg hA53 (op_move rfl (hA53.ev rfl)) rfl rfl rfl rfl (by decide) fun a54 hA55 => ?_; clear hA53 a52
  refine stwg hA55 (op_call rfl en_27 (ev3 (hA55.ev rfl) (hA55.ev rfl) (hA55.ev rfl)) (ready_ok _ R _ (hS45.sk 5 rfl) (rs ++ [mo]) _ _ (runs_at (hS45.ok 0 _ rfl)) plan _ (hS45.sk 7 rfl))) rfl rfl rfl rfl (by decide) ?_
  rintro a56 _ w58 ⟨rfl, hE59⟩ hA57; have hS60 := hS45.step hE59; clear hE59 hA55 hS45 a54
  rw [hf2] at hA57
  refine stg hA57 (op_not rfl (hA57.ev rfl)) rfl rfl rfl rfl (by decide) fun a61 hA62 => ?_; clear hA57 a56
  refine st hA62 (op_pick_f rfl (hA62.ev rfl) (hA62.ev rfl)) rfl rfl (by decide) fun a63 hA64 => ?_; clear hA62 a61
  refine wl_nil ?_
  refine then_n ?_
  refine c_false hA64 rfl ?_
  refine c_skip ?_
  refine then_n ?_
  refine c_seq ?_
  have hA65 := hA64.as [(11, v27), (5, (bptr b4 0)), (1, vu), (2, vp), (4, (Value.int .u32 s))] rfl; clear hA64
  refine c_region ?_
  refine stw hA65 (op_buildSlice hS60 rfl pv0 un_25 ty_54 ze_54 (by decide) (cs := []) bs_54_0_) rfl rfl (by decide) ?_
  rintro a66 _ w68 ⟨b69, rfl, hS70⟩ hA67; clear hA65 hS60 a63
  refine st hA67 (op_move rfl (hA67.ev rfl)) rfl rfl (by decide) fun a71 hA72 => ?_; clear hA67 a66
  have hS73 := hS70.blk_row (i := 0) (sz := 3) (n := 0) rfl rfl (by decide); clear hS70
  refine stw hA72 (op_append hS73 rfl un_25 el_54 (hA72.ev rfl) (hA72.ev rfl) (i := 0) rfl (runs_at (hS73.ok 1 _ rfl)).runs (runs_one (runs_at (hS73.ok 1 _ rfl)).len (runs_at (hS73.ok 1 _ rfl)).segs) (by simp only [maxLen]; omega) (by omega)) rfl rfl (by decide) ?_
  intro a74 v77 w76 hS78 hA75
  have hS79 := hS78.row_say (i := 0) rfl (n' := (rs ++ [mo]).length) (xs' := (vtrips (runV (lv ++ [um]) (rs ++ [mo])))) (by simp) (by simp); clear hS78 hA72 hS73 a71
  refine st hA75 (op_assign rfl (hA75.ev rfl)) rfl rfl (by decide) fun a80 hA81 => ?_; clear hA75 a74
  refine wl_nil ?_
  refine then_n ?_
  refine c_seq ?_
  refine c_region ?_
  refine st hA81 (op_move rfl (hA81.ev rfl)) rfl rfl (by decide) fun a82 hA83 => ?_; clear hA81 a80
  refine st hA83 (op_move rfl (hA83.ev rfl)) rfl rfl (by decide) fun a84 hA85 => ?_; clear hA83 a82
  refine st hA85 (op_lenS rfl un_25 (hA85.ev rfl) (runs_at (hS79.ok 7 _ rfl)).runs) rfl rfl (by decide) fun a86 hA87 => ?_; clear hA85 a84
  refine st hA87 (op_build rfl (pv2 (evc _ _) (evc _ _)) (bd_48_0i_1i _ _)) rfl rfl (by decide) fun a88 hA89 => ?_; clear hA87 a86
  refine st hA89 (op_indexS rfl un_25 ty_54 (hA89.ev rfl) (i := rs.length) (hA89.ev rfl) (SlAt.of_row (hS79.ok_row 0 rfl)) (by decide) (by omega)) rfl rfl (by decide) fun a90 hA91 => ?_; clear hA89 a88
  refine st hA91 (op_fieldS rfl fd_54_1 (hA91.ev rfl) (SlAt.of_row (hS79.ok_row 0 rfl)) (by rw [((SlAt.of_row (hS79.ok_row 0 rfl))).1]; omega)) rfl rfl (by decide) fun a92 hA93 => ?_; clear hA91 a90
  refine sts hA93 (op_storeE hS79 rfl ty_48 (hA93.ev rfl) (hA93.ev rfl) (i := 0) rfl (vs := [(Value.int .i64 0), (Value.int .i64 10000000000)]) rfl rfl rfl (by rw [vtrips_length, runV_len hll_]; first | omega | (simp only [List.length_cons, List.length_nil]; omega)) (by decide)) rfl rfl ?_
  intro _ w94 hS95 hA97; have hS96 := hS95.row_say (i := 0) rfl (n' := ((rs ++ [mo]).set rs.length (⟨((rs ++ [mo]).getD rs.length run0).segs, 0, 10000000000⟩ : RunD)).length) (xs' := (vtrips (runV (lv ++ [um]) ((rs ++ [mo]).set rs.length (⟨((rs ++ [mo]).getD rs.length run0).segs, 0, 10000000000⟩ : RunD))))) (by simp only [List.length_set]) (runs_set12 (runs_at (hS79.ok 1 _ rfl)).len (by omega) _ _); clear hS95 hA93 hS79
  refine wl_nil ?_
  refine then_n ?_
  refine c_seq ?_
  have hA98 := hA97.as [(12, v77), (11, v27), (5, (bptr b4 0)), (1, vu), (2, vp), (4, (Value.int .u32 s))] rfl; clear hA97
  have hS99 := hS96.row_say (i := 0) rfl (n' := (rs ++ [(⟨mo.segs, 0, 10000000000⟩ : RunD)]).length) (xs' := (vtrips (runV (lv ++ [um]) (rs ++ [(⟨mo.segs, 0, 10000000000⟩ : RunD)])))) (by simp only [List.length_set, List.length_append, List.length_cons, List.length_nil]) (by rw [getD_last, set_last]); clear hS96
  have hS100 := hS99.segs_app (x := ⟨mo.segs, 0, 10000000000⟩) (i := 7) (j := 5) rfl rfl; clear hS99
  have hS101 : Sep NoB w w94 [(row v77 54 3 ((rs ++ [(⟨mo.segs, 0, 10000000000⟩ : RunD)]).length) (vtrips (runV (lv ++ [um]) (rs ++ [(⟨mo.segs, 0, 10000000000⟩ : RunD)])))), (segsR false (lv ++ [um]) (rs ++ [(⟨mo.segs, 0, 10000000000⟩ : RunD)])), (runsR false v27 (lv ++ [um]) (rs ++ [mo])), (row (vs14 4) 54 3 1 [um, (Value.int .i64 mo.lo), (Value.int .i64 mo.hi)]), (blk b9 54 [um, (Value.int .i64 mo.lo), (Value.int .i64 mo.hi)]), (blk b4 24 [vr]), (sl um 3 mo.segs.length (trips mo.segs)), (sl vr 2 R.length (pairs R)), (runsR false vu lv rs), (sl vp 3 plan.length (trips plan))] := hS100.keep [1, 0, 2, 3, 4, 5, 6, 7, 8, 9] (by decide) _ rfl rfl; clear hS100
  have hS102 := hS101.runs_ro rfl; clear hS101
  refine c_region ?_
  refine st hA98 (op_loadA rfl ty_24 (hA98.ev rfl) (hS102.bk 4 rfl) (l := [vr]) rfl rfl) rfl rfl (by decide) fun a103 hA104 => ?_; clear hA98 a92
  refine stw hA104 (op_call rfl en_19 (ev1 (hA104.ev rfl)) (Material_ok _ R _ (hS102.sk 6 rfl) hth.mat)) rfl rfl (by decide) ?_
  rintro a105 _ w107 ⟨u110, rfl, hT108⟩ hA106; have hS109 := hS102.callS hT108 rfl; clear hT108 hA104 hS102 a103
  refine st hA106 (op_move rfl (hA106.ev rfl)) rfl rfl (by decide) fun a111 hA112 => ?_; clear hA106 a105
  refine stw hA112 (op_call rfl en_20 (ev1 (hA112.ev rfl)) (Runs_ok _ rs _ _ (runs_at (hS109.ok 8 _ rfl)) h9 hth.segs)) rfl rfl (by decide) ?_
  rintro a113 v118 w115 ⟨lv119, hT116⟩ hA114; have hS117 := hS109.callS hT116 rfl; clear hT116 hA112 hS109 a111
  refine stw hA114 (op_call rfl en_18 (ev2 (hA114.ev rfl) (hA114.ev rfl)) (rates_bad R rs lv119 u110 v118 _ (SlAt.of_row (hS117.ok_row 1 rfl)) (runs_at (hS117.ok 0 _ rfl)) (by omega) (by omega) hz1)) rfl rfl (by decide) ?_
  rintro a120 _ w122 ⟨rfl, hE123⟩ hA121; have hS124 := hS117.step hE123; clear hE123 hA114 hS117 a113
  refine st hA121 (op_move rfl (hA121.ev rfl)) rfl rfl (by decide) fun a125 hA126 => ?_; clear hA121 a120
  refine st hA126 (op_extract rfl (hA126.ev rfl) rfl) rfl rfl (by decide) fun a127 hA128 => ?_; clear hA126 a125
  refine st hA128 (op_extract rfl (hA128.ev rfl) rfl) rfl rfl (by decide) fun a129 hA130 => ?_; clear hA128 a127
  refine st hA130 (op_extract rfl (hA130.ev rfl) rfl) rfl rfl (by decide) fun a131 hA132 => ?_; clear hA130 a129
  refine st hA132 (op_assign rfl (hA132.ev rfl)) rfl rfl (by decide) fun a133 hA134 => ?_; clear hA132 a131
  refine st hA134 (op_assign rfl (hA134.ev rfl)) rfl rfl (by decide) fun a135 hA136 => ?_; clear hA134 a133
  refine st hA136 (op_assign rfl (hA136.ev rfl)) rfl rfl (by decide) fun a137 hA138 => ?_; clear hA136 a135
  refine wl_nil ?_
  refine then_n ?_
  refine c_seq ?_
  have hA139 := hA138.as [(15, (Value.int .i64 (possF R rs))), (14, (Value.int .i64 0)), (13, (Value.slice none 0 0)), (12, v77), (11, v27), (5, (bptr b4 0)), (1, vu), (2, vp), (4, (Value.int .u32 s))] rfl; clear hA138
  refine c_region ?_
  refine st hA139 (op_loadA rfl ty_24 (hA139.ev rfl) (hS124.bk 6 rfl) (l := [vr]) rfl rfl) rfl rfl (by decide) fun a140 hA141 => ?_; clear hA139 a137
  refine stw hA141 (op_call rfl en_19 (ev1 (hA141.ev rfl)) (Material_ok _ R _ (hS124.sk 8 rfl) hth.mat)) rfl rfl (by decide) ?_
  rintro a142 _ w144 ⟨u147, rfl, hT145⟩ hA143; have hS146 := hS124.callS hT145 rfl; clear hT145 hA141 hS124 a140
  refine st hA143 (op_move rfl (hA143.ev rfl)) rfl rfl (by decide) fun a148 hA149 => ?_; clear hA143 a142
  refine stw hA149 (op_call rfl en_20 (ev1 (hA149.ev rfl)) (Runs_ok _ (rs ++ [mo]) _ _ (runs_at (hS146.ok 4 _ rfl)) h9x hth2.segs)) rfl rfl (by decide) ?_
  rintro a150 v155 w152 ⟨lv156, hT153⟩ hA151; have hS154 := hS146.callS hT153 rfl; clear hT153 hA149 hS146 a148
  refine stw hA151 (op_call rfl en_18 (ev2 (hA151.ev rfl) (hA151.ev rfl)) (rates_bad R (rs ++ [mo]) lv156 u147 v155 _ (SlAt.of_row (hS154.ok_row 1 rfl)) (runs_at (hS154.ok 0 _ rfl)) (by omega) (by omega) hz2)) rfl rfl (by decide) ?_
  rintro a157 _ w159 ⟨rfl, hE160⟩ hA158; have hS161 := hS154.step hE160; clear hE160 hA151 hS154 a150
  refine st hA158 (op_move rfl (hA158.ev rfl)) rfl rfl (by decide) fun a162 hA163 => ?_; clear hA158 a157
  refine st hA163 (op_extract rfl (hA163.ev rfl) rfl) rfl rfl (by decide) fun a164 hA165 => ?_; clear hA163 a162
  refine st hA165 (op_extract rfl (hA165.ev rfl) rfl) rfl rfl (by decide) fun a166 hA167 => ?_; clear hA165 a164
  refine st hA167 (op_extract rfl (hA167.ev rfl) rfl) rfl rfl (by decide) fun a168 hA169 => ?_; clear hA167 a166
  refine st hA169 (op_assign rfl (hA169.ev rfl)) rfl rfl (by decide) fun a170 hA171 => ?_; clear hA169 a168
  refine st hA171 (op_assign rfl (hA171.ev rfl)) rfl rfl (by decide) fun a172 hA173 => ?_; clear hA171 a170
  refine st hA173 (op_assign rfl (hA173.ev rfl)) rfl rfl (by decide) fun a174 hA175 => ?_; clear hA173 a172
  refine wl_nil ?_
  refine then_n ?_
  refine c_seq ?_
  have hA176 := hA175.as [(18, (Value.int .i64 (possF R (rs ++ [mo])))), (17, (Value.int .i64 0)), (16, (Value.slice none 0 0)), (15, (Value.int .i64 (possF R rs))), (14, (Value.int .i64 0)), (13, (Value.slice none 0 0)), (12, v77), (11, v27), (5, (bptr b4 0)), (1, vu), (2, vp), (4, (Value.int .u32 s))] rfl; clear hA175
  refine c_region ?_
  refine st hA176 (op_loadA rfl ty_24 (hA176.ev rfl) (hS161.bk 8 rfl) (l := [vr]) rfl rfl) rfl rfl (by decide) fun a177 hA178 => ?_; clear hA176 a174
  refine stw hA178 (op_call rfl en_19 (ev1 (hA178.ev rfl)) (Material_ok _ R _ (hS161.sk 10 rfl) hth.mat)) rfl rfl (by decide) ?_
  rintro a179 _ w181 ⟨u184, rfl, hT182⟩ hA180; have hS183 := hS161.callS hT182 rfl; clear hT182 hA178 hS161 a177
  refine st hA180 (op_move rfl (hA180.ev rfl)) rfl rfl (by decide) fun a185 hA186 => ?_; clear hA180 a179
  refine stw hA186 (op_call rfl en_20 (ev1 (hA186.ev rfl)) (Runs_ok _ (rs ++ [(⟨mo.segs, 0, 10000000000⟩ : RunD)]) _ _ (runs_at (hS183.ok 5 _ rfl)) h9a hsga)) rfl rfl (by decide) ?_
  rintro a187 v192 w189 ⟨lv193, hT190⟩ hA188; have hS191 := hS183.callS hT190 rfl; clear hT190 hA186 hS183 a185
  refine stw hA188 (op_call rfl en_18 (ev2 (hA188.ev rfl) (hA188.ev rfl)) (rates_bad R (rs ++ [(⟨mo.segs, 0, 10000000000⟩ : RunD)]) lv193 u184 v192 _ (SlAt.of_row (hS191.ok_row 1 rfl)) (runs_at (hS191.ok 0 _ rfl)) (by omega) (by omega) hz3)) rfl rfl (by decide) ?_
  rintro a194 _ w196 ⟨rfl, hE197⟩ hA195; have hS198 := hS191.step hE197; clear hE197 hA188 hS191 a187
  refine st hA195 (op_move rfl (hA195.ev rfl)) rfl rfl (by decide) fun a199 hA200 => ?_; clear hA195 a194
  refine st hA200 (op_extract rfl (hA200.ev rfl) rfl) rfl rfl (by decide) fun a201 hA202 => ?_; clear hA200 a199
  refine st hA202 (op_extract rfl (hA202.ev rfl) rfl) rfl rfl (by decide) fun a203 hA204 => ?_; clear hA202 a201
  refine st hA204 (op_extract rfl (hA204.ev rfl) rfl) rfl rfl (by decide) fun a205 hA206 => ?_; clear hA204 a203
  refine st hA206 (op_assign rfl (hA206.ev rfl)) rfl rfl (by decide) fun a207 hA208 => ?_; clear hA206 a205
  refine st hA208 (op_assign rfl (hA208.ev rfl)) rfl rfl (by decide) fun a209 hA210 => ?_; clear hA208 a207
  refine st hA210 (op_assign rfl (hA210.ev rfl)) rfl rfl (by decide) fun a211 hA212 => ?_; clear hA210 a209
  refine wl_nil ?_
  refine then_n ?_
  refine c_seq ?_
  refine c_seq ?_
  have hA213 := hA212.as [(21, (Value.int .i64 (possF R (rs ++ [(⟨mo.segs, 0, 10000000000⟩ : RunD)])))), (20, (Value.int .i64 0)), (18, (Value.int .i64 (possF R (rs ++ [mo])))), (17, (Value.int .i64 0)), (16, (Value.slice none 0 0)), (15, (Value.int .i64 (possF R rs))), (14, (Value.int .i64 0)), (13, (Value.slice none 0 0)), (11, v27), (5, (bptr b4 0)), (1, vu), (2, vp), (4, (Value.int .u32 s))] rfl; clear hA212
  refine c_region ?_
  refine st hA213 (op_move rfl (hA213.ev rfl)) rfl rfl (by decide) fun a214 hA215 => ?_; clear hA213 a211
  refine st hA215 (op_move rfl (hA215.ev rfl)) rfl rfl (by decide) fun a216 hA217 => ?_; clear hA215 a214
  refine st hA217 (op_neq rfl (hA217.ev rfl) (hA217.ev rfl)) rfl rfl (by decide) fun a218 hA219 => ?_; clear hA217 a216
  have hd220 : (possF R (rs ++ [(⟨mo.segs, 0, 10000000000⟩ : RunD)])) = (possF R rs) := (by omega)
  rw [decide_eq_true hd220] at hA219
  refine st hA219 (op_move rfl (hA219.ev rfl)) rfl rfl (by decide) fun a221 hA222 => ?_; clear hA219 a218
  refine stg hA222 (op_move rfl (hA222.ev rfl)) rfl rfl rfl rfl (by decide) fun a223 hA224 => ?_; clear hA222 a221
  refine stg hA224 (op_move rfl (hA224.ev rfl)) rfl rfl rfl rfl (by decide) fun a225 hA226 => ?_; clear hA224 a223
  refine stg hA226 (op_neq rfl (hA226.ev rfl) (hA226.ev rfl)) rfl rfl rfl rfl (by decide) fun a227 hA228 => ?_; clear hA226 a225
  refine st hA228 (op_pick_f rfl (hA228.ev rfl) (hA228.ev rfl)) rfl rfl (by decide) fun a229 hA230 => ?_; clear hA228 a227
  refine st hA230 (op_move rfl (hA230.ev rfl)) rfl rfl (by decide) fun a231 hA232 => ?_; clear hA230 a229
  refine stg hA232 (op_move rfl (hA232.ev rfl)) rfl rfl rfl rfl (by decide) fun a233 hA234 => ?_; clear hA232 a231
  refine stg hA234 (op_move rfl (hA234.ev rfl)) rfl rfl rfl rfl (by decide) fun a235 hA236 => ?_; clear hA234 a233
  refine stg hA236 (op_gtr rfl (hA236.ev rfl) (hA236.ev rfl)) rfl rfl rfl rfl (by decide) fun a237 hA238 => ?_; clear hA236 a235
  refine st hA238 (op_pick_f rfl (hA238.ev rfl) (hA238.ev rfl)) rfl rfl (by decide) fun a239 hA240 => ?_; clear hA238 a237
  refine st hA240 (op_move rfl (hA240.ev rfl)) rfl rfl (by decide) fun a241 hA242 => ?_; clear hA240 a239
  refine stg hA242 (op_move rfl (hA242.ev rfl)) rfl rfl rfl rfl (by decide) fun a243 hA244 => ?_; clear hA242 a241
  refine stg hA244 (op_neq rfl (hA244.ev rfl) (evc _ _)) rfl rfl rfl rfl (by decide) fun a245 hA246 => ?_; clear hA244 a243
  have hd247 : ¬ ((possF R rs) = 0) := (by omega)
  rw [decide_eq_false hd247] at hA246
  refine stg hA246 (op_move rfl (hA246.ev rfl)) rfl rfl rfl rfl (by decide) fun a248 hA249 => ?_; clear hA246 a245
  refine stg hA249 (op_move rfl (hA249.ev rfl)) rfl rfl rfl rfl (by decide) fun a250 hA251 => ?_; clear hA249 a248
  refine stg hA251 (op_move rfl (hA251.ev rfl)) rfl rfl rfl rfl (by decide) fun a252 hA253 => ?_; clear hA251 a250
  refine stg hA253 (op_neq rfl (hA253.ev rfl) (hA253.ev rfl)) rfl rfl rfl rfl (by decide) fun a254 hA255 => ?_; clear hA253 a252
  have hd256 : (possF R (rs ++ [mo])) = (possF R rs) := (by omega)
  rw [decide_eq_true hd256] at hA255
  refine stg hA255 (op_pick_t rfl (hA255.ev rfl) (hA255.ev rfl)) rfl rfl rfl rfl (by decide) fun a257 hA258 => ?_; clear hA255 a254
  refine st hA258 (op_pick_f rfl (hA258.ev rfl) (hA258.ev rfl)) rfl rfl (by decide) fun a259 hA260 => ?_; clear hA258 a257
  refine st hA260 (op_move rfl (hA260.ev rfl)) rfl rfl (by decide) fun a261 hA262 => ?_; clear hA260 a259
  refine stg hA262 (op_move rfl (hA262.ev rfl)) rfl rfl rfl rfl (by decide) fun a263 hA264 => ?_; clear hA262 a261
  refine stg hA264 (op_len rfl un_28 (hA264.ev rfl)) rfl rfl rfl rfl (by decide) fun a265 hA266 => ?_; clear hA264 a263
  refine stg hA266 (op_neq rfl (hA266.ev rfl) (evc _ _)) rfl rfl rfl rfl (by decide) fun a267 hA268 => ?_; clear hA266 a265
  have hd269 : ((0 : Nat) : Int) = 0 := rfl
  rw [decide_eq_true hd269] at hA268
  refine stg hA268 (op_move rfl (hA268.ev rfl)) rfl rfl rfl rfl (by decide) fun a270 hA271 => ?_; clear hA268 a267
  refine skp hA271 rfl rfl rfl rfl rfl (by decide) fun a272 hA273 => ?_; clear hA271 a270
  refine skp hA273 rfl rfl rfl rfl rfl (by decide) fun a274 hA275 => ?_; clear hA273 a272
  refine skp hA275 rfl rfl rfl rfl rfl (by decide) fun a276 hA277 => ?_; clear hA275 a274
  refine skp hA277 rfl rfl rfl rfl rfl (by decide) fun a278 hA279 => ?_; clear hA277 a276
  refine skp hA279 rfl rfl rfl rfl rfl (by decide) fun a280 hA281 => ?_; clear hA279 a278
  refine skp hA281 rfl rfl rfl rfl rfl (by decide) fun a282 hA283 => ?_; clear hA281 a280
  refine stg hA283 (op_pick_f rfl (hA283.ev rfl) (evc _ _)) rfl rfl rfl rfl (by decide) fun a284 hA285 => ?_; clear hA283 a282
  refine st hA285 (op_pick_f rfl (hA285.ev rfl) (hA285.ev rfl)) rfl rfl (by decide) fun a286 hA287 => ?_; clear hA285 a284
  refine st hA287 (op_move rfl (hA287.ev rfl)) rfl rfl (by decide) fun a288 hA289 => ?_; clear hA287 a286
  refine stg hA289 (op_move rfl (hA289.ev rfl)) rfl rfl rfl rfl (by decide) fun a290 hA291 => ?_; clear hA289 a288
  refine stg hA291 (op_eql rfl (hA291.ev rfl) (evc _ _)) rfl rfl rfl rfl (by decide) fun a292 hA293 => ?_; clear hA291 a290
  have hd294 : ¬ ((possF R (rs ++ [mo])) = 0) := (by omega)
  rw [decide_eq_false hd294] at hA293
  refine stg hA293 (op_move rfl (hA293.ev rfl)) rfl rfl rfl rfl (by decide) fun a295 hA296 => ?_; clear hA293 a292
  refine skp hA296 rfl rfl rfl rfl rfl (by decide) fun a297 hA298 => ?_; clear hA296 a295
  refine skp hA298 rfl rfl rfl rfl rfl (by decide) fun a299 hA300 => ?_; clear hA298 a297
  refine skp hA300 rfl rfl rfl rfl rfl (by decide) fun a301 hA302 => ?_; clear hA300 a299
  refine skp hA302 rfl rfl rfl rfl rfl (by decide) fun a303 hA304 => ?_; clear hA302 a301
  refine skp hA304 rfl rfl rfl rfl rfl (by decide) fun a305 hA306 => ?_; clear hA304 a303
  refine stg hA306 (op_pick_f rfl (hA306.ev rfl) (evc _ _)) rfl rfl rfl rfl (by decide) fun a307 hA308 => ?_; clear hA306 a305
  refine st hA308 (op_pick_f rfl (hA308.ev rfl) (hA308.ev rfl)) rfl rfl (by decide) fun a309 hA310 => ?_; clear hA308 a307
  refine wl_nil ?_
  refine then_n ?_
  refine c_false hA310 rfl ?_
  refine c_skip ?_
  refine then_n ?_
  refine c_seq ?_
  refine c_seq ?_
  have hA311 := hA310.as [(18, (Value.int .i64 (possF R (rs ++ [mo])))), (16, (Value.slice none 0 0)), (13, (Value.slice none 0 0)), (11, v27), (5, (bptr b4 0)), (1, vu), (2, vp), (4, (Value.int .u32 s))] rfl; clear hA310
  refine c_region ?_
  refine st hA311 (op_move rfl (hA311.ev rfl)) rfl rfl (by decide) fun a312 hA313 => ?_; clear hA311 a309
  refine st hA313 (op_neq rfl (hA313.ev rfl) (evc _ _)) rfl rfl (by decide) fun a314 hA315 => ?_; clear hA313 a312
  rw [decide_eq_false hd294] at hA315
  refine wl_nil ?_
  refine then_n ?_
  refine c_true hA315 rfl ?_
  refine c_seq ?_
  have hA316 := hA315.as [(18, (Value.int .i64 (possF R (rs ++ [mo]))))] rfl; clear hA315
  refine c_region ?_
  refine st hA316 (op_move rfl (hA316.ev rfl)) rfl rfl (by decide) fun a317 hA318 => ?_; clear hA316 a314
  refine st hA318 (op_eql rfl (hA318.ev rfl) (evc _ _)) rfl rfl (by decide) fun a319 hA320 => ?_; clear hA318 a317
  have hd321 : (possF R (rs ++ [mo])) = 9 := (by omega)
  rw [decide_eq_true hd321] at hA320
  refine st hA320 (op_move rfl (hA320.ev rfl)) rfl rfl (by decide) fun a322 hA323 => ?_; clear hA320 a319
  refine stwg hA323 (op_call rfl en_17 ev0 (awake_ok _)) rfl rfl rfl rfl (by decide) ?_
  rintro a324 _ w326 ⟨rfl, hE327⟩ hA325; have hS328 := hS198.step hE327; clear hE327 hA323 hS198 a322
  refine st hA325 (op_pick_t rfl (hA325.ev rfl) (hA325.ev rfl)) rfl rfl (by decide) fun a329 hA330 => ?_; clear hA325 a324
  refine st hA330 (op_assign rfl (hA330.ev rfl)) rfl rfl (by decide) fun a331 hA332 => ?_; clear hA330 a329
  refine wl_nil ?_
  refine then_n ?_
  refine c_ret ?_
  refine then_ret ?_
  refine fin_run hA332 (.inl rfl) (run_results1 hA332 rfl (.tmp rfl)) ?_
  exact ⟨rfl, hS328.ext⟩
set_option maxHeartbeats 4000000 in
theorem CreepMore_d (w : World) (R : List (Int × Int)) (vr : Value) (hm : SlAt w vr 2 R.length (pairs R)) (rs : List RunD) (lv : List Value) (vu : Value) (hx : RunsAt w vu lv rs) (plan : List Seg) (vp : Value) (hp : SlAt w vp 3 plan.length (trips plan)) (mo : RunD) (um : Value) (hu : SlAt w um 3 mo.segs.length (trips mo.segs)) (s : Int) (hS_ : 0 ≤ s ∧ s ≤ 4294967295) (hsz : rs.length * 40 ≤ 140737488351232) (hf : readyB R rs plan = true) (hf2 : readyB R (rs ++ [mo]) plan = true) (hc : possF R rs = 0) (hc2 : possF R (rs ++ [mo]) = 9) :
  Calls Try.prog 6 #[(Value.agg #[vr]), vu, vp, (Value.agg #[um, (Value.int .i64 mo.lo), (Value.int .i64 mo.hi)]), (Value.int .u32 s)] w (Ret fun v w' => v = .bool true ∧ Ext NoB w w') := by
 refine calls_enter Try.func6 rfl fun a0 hA0 => ?_
 replace hA0 : Fr 252 [] [(0, (Value.agg #[vr])), (1, vu), (2, vp), (3, (Value.agg #[um, (Value.int .i64 mo.lo), (Value.int .i64 mo.hi)])), (4, (Value.int .u32 s))] a0 := hA0
 have hll_ : (lv ++ [um]).length = (rs ++ [mo]).length := by rw [List.length_append, List.length_append, hx.len]; rfl
 have hxl : (rs ++ [mo]).length = rs.length + 1 := by rw [List.length_append]; rfl
 have hxa : (rs ++ [(⟨mo.segs, 0, 10000000000⟩ : RunD)]).length = rs.length + 1 := by rw [List.length_append]; rfl
 have hrd := ready_is hf; have hth := hrd.1; have he := hrd.2.1; have h6 := hth.mat; have h9 := hth.runs; have h12 := hth.plan; have hp8 := hrd.2.2.1; have hsb := hrd.2.2.2; have hcm := check_mat (enter_mat he); have hR := hcm.1; have hR1 := hcm.2.1; have hR3 := hR.1; have hV := enter_runs he; have hs : ∀ i, i < plan.length → SegV R.length (plan.getD i (0, 0, 0)) := fun i hi => segV_of (List.all_eq_true.1 hsb i (List.mem_range.2 hi)); have hrt := ratesF_len R rs; have hle := allowed_le (rs := rs) hR; have hrd2 := ready_is hf2; have hth2 := hrd2.1; have he2 := hrd2.2.1; have h9x := hth2.runs; have hV2 := enter_runs he2; have hmo : RunV R.length mo := by have := hV2.runs rs.length (by omega); rwa [getD_last] at this
 have h9a : (rs ++ [(⟨mo.segs, 0, 10000000000⟩ : RunD)]).length ≤ 9 := by omega
 have hsga : ∀ i, i < (rs ++ [(⟨mo.segs, 0, 10000000000⟩ : RunD)]).length → ((rs ++ [(⟨mo.segs, 0, 10000000000⟩ : RunD)]).getD i run0).segs.length ≤ 12 := more_segs hth.segs (Nat.le_trans (show mo.segs.length ≤ 8 from hmo.len) (by decide))
 have hea : enterF R (rs ++ [(⟨mo.segs, 0, 10000000000⟩ : RunD)]) = 0 := more_enter he he2
 have hala : allowedF R (rs ++ [(⟨mo.segs, 0, 10000000000⟩ : RunD)]) = allowedF R rs := allowed_all hR hmo.len hmo.segs
 have hpa : possF R (rs ++ [(⟨mo.segs, 0, 10000000000⟩ : RunD)]) = possF R rs := poss_same hala he hea
 have hrta := ratesF_len R (rs ++ [(⟨mo.segs, 0, 10000000000⟩ : RunD)]); have hrt2 := ratesF_len R (rs ++ [mo])
 have hale : (allowedF R (rs ++ [(⟨mo.segs, 0, 10000000000⟩ : RunD)])).length = (allowedF R rs).length := by rw [hala]
 have hle2 := app_len R rs mo
 have hz2 : possF R (rs ++ [mo]) ≠ 0 := by omega
 have hz3 : possF R (rs ++ [(⟨mo.segs, 0, 10000000000⟩ : RunD)]) = 0 := by omega
 have hS0 : Sep NoB w w [(sl um 3 mo.segs.length (trips mo.segs)), (sl vr 2 R.length (pairs R)), (runsR false vu lv rs), (sl vp 3 plan.length (trips plan))] := sep_ro ⟨rfl, hu, rfl, hm, rfl, hx, rfl, hp, trivial⟩
 refine c_seq ?_
 refine c_region ?_
 refine stw hA0 (op_box hS0 rfl (hA0.ev rfl) (cs := [vr]) rfl) rfl rfl (by decide) ?_
 rintro a1 _ w3 ⟨b4, rfl, hS5⟩ hA2; clear hA0 hS0 a0
 refine stw hA2 (op_box hS5 rfl (hA2.ev rfl) (cs := [um, (Value.int .i64 mo.lo), (Value.int .i64 mo.hi)]) rfl) rfl rfl (by decide) ?_
 rintro a6 _ w8 ⟨b9, rfl, hS10⟩ hA7; clear hA2 hS5 a1
 refine st hA7 (op_assign rfl (evc _ _)) rfl rfl (by decide) fun a11 hA12 => ?_; clear hA7 a6
 refine wl_nil ?_
 refine then_n ?_
 refine c_seq ?_
 have hA13 := hA12.as [(8, (bptr b9 0)), (5, (bptr b4 0)), (1, vu), (2, vp), (4, (Value.int .u32 s))] rfl; clear hA12
 refine c_drawCC mixed hA13 hS10 5 [(2, 0)] [[], [], [0, 1], [], [3]] [(fun (vs14 : Nat → Value) (v_ : Value) (rs_ : List Res) => ∃ (b0_ : Nat), v_ = (Value.slice (some ⟨b0_, 0, none⟩) 0 0) ∧ rs_ = [(blk b0_ 54 [])]), (fun (vs14 : Nat → Value) (v_ : Value) (rs_ : List Res) => v_ = vu ∧ rs_ = []), (fun (vs14 : Nat → Value) (v_ : Value) (rs_ : List Res) => True ∧ rs_ = [(row v_ 54 3 rs.length (vtrips (runV lv rs)))]), (fun (vs14 : Nat → Value) (v_ : Value) (rs_ : List Res) => v_ = (Value.agg #[um, (Value.int .i64 mo.lo), (Value.int .i64 mo.hi)]) ∧ rs_ = []), (fun (vs14 : Nat → Value) (v_ : Value) (rs_ : List Res) => True ∧ rs_ = [(row v_ 54 3 1 [um, (Value.int .i64 mo.lo), (Value.int .i64 mo.hi)])])] (by decide +kernel) (by decide +kernel) (by decide +kernel) (by decide +kernel) rfl rfl ⟨(fun _ _ _ _ _ h_ => h_), (fun _ _ _ _ _ h_ => h_), (fun _ _ _ _ _ h_ => h_), (fun _ _ _ _ _ h_ => h_), (fun _ _ _ _ _ h_ => h_), trivial⟩ (by decide +kernel) ?_ ?_ ?_
 ·skip
  refine ⟨fun hj_ a w vs14 hA hS hd => ?_, ?_⟩
  ·skip
   exact opG_of rfl (vblz rfl pv0 un_25 ty_54 ze_54 bs_54_0_ (fun b_ => ⟨b_, rfl, rfl⟩))
  refine ⟨fun hj_ a w vs14 hA hS hd => ?_, ?_⟩
  ·skip
   exact opG_of rfl (vv (op_move rfl (hA.ev rfl)) (And.intro rfl rfl))
  refine ⟨fun hj_ => absurd hj_ (by decide), ?_⟩
  refine ⟨fun hj_ a w vs14 hA hS hd => ?_, ?_⟩
  ·skip
   exact opG_of rfl (vv (op_loadA rfl ty_54 (hA.ev rfl) (hS.bk 0 rfl) (l := [um, (Value.int .i64 mo.lo), (Value.int .i64 mo.hi)]) rfl rfl) (And.intro rfl rfl))
  refine ⟨fun hj_ a w vs14 hA hS hd => ?_, ?_⟩
  ·skip
   obtain ⟨e3, rs3, hy3, hp3⟩ := hd 3 (by decide)
   obtain ⟨hv3, hr3⟩ := hy3; subst hr3
   rw [hv3] at e3
   exact opG_of rfl (vblt rfl (pv1 (tmp_ev (slot_ev e3 rfl))) un_25 ty_54 ze_54 (by decide) (cs := [um, (Value.int .i64 mo.lo), (Value.int .i64 mo.hi)]) (bs_54_1_0viia _ _ _) rfl (by decide) (fun _ => And.intro trivial rfl))
  trivial
 ·skip
  refine ⟨fun o_ ho_ => ?_, ?_⟩
  ·skip
   obtain rfl := Option.some.inj ho_; clear ho_
   intro a w vs14 rs0 Lr hA hs0 hy0 hd hL hS
   obtain ⟨b0_, hv0, hr0⟩ := hy0; subst hr0
   rw [hv0] at hs0
   replace hS := hS.blk_row (i := 0) (sz := 3) (n := 0) rfl rfl (by decide)
   obtain ⟨e1, rs1, hy1, hp1⟩ := hd 1 (by decide) (by decide)
   obtain ⟨hv1, hr1⟩ := hy1; subst hr1
   rw [hv1] at e1
   exact opG_of rfl (opY_mono (op_append hS rfl un_25 el_54 (tmp_ev (slot_ev hs0 rfl)) (tmp_ev (slot_ev e1 rfl)) (i := 0) rfl (runs_at (hL.ok 4 _ rfl)).runs (runs_one (runs_at (hL.ok 4 _ rfl)).len (runs_at (hL.ok 4 _ rfl)).segs) (by simp only [maxLen]; omega) (by omega)) fun v_ w_ h_ => ⟨_, And.intro trivial rfl, h_.row_say (i := 0) rfl (n' := rs.length) (xs' := (vtrips (runV lv rs))) (by simp) (by simp)⟩)
  trivial
 ·skip
  intro a15 w16 vs14 rsf20 hA17 hH19 hrq hS18; clear hA13 hS10
  have hrq_0 := hrq (2, 0) (by decide)
  obtain ⟨hs_1, hy_1⟩ := hH19 1 (by decide) (by decide)
  obtain ⟨hv_1, hr_1⟩ := hy_1
  obtain ⟨hs_2, hy_2⟩ := hH19 2 (by decide) (by decide)
  obtain ⟨hv_2, hr_2⟩ := hy_2
  obtain ⟨hs_3, hy_3⟩ := hH19 3 (by decide) (by decide)
  obtain ⟨hv_3, hr_3⟩ := hy_3
  obtain ⟨hs_4, hy_4⟩ := hH19 4 (by decide) (by decide)
  obtain ⟨hv_4, hr_4⟩ := hy_4
  have hS21 : Sep NoB w w16 [(row (vs14 2) 54 3 rs.length (vtrips (runV lv rs))), (row (vs14 4) 54 3 1 [um, (Value.int .i64 mo.lo), (Value.int .i64 mo.hi)]), (blk b9 54 [um, (Value.int .i64 mo.lo), (Value.int .i64 mo.hi)]), (blk b4 24 [vr]), (sl um 3 mo.segs.length (trips mo.segs)), (sl vr 2 R.length (pairs R)), (runsR false vu lv rs), (sl vp 3 plan.length (trips plan))] := by rw [show catR rsf20 0 5 = ([(row (vs14 2) 54 3 rs.length (vtrips (runV lv rs))), (row (vs14 4) 54 3 1 [um, (Value.int .i64 mo.lo), (Value.int .i64 mo.hi)])] : List Res) by (try simp only [catR, hr_1, hr_2, hr_3, hr_4, hrq_0]); (try rfl)] at hS18; exact hS18
  have hA22 : Fr 252 [] [(33, (vs14 2)), (8, (bptr b9 0)), (5, (bptr b4 0)), (1, vu), (2, vp), (4, (Value.int .u32 s))] a15 := hA17.add (slot_ev hs_2 rfl); clear hA17
  have hA23 : Fr 252 [] [(35, (vs14 4)), (33, (vs14 2)), (8, (bptr b9 0)), (5, (bptr b4 0)), (1, vu), (2, vp), (4, (Value.int .u32 s))] a15 := hA22.add (slot_ev hs_4 rfl); clear hA22
  clear hH19 hS18 hs_1 hs_2 hs_3 hs_4 hrq hrq_0
  clear hr_1
  clear hv_1
  clear hr_2
  clear hv_2
  clear hr_3
  clear hv_3
  clear hr_4
  clear hv_4
  refine stw hA23 (op_append hS21 rfl un_25 el_54 (hA23.ev rfl) (hA23.ev rfl) (i := 0) rfl (SlAt.of_row (hS21.ok_row 1 rfl)) (all_c (SlAt.one (hS21.sk 4 rfl)) (all_c rfl (all_c rfl all_n))) (by simp only [maxLen]; omega) (by omega)) rfl rfl (by decide) ?_
  intro a24 v27 w26 hS28 hA25
  have hS29 := hS28.row_say (i := 0) rfl (n' := (rs ++ [mo]).length) (xs' := (vtrips (runV (lv ++ [um]) (rs ++ [mo])))) (by simp) (runs_snoc (runs_at (hS21.ok 6 _ rfl)).len um mo); clear hS28 hA23 hS21 a15
  refine st hA25 (op_assign rfl (hA25.ev rfl)) rfl rfl (by decide) fun a30 hA31 => ?_; clear hA25 a24
  refine wl_nil ?_
  refine then_n ?_
  refine c_seq ?_
  refine c_seq ?_
  have hS32 := hS29.segs_app (x := mo) (i := 6) (j := 4) rfl rfl; clear hS29
  have hS33 : Sep NoB w w26 [(row v27 54 3 ((rs ++ [mo]).length) (vtrips (runV (lv ++ [um]) (rs ++ [mo])))), (segsR false (lv ++ [um]) (rs ++ [mo])), (row (vs14 4) 54 3 1 [um, (Value.int .i64 mo.lo), (Value.int .i64 mo.hi)]), (blk b9 54 [um, (Value.int .i64 mo.lo), (Value.int .i64 mo.hi)]), (blk b4 24 [vr]), (sl um 3 mo.segs.length (trips mo.segs)), (sl vr 2 R.length (pairs R)), (runsR false vu lv rs), (sl vp 3 plan.length (trips plan))] := hS32.keep [1, 0, 2, 3, 4, 5, 6, 7, 8] (by decide) _ rfl rfl; clear hS32
  have hS34 := hS33.runs_ro rfl; clear hS33
  refine c_region ?_
  refine st hA31 (op_loadA rfl ty_24 (hA31.ev rfl) (hS34.bk 3 rfl) (l := [vr]) rfl rfl) rfl rfl (by decide) fun a35 hA36 => ?_; clear hA31 a30
  refine st hA36 (op_move rfl (hA36.ev rfl)) rfl rfl (by decide) fun a37 hA38 => ?_; clear hA36 a35
  refine st hA38 (op_move rfl (hA38.ev rfl)) rfl rfl (by decide) fun a39 hA40 => ?_; clear hA38 a37
  refine stw hA40 (op_call rfl en_27 (ev3 (hA40.ev rfl) (hA40.ev rfl) (hA40.ev rfl)) (ready_ok _ R _ (hS34.sk 5 rfl) rs _ _ (runs_at (hS34.ok 6 _ rfl)) plan _ (hS34.sk 7 rfl))) rfl rfl (by decide) ?_
  rintro a41 _ w43 ⟨rfl, hE44⟩ hA42; have hS45 := hS34.step hE44; clear hE44 hA40 hS34 a39
  rw [hf] at hA42
  refine st hA42 (op_not rfl (hA42.ev rfl)) rfl rfl (by decide) fun a46 hA47 => ?_; clear hA42 a41
  refine st hA47 (op_move rfl (hA47.ev rfl)) rfl rfl (by decide) fun a48 hA49 => ?_; clear hA47 a46
  refine stg hA49 (op_loadA rfl ty_24 (hA49.ev rfl) (hS45.bk 3 rfl) (l := [vr]) rfl rfl) rfl rfl rfl rfl (by decide) fun a50 hA51 => ?_; clear hA49 a48
  refine stg hA51 (op_move rfl (hA51.ev rfl)) rfl rfl rfl rfl (by decide) fun a52 hA53 => ?_; clear hA51 a50
  refine stg hA53 (op_move rfl (hA53.ev rfl)) rfl rfl rfl rfl (by decide) fun a54 hA55 => ?_; clear hA53 a52
  refine stwg hA55 (op_call rfl en_27 (ev3 (hA55.ev rfl) (hA55.ev rfl) (hA55.ev rfl)) (ready_ok _ R _ (hS45.sk 5 rfl) (rs ++ [mo]) _ _ (runs_at (hS45.ok 0 _ rfl)) plan _ (hS45.sk 7 rfl))) rfl rfl rfl rfl (by decide) ?_
  rintro a56 _ w58 ⟨rfl, hE59⟩ hA57; have hS60 := hS45.step hE59; clear hE59 hA55 hS45 a54
  rw [hf2] at hA57
  refine stg hA57 (op_not rfl (hA57.ev rfl)) rfl rfl rfl rfl (by decide) fun a61 hA62 => ?_; clear hA57 a56
  refine st hA62 (op_pick_f rfl (hA62.ev rfl) (hA62.ev rfl)) rfl rfl (by decide) fun a63 hA64 => ?_; clear hA62 a61
  refine wl_nil ?_
  refine then_n ?_
  refine c_false hA64 rfl ?_
  refine c_skip ?_
  refine then_n ?_
  refine c_seq ?_
  have hA65 := hA64.as [(11, v27), (5, (bptr b4 0)), (1, vu), (2, vp), (4, (Value.int .u32 s))] rfl; clear hA64
  refine c_region ?_
  refine stw hA65 (op_buildSlice hS60 rfl pv0 un_25 ty_54 ze_54 (by decide) (cs := []) bs_54_0_) rfl rfl (by decide) ?_
  rintro a66 _ w68 ⟨b69, rfl, hS70⟩ hA67; clear hA65 hS60 a63
  refine st hA67 (op_move rfl (hA67.ev rfl)) rfl rfl (by decide) fun a71 hA72 => ?_; clear hA67 a66
  have hS73 := hS70.blk_row (i := 0) (sz := 3) (n := 0) rfl rfl (by decide); clear hS70
  refine stw hA72 (op_append hS73 rfl un_25 el_54 (hA72.ev rfl) (hA72.ev rfl) (i := 0) rfl (runs_at (hS73.ok 1 _ rfl)).runs (runs_one (runs_at (hS73.ok 1 _ rfl)).len (runs_at (hS73.ok 1 _ rfl)).segs) (by simp only [maxLen]; omega) (by omega)) rfl rfl (by decide) ?_
  intro a74 v77 w76 hS78 hA75
  have hS79 := hS78.row_say (i := 0) rfl (n' := (rs ++ [mo]).length) (xs' := (vtrips (runV (lv ++ [um]) (rs ++ [mo])))) (by simp) (by simp); clear hS78 hA72 hS73 a71
  refine st hA75 (op_assign rfl (hA75.ev rfl)) rfl rfl (by decide) fun a80 hA81 => ?_; clear hA75 a74
  refine wl_nil ?_
  refine then_n ?_
  refine c_seq ?_
  refine c_region ?_
  refine st hA81 (op_move rfl (hA81.ev rfl)) rfl rfl (by decide) fun a82 hA83 => ?_; clear hA81 a80
  refine st hA83 (op_move rfl (hA83.ev rfl)) rfl rfl (by decide) fun a84 hA85 => ?_; clear hA83 a82
  refine st hA85 (op_lenS rfl un_25 (hA85.ev rfl) (runs_at (hS79.ok 7 _ rfl)).runs) rfl rfl (by decide) fun a86 hA87 => ?_; clear hA85 a84
  refine st hA87 (op_build rfl (pv2 (evc _ _) (evc _ _)) (bd_48_0i_1i _ _)) rfl rfl (by decide) fun a88 hA89 => ?_; clear hA87 a86
  refine st hA89 (op_indexS rfl un_25 ty_54 (hA89.ev rfl) (i := rs.length) (hA89.ev rfl) (SlAt.of_row (hS79.ok_row 0 rfl)) (by decide) (by omega)) rfl rfl (by decide) fun a90 hA91 => ?_; clear hA89 a88
  refine st hA91 (op_fieldS rfl fd_54_1 (hA91.ev rfl) (SlAt.of_row (hS79.ok_row 0 rfl)) (by rw [((SlAt.of_row (hS79.ok_row 0 rfl))).1]; omega)) rfl rfl (by decide) fun a92 hA93 => ?_; clear hA91 a90
  refine sts hA93 (op_storeE hS79 rfl ty_48 (hA93.ev rfl) (hA93.ev rfl) (i := 0) rfl (vs := [(Value.int .i64 0), (Value.int .i64 10000000000)]) rfl rfl rfl (by rw [vtrips_length, runV_len hll_]; first | omega | (simp only [List.length_cons, List.length_nil]; omega)) (by decide)) rfl rfl ?_
  intro _ w94 hS95 hA97; have hS96 := hS95.row_say (i := 0) rfl (n' := ((rs ++ [mo]).set rs.length (⟨((rs ++ [mo]).getD rs.length run0).segs, 0, 10000000000⟩ : RunD)).length) (xs' := (vtrips (runV (lv ++ [um]) ((rs ++ [mo]).set rs.length (⟨((rs ++ [mo]).getD rs.length run0).segs, 0, 10000000000⟩ : RunD))))) (by simp only [List.length_set]) (runs_set12 (runs_at (hS79.ok 1 _ rfl)).len (by omega) _ _); clear hS95 hA93 hS79
  refine wl_nil ?_
  refine then_n ?_
  refine c_seq ?_
  have hA98 := hA97.as [(12, v77), (11, v27), (5, (bptr b4 0)), (1, vu), (2, vp), (4, (Value.int .u32 s))] rfl; clear hA97
  have hS99 := hS96.row_say (i := 0) rfl (n' := (rs ++ [(⟨mo.segs, 0, 10000000000⟩ : RunD)]).length) (xs' := (vtrips (runV (lv ++ [um]) (rs ++ [(⟨mo.segs, 0, 10000000000⟩ : RunD)])))) (by simp only [List.length_set, List.length_append, List.length_cons, List.length_nil]) (by rw [getD_last, set_last]); clear hS96
  have hS100 := hS99.segs_app (x := ⟨mo.segs, 0, 10000000000⟩) (i := 7) (j := 5) rfl rfl; clear hS99
  have hS101 : Sep NoB w w94 [(row v77 54 3 ((rs ++ [(⟨mo.segs, 0, 10000000000⟩ : RunD)]).length) (vtrips (runV (lv ++ [um]) (rs ++ [(⟨mo.segs, 0, 10000000000⟩ : RunD)])))), (segsR false (lv ++ [um]) (rs ++ [(⟨mo.segs, 0, 10000000000⟩ : RunD)])), (runsR false v27 (lv ++ [um]) (rs ++ [mo])), (row (vs14 4) 54 3 1 [um, (Value.int .i64 mo.lo), (Value.int .i64 mo.hi)]), (blk b9 54 [um, (Value.int .i64 mo.lo), (Value.int .i64 mo.hi)]), (blk b4 24 [vr]), (sl um 3 mo.segs.length (trips mo.segs)), (sl vr 2 R.length (pairs R)), (runsR false vu lv rs), (sl vp 3 plan.length (trips plan))] := hS100.keep [1, 0, 2, 3, 4, 5, 6, 7, 8, 9] (by decide) _ rfl rfl; clear hS100
  have hS102 := hS101.runs_ro rfl; clear hS101
  refine c_region ?_
  refine st hA98 (op_loadA rfl ty_24 (hA98.ev rfl) (hS102.bk 4 rfl) (l := [vr]) rfl rfl) rfl rfl (by decide) fun a103 hA104 => ?_; clear hA98 a92
  refine stw hA104 (op_call rfl en_19 (ev1 (hA104.ev rfl)) (Material_ok _ R _ (hS102.sk 6 rfl) hth.mat)) rfl rfl (by decide) ?_
  rintro a105 _ w107 ⟨u110, rfl, hT108⟩ hA106; have hS109 := hS102.callS hT108 rfl; clear hT108 hA104 hS102 a103
  refine st hA106 (op_move rfl (hA106.ev rfl)) rfl rfl (by decide) fun a111 hA112 => ?_; clear hA106 a105
  refine stw hA112 (op_call rfl en_20 (ev1 (hA112.ev rfl)) (Runs_ok _ rs _ _ (runs_at (hS109.ok 8 _ rfl)) h9 hth.segs)) rfl rfl (by decide) ?_
  rintro a113 v118 w115 ⟨lv119, hT116⟩ hA114; have hS117 := hS109.callS hT116 rfl; clear hT116 hA112 hS109 a111
  refine stw hA114 (op_call rfl en_18 (ev2 (hA114.ev rfl) (hA114.ev rfl)) (rates_ok R rs lv119 u110 v118 _ (SlAt.of_row (hS117.ok_row 1 rfl)) (runs_at (hS117.ok 0 _ rfl)) (by omega) (by omega) hc)) rfl rfl (by decide) ?_
  rintro a120 _ w122 ⟨u125, rfl, hT123⟩ hA121
  have hS124 : Sep NoB w w122 [(row u125 42 2 R.length (pairs (ratesF R rs))), (runsR true v118 lv119 rs), (row u110 42 2 R.length (pairs R)), (runsR false v77 (lv ++ [um]) (rs ++ [(⟨mo.segs, 0, 10000000000⟩ : RunD)])), (runsR false v27 (lv ++ [um]) (rs ++ [mo])), (row (vs14 4) 54 3 1 [um, (Value.int .i64 mo.lo), (Value.int .i64 mo.hi)]), (blk b9 54 [um, (Value.int .i64 mo.lo), (Value.int .i64 mo.hi)]), (blk b4 24 [vr]), (sl um 3 mo.segs.length (trips mo.segs)), (sl vr 2 R.length (pairs R)), (runsR false vu lv rs), (sl vp 3 plan.length (trips plan))] := hS117.callS hT123 rfl; clear hT123 hA114 hS117 a113
  refine st hA121 (op_move rfl (hA121.ev rfl)) rfl rfl (by decide) fun a126 hA127 => ?_; clear hA121 a120
  refine st hA127 (op_extract rfl (hA127.ev rfl) rfl) rfl rfl (by decide) fun a128 hA129 => ?_; clear hA127 a126
  refine st hA129 (op_extract rfl (hA129.ev rfl) rfl) rfl rfl (by decide) fun a130 hA131 => ?_; clear hA129 a128
  refine st hA131 (op_extract rfl (hA131.ev rfl) rfl) rfl rfl (by decide) fun a132 hA133 => ?_; clear hA131 a130
  refine st hA133 (op_assign rfl (hA133.ev rfl)) rfl rfl (by decide) fun a134 hA135 => ?_; clear hA133 a132
  refine st hA135 (op_assign rfl (hA135.ev rfl)) rfl rfl (by decide) fun a136 hA137 => ?_; clear hA135 a134
  refine st hA137 (op_assign rfl (hA137.ev rfl)) rfl rfl (by decide) fun a138 hA139 => ?_; clear hA137 a136
  refine wl_nil ?_
  refine then_n ?_
  refine c_seq ?_
  have hA140 := hA139.as [(15, (Value.int .i64 0)), (14, (Value.int .i64 (((allowedF R rs).length : Nat) : Int))), (13, u125), (12, v77), (11, v27), (5, (bptr b4 0)), (1, vu), (2, vp), (4, (Value.int .u32 s))] rfl; clear hA139
  refine c_region ?_
  refine st hA140 (op_loadA rfl ty_24 (hA140.ev rfl) (hS124.bk 7 rfl) (l := [vr]) rfl rfl) rfl rfl (by decide) fun a141 hA142 => ?_; clear hA140 a138
  refine stw hA142 (op_call rfl en_19 (ev1 (hA142.ev rfl)) (Material_ok _ R _ (hS124.sk 9 rfl) hth.mat)) rfl rfl (by decide) ?_
  rintro a143 _ w145 ⟨u148, rfl, hT146⟩ hA144; have hS147 := hS124.callS hT146 rfl; clear hT146 hA142 hS124 a141
  refine st hA144 (op_move rfl (hA144.ev rfl)) rfl rfl (by decide) fun a149 hA150 => ?_; clear hA144 a143
  refine stw hA150 (op_call rfl en_20 (ev1 (hA150.ev rfl)) (Runs_ok _ (rs ++ [mo]) _ _ (runs_at (hS147.ok 5 _ rfl)) h9x hth2.segs)) rfl rfl (by decide) ?_
  rintro a151 v156 w153 ⟨lv157, hT154⟩ hA152; have hS155 := hS147.callS hT154 rfl; clear hT154 hA150 hS147 a149
  refine stw hA152 (op_call rfl en_18 (ev2 (hA152.ev rfl) (hA152.ev rfl)) (rates_bad R (rs ++ [mo]) lv157 u148 v156 _ (SlAt.of_row (hS155.ok_row 1 rfl)) (runs_at (hS155.ok 0 _ rfl)) (by omega) (by omega) hz2)) rfl rfl (by decide) ?_
  rintro a158 _ w160 ⟨rfl, hE161⟩ hA159; have hS162 := hS155.step hE161; clear hE161 hA152 hS155 a151
  refine st hA159 (op_move rfl (hA159.ev rfl)) rfl rfl (by decide) fun a163 hA164 => ?_; clear hA159 a158
  refine st hA164 (op_extract rfl (hA164.ev rfl) rfl) rfl rfl (by decide) fun a165 hA166 => ?_; clear hA164 a163
  refine st hA166 (op_extract rfl (hA166.ev rfl) rfl) rfl rfl (by decide) fun a167 hA168 => ?_; clear hA166 a165
  refine st hA168 (op_extract rfl (hA168.ev rfl) rfl) rfl rfl (by decide) fun a169 hA170 => ?_; clear hA168 a167
  refine st hA170 (op_assign rfl (hA170.ev rfl)) rfl rfl (by decide) fun a171 hA172 => ?_; clear hA170 a169
  refine st hA172 (op_assign rfl (hA172.ev rfl)) rfl rfl (by decide) fun a173 hA174 => ?_; clear hA172 a171
  refine st hA174 (op_assign rfl (hA174.ev rfl)) rfl rfl (by decide) fun a175 hA176 => ?_; clear hA174 a173
  refine wl_nil ?_
  refine then_n ?_
  refine c_seq ?_
  have hA177 := hA176.as [(18, (Value.int .i64 (possF R (rs ++ [mo])))), (17, (Value.int .i64 0)), (16, (Value.slice none 0 0)), (15, (Value.int .i64 0)), (14, (Value.int .i64 (((allowedF R rs).length : Nat) : Int))), (13, u125), (12, v77), (11, v27), (5, (bptr b4 0)), (1, vu), (2, vp), (4, (Value.int .u32 s))] rfl; clear hA176
  refine c_region ?_
  refine st hA177 (op_loadA rfl ty_24 (hA177.ev rfl) (hS162.bk 9 rfl) (l := [vr]) rfl rfl) rfl rfl (by decide) fun a178 hA179 => ?_; clear hA177 a175
  refine stw hA179 (op_call rfl en_19 (ev1 (hA179.ev rfl)) (Material_ok _ R _ (hS162.sk 11 rfl) hth.mat)) rfl rfl (by decide) ?_
  rintro a180 _ w182 ⟨u185, rfl, hT183⟩ hA181; have hS184 := hS162.callS hT183 rfl; clear hT183 hA179 hS162 a178
  refine st hA181 (op_move rfl (hA181.ev rfl)) rfl rfl (by decide) fun a186 hA187 => ?_; clear hA181 a180
  refine stw hA187 (op_call rfl en_20 (ev1 (hA187.ev rfl)) (Runs_ok _ (rs ++ [(⟨mo.segs, 0, 10000000000⟩ : RunD)]) _ _ (runs_at (hS184.ok 6 _ rfl)) h9a hsga)) rfl rfl (by decide) ?_
  rintro a188 v193 w190 ⟨lv194, hT191⟩ hA189; have hS192 := hS184.callS hT191 rfl; clear hT191 hA187 hS184 a186
  refine stw hA189 (op_call rfl en_18 (ev2 (hA189.ev rfl) (hA189.ev rfl)) (rates_ok R (rs ++ [(⟨mo.segs, 0, 10000000000⟩ : RunD)]) lv194 u185 v193 _ (SlAt.of_row (hS192.ok_row 1 rfl)) (runs_at (hS192.ok 0 _ rfl)) (by omega) (by omega) hz3)) rfl rfl (by decide) ?_
  rintro a195 _ w197 ⟨u200, rfl, hT198⟩ hA196
  have hS199 : Sep NoB w w197 [(row u200 42 2 R.length (pairs (ratesF R (rs ++ [(⟨mo.segs, 0, 10000000000⟩ : RunD)])))), (runsR true v193 lv194 (rs ++ [(⟨mo.segs, 0, 10000000000⟩ : RunD)])), (row u185 42 2 R.length (pairs R)), (runsR true v156 lv157 (rs ++ [mo])), (row u148 42 2 R.length (pairs R)), (row u125 42 2 R.length (pairs (ratesF R rs))), (runsR true v118 lv119 rs), (row u110 42 2 R.length (pairs R)), (runsR false v77 (lv ++ [um]) (rs ++ [(⟨mo.segs, 0, 10000000000⟩ : RunD)])), (runsR false v27 (lv ++ [um]) (rs ++ [mo])), (row (vs14 4) 54 3 1 [um, (Value.int .i64 mo.lo), (Value.int .i64 mo.hi)]), (blk b9 54 [um, (Value.int .i64 mo.lo), (Value.int .i64 mo.hi)]), (blk b4 24 [vr]), (sl um 3 mo.segs.length (trips mo.segs)), (sl vr 2 R.length (pairs R)), (runsR false vu lv rs), (sl vp 3 plan.length (trips plan))] := hS192.callS hT198 rfl; clear hT198 hA189 hS192 a188
  refine st hA196 (op_move rfl (hA196.ev rfl)) rfl rfl (by decide) fun a201 hA202 => ?_; clear hA196 a195
  refine st hA202 (op_extract rfl (hA202.ev rfl) rfl) rfl rfl (by decide) fun a203 hA204 => ?_; clear hA202 a201
  refine st hA204 (op_extract rfl (hA204.ev rfl) rfl) rfl rfl (by decide) fun a205 hA206 => ?_; clear hA204 a203
  refine st hA206 (op_extract rfl (hA206.ev rfl) rfl) rfl rfl (by decide) fun a207 hA208 => ?_; clear hA206 a205
  refine st hA208 (op_assign rfl (hA208.ev rfl)) rfl rfl (by decide) fun a209 hA210 => ?_; clear hA208 a207
  refine st hA210 (op_assign rfl (hA210.ev rfl)) rfl rfl (by decide) fun a211 hA212 => ?_; clear hA210 a209
  refine st hA212 (op_assign rfl (hA212.ev rfl)) rfl rfl (by decide) fun a213 hA214 => ?_; clear hA212 a211
  refine wl_nil ?_
  refine then_n ?_
  refine c_seq ?_
  refine c_seq ?_
  have hA215 := hA214.as [(21, (Value.int .i64 0)), (20, (Value.int .i64 (((allowedF R (rs ++ [(⟨mo.segs, 0, 10000000000⟩ : RunD)])).length : Nat) : Int))), (18, (Value.int .i64 (possF R (rs ++ [mo])))), (17, (Value.int .i64 0)), (16, (Value.slice none 0 0)), (15, (Value.int .i64 0)), (14, (Value.int .i64 (((allowedF R rs).length : Nat) : Int))), (13, u125), (11, v27), (5, (bptr b4 0)), (1, vu), (2, vp), (4, (Value.int .u32 s))] rfl; clear hA214
  refine c_region ?_
  refine st hA215 (op_move rfl (hA215.ev rfl)) rfl rfl (by decide) fun a216 hA217 => ?_; clear hA215 a213
  refine st hA217 (op_move rfl (hA217.ev rfl)) rfl rfl (by decide) fun a218 hA219 => ?_; clear hA217 a216
  refine st hA219 (op_neq rfl (hA219.ev rfl) (hA219.ev rfl)) rfl rfl (by decide) fun a220 hA221 => ?_; clear hA219 a218
  refine st hA221 (op_move rfl (hA221.ev rfl)) rfl rfl (by decide) fun a222 hA223 => ?_; clear hA221 a220
  refine stg hA223 (op_move rfl (hA223.ev rfl)) rfl rfl rfl rfl (by decide) fun a224 hA225 => ?_; clear hA223 a222
  refine stg hA225 (op_move rfl (hA225.ev rfl)) rfl rfl rfl rfl (by decide) fun a226 hA227 => ?_; clear hA225 a224
  refine stg hA227 (op_neq rfl (hA227.ev rfl) (hA227.ev rfl)) rfl rfl rfl rfl (by decide) fun a228 hA229 => ?_; clear hA227 a226
  have hd230 : (((allowedF R (rs ++ [(⟨mo.segs, 0, 10000000000⟩ : RunD)])).length : Nat) : Int) = (((allowedF R rs).length : Nat) : Int) := (by omega)
  rw [decide_eq_true hd230] at hA229
  refine st hA229 (op_pick_f rfl (hA229.ev rfl) (hA229.ev rfl)) rfl rfl (by decide) fun a231 hA232 => ?_; clear hA229 a228
  refine st hA232 (op_move rfl (hA232.ev rfl)) rfl rfl (by decide) fun a233 hA234 => ?_; clear hA232 a231
  refine stg hA234 (op_move rfl (hA234.ev rfl)) rfl rfl rfl rfl (by decide) fun a235 hA236 => ?_; clear hA234 a233
  refine stg hA236 (op_move rfl (hA236.ev rfl)) rfl rfl rfl rfl (by decide) fun a237 hA238 => ?_; clear hA236 a235
  refine stg hA238 (op_gtr rfl (hA238.ev rfl) (hA238.ev rfl)) rfl rfl rfl rfl (by decide) fun a239 hA240 => ?_; clear hA238 a237
  have hd241 : ¬ ((((allowedF R rs).length : Nat) : Int) < 0) := (by omega)
  rw [decide_eq_false hd241] at hA240
  refine st hA240 (op_pick_f rfl (hA240.ev rfl) (hA240.ev rfl)) rfl rfl (by decide) fun a242 hA243 => ?_; clear hA240 a239
  refine st hA243 (op_move rfl (hA243.ev rfl)) rfl rfl (by decide) fun a244 hA245 => ?_; clear hA243 a242
  refine stg hA245 (op_move rfl (hA245.ev rfl)) rfl rfl rfl rfl (by decide) fun a246 hA247 => ?_; clear hA245 a244
  refine stg hA247 (op_neq rfl (hA247.ev rfl) (evc _ _)) rfl rfl rfl rfl (by decide) fun a248 hA249 => ?_; clear hA247 a246
  refine stg hA249 (op_move rfl (hA249.ev rfl)) rfl rfl rfl rfl (by decide) fun a250 hA251 => ?_; clear hA249 a248
  refine skp hA251 rfl rfl rfl rfl rfl (by decide) fun a252 hA253 => ?_; clear hA251 a250
  refine skp hA253 rfl rfl rfl rfl rfl (by decide) fun a254 hA255 => ?_; clear hA253 a252
  refine skp hA255 rfl rfl rfl rfl rfl (by decide) fun a256 hA257 => ?_; clear hA255 a254
  refine stg hA257 (op_pick_f rfl (hA257.ev rfl) (evc _ _)) rfl rfl rfl rfl (by decide) fun a258 hA259 => ?_; clear hA257 a256
  refine st hA259 (op_pick_f rfl (hA259.ev rfl) (hA259.ev rfl)) rfl rfl (by decide) fun a260 hA261 => ?_; clear hA259 a258
  refine st hA261 (op_move rfl (hA261.ev rfl)) rfl rfl (by decide) fun a262 hA263 => ?_; clear hA261 a260
  refine stg hA263 (op_move rfl (hA263.ev rfl)) rfl rfl rfl rfl (by decide) fun a264 hA265 => ?_; clear hA263 a262
  refine stg hA265 (op_lenS rfl un_28 (hA265.ev rfl) (SlAt.of_row (hS199.ok_row 5 rfl))) rfl rfl rfl rfl (by decide) fun a266 hA267 => ?_; clear hA265 a264
  refine stg hA267 (op_neq rfl (hA267.ev rfl) (evc _ _)) rfl rfl rfl rfl (by decide) fun a268 hA269 => ?_; clear hA267 a266
  refine stg hA269 (op_move rfl (hA269.ev rfl)) rfl rfl rfl rfl (by decide) fun a270 hA271 => ?_; clear hA269 a268
  by_cases hb272 : (R.length : Int) = 0
  ·skip
   rw [decide_eq_true hb272] at hA271
   refine skp hA271 rfl rfl rfl rfl rfl (by decide) fun a273 hA274 => ?_; clear hA271 a270
   refine skp hA274 rfl rfl rfl rfl rfl (by decide) fun a275 hA276 => ?_; clear hA274 a273
   refine skp hA276 rfl rfl rfl rfl rfl (by decide) fun a277 hA278 => ?_; clear hA276 a275
   refine skp hA278 rfl rfl rfl rfl rfl (by decide) fun a279 hA280 => ?_; clear hA278 a277
   refine skp hA280 rfl rfl rfl rfl rfl (by decide) fun a281 hA282 => ?_; clear hA280 a279
   refine skp hA282 rfl rfl rfl rfl rfl (by decide) fun a283 hA284 => ?_; clear hA282 a281
   refine stg hA284 (op_pick_f rfl (hA284.ev rfl) (evc _ _)) rfl rfl rfl rfl (by decide) fun a285 hA286 => ?_; clear hA284 a283
   refine st hA286 (op_pick_f rfl (hA286.ev rfl) (hA286.ev rfl)) rfl rfl (by decide) fun a287 hA288 => ?_; clear hA286 a285
   refine st hA288 (op_move rfl (hA288.ev rfl)) rfl rfl (by decide) fun a289 hA290 => ?_; clear hA288 a287
   refine stg hA290 (op_move rfl (hA290.ev rfl)) rfl rfl rfl rfl (by decide) fun a291 hA292 => ?_; clear hA290 a289
   refine stg hA292 (op_eql rfl (hA292.ev rfl) (evc _ _)) rfl rfl rfl rfl (by decide) fun a293 hA294 => ?_; clear hA292 a291
   have hd295 : ¬ ((possF R (rs ++ [mo])) = 0) := (by omega)
   rw [decide_eq_false hd295] at hA294
   refine stg hA294 (op_move rfl (hA294.ev rfl)) rfl rfl rfl rfl (by decide) fun a296 hA297 => ?_; clear hA294 a293
   refine skp hA297 rfl rfl rfl rfl rfl (by decide) fun a298 hA299 => ?_; clear hA297 a296
   refine skp hA299 rfl rfl rfl rfl rfl (by decide) fun a300 hA301 => ?_; clear hA299 a298
   refine skp hA301 rfl rfl rfl rfl rfl (by decide) fun a302 hA303 => ?_; clear hA301 a300
   refine skp hA303 rfl rfl rfl rfl rfl (by decide) fun a304 hA305 => ?_; clear hA303 a302
   refine skp hA305 rfl rfl rfl rfl rfl (by decide) fun a306 hA307 => ?_; clear hA305 a304
   refine stg hA307 (op_pick_f rfl (hA307.ev rfl) (evc _ _)) rfl rfl rfl rfl (by decide) fun a308 hA309 => ?_; clear hA307 a306
   refine st hA309 (op_pick_f rfl (hA309.ev rfl) (hA309.ev rfl)) rfl rfl (by decide) fun a310 hA311 => ?_; clear hA309 a308
   refine wl_nil ?_
   refine then_n ?_
   refine c_false hA311 rfl ?_
   refine c_skip ?_
   refine then_n ?_
   refine c_seq ?_
   refine c_seq ?_
   have hA312 := hA311.as [(18, (Value.int .i64 (possF R (rs ++ [mo])))), (16, (Value.slice none 0 0)), (13, u125), (11, v27), (5, (bptr b4 0)), (1, vu), (2, vp), (4, (Value.int .u32 s))] rfl; clear hA311
   refine c_region ?_
   refine st hA312 (op_move rfl (hA312.ev rfl)) rfl rfl (by decide) fun a313 hA314 => ?_; clear hA312 a310
   refine st hA314 (op_neq rfl (hA314.ev rfl) (evc _ _)) rfl rfl (by decide) fun a315 hA316 => ?_; clear hA314 a313
   rw [decide_eq_false hd295] at hA316
   refine wl_nil ?_
   refine then_n ?_
   refine c_true hA316 rfl ?_
   refine c_seq ?_
   have hA317 := hA316.as [(18, (Value.int .i64 (possF R (rs ++ [mo]))))] rfl; clear hA316
   refine c_region ?_
   refine st hA317 (op_move rfl (hA317.ev rfl)) rfl rfl (by decide) fun a318 hA319 => ?_; clear hA317 a315
   refine st hA319 (op_eql rfl (hA319.ev rfl) (evc _ _)) rfl rfl (by decide) fun a320 hA321 => ?_; clear hA319 a318
   have hd322 : (possF R (rs ++ [mo])) = 9 := (by omega)
   rw [decide_eq_true hd322] at hA321
   refine st hA321 (op_move rfl (hA321.ev rfl)) rfl rfl (by decide) fun a323 hA324 => ?_; clear hA321 a320
   refine stwg hA324 (op_call rfl en_17 ev0 (awake_ok _)) rfl rfl rfl rfl (by decide) ?_
   rintro a325 _ w327 ⟨rfl, hE328⟩ hA326; have hS329 := hS199.step hE328; clear hE328 hA324 hS199 a323
   refine st hA326 (op_pick_t rfl (hA326.ev rfl) (hA326.ev rfl)) rfl rfl (by decide) fun a330 hA331 => ?_; clear hA326 a325
   refine st hA331 (op_assign rfl (hA331.ev rfl)) rfl rfl (by decide) fun a332 hA333 => ?_; clear hA331 a330
   refine wl_nil ?_
   refine then_n ?_
   refine c_ret ?_
   refine then_ret ?_
   refine fin_run hA333 (.inl rfl) (run_results1 hA333 rfl (.tmp rfl)) ?_
   exact ⟨rfl, hS329.ext⟩
  ·skip
   rw [decide_eq_false hb272] at hA271
   refine stg hA271 (op_move rfl (hA271.ev rfl)) rfl rfl rfl rfl (by decide) fun a334 hA335 => ?_; clear hA271 a270
   refine stg hA335 (op_lenS rfl un_28 (hA335.ev rfl) (SlAt.of_row (hS199.ok_row 5 rfl))) rfl rfl rfl rfl (by decide) fun a336 hA337 => ?_; clear hA335 a334
   refine stg hA337 (op_field rfl fd_24_0 (hA337.ev rfl)) rfl rfl rfl rfl (by decide) fun a338 hA339 => ?_; clear hA337 a336
   refine stg hA339 (op_load1 rfl ty_22 (hA339.ev rfl) (hS199.bk 12 rfl) rfl) rfl rfl rfl rfl (by decide) fun a340 hA341 => ?_; clear hA339 a338
   refine stg hA341 (op_lenS rfl un_22 (hA341.ev rfl) (hS199.sk 14 rfl)) rfl rfl rfl rfl (by decide) fun a342 hA343 => ?_; clear hA341 a340
   refine stg hA343 (op_neq rfl (hA343.ev rfl) (hA343.ev rfl)) rfl rfl rfl rfl (by decide) fun a344 hA345 => ?_; clear hA343 a342
   have hd346 : (R.length : Int) = (R.length : Int) := rfl
   rw [decide_eq_true hd346] at hA345
   refine stg hA345 (op_pick_t rfl (hA345.ev rfl) (hA345.ev rfl)) rfl rfl rfl rfl (by decide) fun a347 hA348 => ?_; clear hA345 a344
   refine st hA348 (op_pick_f rfl (hA348.ev rfl) (hA348.ev rfl)) rfl rfl (by decide) fun a349 hA350 => ?_; clear hA348 a347
   refine st hA350 (op_move rfl (hA350.ev rfl)) rfl rfl (by decide) fun a351 hA352 => ?_; clear hA350 a349
   refine stg hA352 (op_move rfl (hA352.ev rfl)) rfl rfl rfl rfl (by decide) fun a353 hA354 => ?_; clear hA352 a351
   refine stg hA354 (op_eql rfl (hA354.ev rfl) (evc _ _)) rfl rfl rfl rfl (by decide) fun a355 hA356 => ?_; clear hA354 a353
   have hd357 : ¬ ((possF R (rs ++ [mo])) = 0) := (by omega)
   rw [decide_eq_false hd357] at hA356
   refine stg hA356 (op_move rfl (hA356.ev rfl)) rfl rfl rfl rfl (by decide) fun a358 hA359 => ?_; clear hA356 a355
   refine skp hA359 rfl rfl rfl rfl rfl (by decide) fun a360 hA361 => ?_; clear hA359 a358
   refine skp hA361 rfl rfl rfl rfl rfl (by decide) fun a362 hA363 => ?_; clear hA361 a360
   refine skp hA363 rfl rfl rfl rfl rfl (by decide) fun a364 hA365 => ?_; clear hA363 a362
   refine skp hA365 rfl rfl rfl rfl rfl (by decide) fun a366 hA367 => ?_; clear hA365 a364
   refine skp hA367 rfl rfl rfl rfl rfl (by decide) fun a368 hA369 => ?_; clear hA367 a366
   refine stg hA369 (op_pick_f rfl (hA369.ev rfl) (evc _ _)) rfl rfl rfl rfl (by decide) fun a370 hA371 => ?_; clear hA369 a368
   refine st hA371 (op_pick_f rfl (hA371.ev rfl) (hA371.ev rfl)) rfl rfl (by decide) fun a372 hA373 => ?_; clear hA371 a370
   refine wl_nil ?_
   refine then_n ?_
   refine c_false hA373 rfl ?_
   refine c_skip ?_
   refine then_n ?_
   refine c_seq ?_
   refine c_seq ?_
   have hA374 := hA373.as [(18, (Value.int .i64 (possF R (rs ++ [mo])))), (16, (Value.slice none 0 0)), (13, u125), (11, v27), (5, (bptr b4 0)), (1, vu), (2, vp), (4, (Value.int .u32 s))] rfl; clear hA373
   refine c_region ?_
   refine st hA374 (op_move rfl (hA374.ev rfl)) rfl rfl (by decide) fun a375 hA376 => ?_; clear hA374 a372
   refine st hA376 (op_neq rfl (hA376.ev rfl) (evc _ _)) rfl rfl (by decide) fun a377 hA378 => ?_; clear hA376 a375
   rw [decide_eq_false hd357] at hA378
   refine wl_nil ?_
   refine then_n ?_
   refine c_true hA378 rfl ?_
   refine c_seq ?_
   have hA379 := hA378.as [(18, (Value.int .i64 (possF R (rs ++ [mo]))))] rfl; clear hA378
   refine c_region ?_
   refine st hA379 (op_move rfl (hA379.ev rfl)) rfl rfl (by decide) fun a380 hA381 => ?_; clear hA379 a377
   refine st hA381 (op_eql rfl (hA381.ev rfl) (evc _ _)) rfl rfl (by decide) fun a382 hA383 => ?_; clear hA381 a380
   have hd384 : (possF R (rs ++ [mo])) = 9 := (by omega)
   rw [decide_eq_true hd384] at hA383
   refine st hA383 (op_move rfl (hA383.ev rfl)) rfl rfl (by decide) fun a385 hA386 => ?_; clear hA383 a382
   refine stwg hA386 (op_call rfl en_17 ev0 (awake_ok _)) rfl rfl rfl rfl (by decide) ?_
   rintro a387 _ w389 ⟨rfl, hE390⟩ hA388; have hS391 := hS199.step hE390; clear hE390 hA386 hS199 a385
   refine st hA388 (op_pick_t rfl (hA388.ev rfl) (hA388.ev rfl)) rfl rfl (by decide) fun a392 hA393 => ?_; clear hA388 a387
   refine st hA393 (op_assign rfl (hA393.ev rfl)) rfl rfl (by decide) fun a394 hA395 => ?_; clear hA393 a392
   refine wl_nil ?_
   refine then_n ?_
   refine c_ret ?_
   refine then_ret ?_
   refine fin_run hA395 (.inl rfl) (run_results1 hA395 rfl (.tmp rfl)) ?_
   exact ⟨rfl, hS391.ext⟩
