/-
  What the reference computes, and that it is the same.
  Runs that are built; lists of the reference.
-/
import Derived.Test.YtkkglkdnnfegkaaBb
import Derived.Test.YtkkglkdnnfegkaaEnga
set_option linter.unusedSimpArgs false
set_option linter.unusedVariables false
namespace Go.Proofs.Ytkkglkdnnfegkaa
open Go.RowKit Go.Shelf Go.Eng
theorem en_58 : ∀ args w, (callFunc 58 args).run Try.prog w = .ok (.enter 58 args) w := enters_of Try.func58 (by kernel_rfl) rfl
theorem bd_42_  (w : World) : (Instr.build 42 #[]).run Try.prog w = .ok (.agg #[(Value.int .i64 0), (Value.int .i64 0)]) w := by kernel_rfl
theorem en_59 : ∀ args w, (callFunc 59 args).run Try.prog w = .ok (.enter 59 args) w := enters_of Try.func59 (by kernel_rfl) rfl
theorem en_57 : ∀ args w, (callFunc 57 args).run Try.prog w = .ok (.enter 57 args) w := enters_of Try.func57 (by kernel_rfl) rfl
theorem tw_42 : twoInts Try.prog 42 = true := by kernel_rfl
theorem stretch_bad (R : List (Int × Int)) (rs : List RunD) (lv : List Value) (vr vu : Value) (w : World) (hm : SlAt w vr 2 R.length (pairs R)) (hx : RunsAt w vu lv rs) (hlen : R.length ≤ 1000000) (hrl : rs.length ≤ 1000000) (plan : List Seg) (vp : Value) (hp : SlAt w vp 3 plan.length (trips plan)) (hpl : plan.length ≤ 1000000) (he : planF R rs plan ≠ 0) :
  Calls Try.prog 28 #[(Value.agg #[vr]), vu, vp] w (Ret fun v w' => v = .tuple #[.agg #[.int .i64 0, .int .i64 0], .int .i64 (planF R rs plan)] ∧ Ext NoB w w') := by
 refine calls_enter Try.func28 rfl fun a0 hA0 => ?_
 replace hA0 : Fr 38 [] [(0, (Value.agg #[vr])), (1, vu), (2, vp)] a0 := hA0
 have hS0 : Sep NoB w w [(sl vr 2 R.length (pairs R)), (sl vu 3 rs.length (vtrips (runV lv rs))), (segsR false lv rs), (sl vp 3 plan.length (trips plan))] := sep_ro ⟨rfl, hm, rfl, hx.runs, rfl, ⟨hx.len, hx.segs⟩, rfl, hp, trivial⟩
 refine c_seq ?_
 refine c_region ?_
 refine stw hA0 (op_box hS0 rfl (hA0.ev rfl) (cs := [vr]) rfl) rfl rfl (by decide) ?_
 rintro a1 _ w3 ⟨b4, rfl, hS5⟩ hA2; clear hA0 hS0 a0
 refine stw hA2 (op_alloc hS5 rfl ze_42 (cs := [(Value.int .i64 0), (Value.int .i64 0)]) rfl) rfl rfl (by decide) ?_
 rintro a6 _ w8 ⟨b9, rfl, hS10⟩ hA7; clear hA2 hS5 a1
 refine st hA7 (op_assign rfl (evc _ _)) rfl rfl (by decide) fun a11 hA12 => ?_; clear hA7 a6
 refine wl_nil ?_
 refine then_n ?_
 refine c_seq ?_
 refine c_region ?_
 refine st hA12 (op_loadA rfl ty_33 (hA12.ev rfl) (hS10.bk 1 rfl) (l := [vr]) rfl rfl) rfl rfl (by decide) fun a13 hA14 => ?_; clear hA12 a11
 refine st hA14 (op_move rfl (hA14.ev rfl)) rfl rfl (by decide) fun a15 hA16 => ?_; clear hA14 a13
 refine st hA16 (op_move rfl (hA16.ev rfl)) rfl rfl (by decide) fun a17 hA18 => ?_; clear hA16 a15
 refine stw hA18 (op_call rfl en_58 (ev3 (hA18.ev rfl) (hA18.ev rfl) (hA18.ev rfl)) (plan_bad R rs lv vr vu _ (hm.step hS10.ext) (hx.step hS10.ext) (by omega) (by omega) plan vp (hp.step hS10.ext) (by omega) he)) rfl rfl (by decide) ?_
 rintro a19 _ w21 ⟨rfl, hE22⟩ hA20; have hS23 := hS10.step hE22; clear hE22 hA18 hS10 a17
 refine st hA20 (op_move rfl (hA20.ev rfl)) rfl rfl (by decide) fun a24 hA25 => ?_; clear hA20 a19
 refine st hA25 (op_extract rfl (hA25.ev rfl) rfl) rfl rfl (by decide) fun a26 hA27 => ?_; clear hA25 a24
 refine st hA27 (op_extract rfl (hA27.ev rfl) rfl) rfl rfl (by decide) fun a28 hA29 => ?_; clear hA27 a26
 refine st hA29 (op_assign rfl (hA29.ev rfl)) rfl rfl (by decide) fun a30 hA31 => ?_; clear hA29 a28
 refine st hA31 (op_assign rfl (hA31.ev rfl)) rfl rfl (by decide) fun a32 hA33 => ?_; clear hA31 a30
 refine wl_nil ?_
 refine then_n ?_
 refine c_seq ?_
 refine c_seq ?_
 have hA34 := hA33.as [(9, (Value.int .i64 (planF R rs plan))), (8, (Value.pointer none)), (6, (bptr b9 0)), (2, vp)] rfl; clear hA33
 refine c_region ?_
 refine st hA34 (op_move rfl (hA34.ev rfl)) rfl rfl (by decide) fun a35 hA36 => ?_; clear hA34 a32
 refine st hA36 (op_neq rfl (hA36.ev rfl) (evc _ _)) rfl rfl (by decide) fun a37 hA38 => ?_; clear hA36 a35
 have hd39 : ¬ ((planF R rs plan) = 0) := he
 rw [decide_eq_false hd39] at hA38
 refine wl_nil ?_
 refine then_n ?_
 refine c_true hA38 rfl ?_
 refine c_seq ?_
 refine c_region ?_
 refine st hA38 (op_build rfl pv0 bd_42_) rfl rfl (by decide) fun a40 hA41 => ?_; clear hA38 a37
 refine st hA41 (op_move rfl (hA41.ev rfl)) rfl rfl (by decide) fun a42 hA43 => ?_; clear hA41 a40
 refine sts hA43 (op_store hS23 rfl ty_42 (hA43.ev rfl) (hA43.ev rfl) (i := 0) rfl (vs := [(Value.int .i64 0), (Value.int .i64 0)]) rfl rfl rfl (Nat.le_of_ble_eq_true rfl)) rfl rfl ?_
 intro _ w44 hS45 hA46; clear hA43
 have hS47 : Sep NoB w w44 [(blk b9 42 [(Value.int .i64 0), (Value.int .i64 0)]), (blk b4 33 [vr]), (sl vr 2 R.length (pairs R)), (sl vu 3 rs.length (vtrips (runV lv rs))), (segsR false lv rs), (sl vp 3 plan.length (trips plan))] := hS45; clear hS45 hS23
 refine st hA46 (op_assign rfl (hA46.ev rfl)) rfl rfl (by decide) fun a48 hA49 => ?_; clear hA46 a42
 refine wl_nil ?_
 refine then_n ?_
 refine c_ret ?_
 refine then_ret ?_
 refine fin_run hA49 (.inl rfl) (run_results2 hA49 rfl (.cellA rfl ty_42 (hS47.bk 0 rfl) (l := [(Value.int .i64 0), (Value.int .i64 0)]) rfl rfl) (.tmp rfl)) ?_
 exact ⟨rfl, hS47.ext⟩
theorem stretch_fine (R : List (Int × Int)) (rs : List RunD) (lv : List Value) (vr vu : Value) (w : World) (hm : SlAt w vr 2 R.length (pairs R)) (hx : RunsAt w vu lv rs) (hlen : R.length ≤ 1000000) (hrl : rs.length ≤ 1000000) (plan : List Seg) (vp : Value) (hp : SlAt w vp 3 plan.length (trips plan)) (hpl : plan.length ≤ 1000000) (he : planF R rs plan = 0) :
  Calls Try.prog 28 #[(Value.agg #[vr]), vu, vp] w (Ret fun v w' => v = .tuple #[.agg #[.int .i64 (stLo plan (leastR R rs plan)), .int .i64 (stHi plan (mostR R rs plan))], .int .i64 0] ∧ Ext NoB w w') := by
 refine calls_enter Try.func28 rfl fun a0 hA0 => ?_
 replace hA0 : Fr 38 [] [(0, (Value.agg #[vr])), (1, vu), (2, vp)] a0 := hA0
 have hpi := plan_is he
 have hs := hpi.2.2
 have hp8 := hpi.2.1
 have hR := (check_mat (enter_mat (poss_is hpi.1).1)).1
 have hR1 := (check_mat (enter_mat (poss_is hpi.1).1)).2.1
 have hR3 := hR.1
 have hV := enter_runs (poss_is hpi.1).1
 have hS0 : Sep NoB w w [(sl vr 2 R.length (pairs R)), (sl vu 3 rs.length (vtrips (runV lv rs))), (segsR false lv rs), (sl vp 3 plan.length (trips plan))] := sep_ro ⟨rfl, hm, rfl, hx.runs, rfl, ⟨hx.len, hx.segs⟩, rfl, hp, trivial⟩
 refine c_seq ?_
 refine c_region ?_
 refine stw hA0 (op_box hS0 rfl (hA0.ev rfl) (cs := [vr]) rfl) rfl rfl (by decide) ?_
 rintro a1 _ w3 ⟨b4, rfl, hS5⟩ hA2; clear hA0 hS0 a0
 refine stw hA2 (op_alloc hS5 rfl ze_42 (cs := [(Value.int .i64 0), (Value.int .i64 0)]) rfl) rfl rfl (by decide) ?_
 rintro a6 _ w8 ⟨b9, rfl, hS10⟩ hA7; clear hA2 hS5 a1
 refine st hA7 (op_assign rfl (evc _ _)) rfl rfl (by decide) fun a11 hA12 => ?_; clear hA7 a6
 refine wl_nil ?_
 refine then_n ?_
 refine c_seq ?_
 refine c_region ?_
 refine st hA12 (op_loadA rfl ty_33 (hA12.ev rfl) (hS10.bk 1 rfl) (l := [vr]) rfl rfl) rfl rfl (by decide) fun a13 hA14 => ?_; clear hA12 a11
 refine st hA14 (op_move rfl (hA14.ev rfl)) rfl rfl (by decide) fun a15 hA16 => ?_; clear hA14 a13
 refine st hA16 (op_move rfl (hA16.ev rfl)) rfl rfl (by decide) fun a17 hA18 => ?_; clear hA16 a15
 refine stw hA18 (op_call rfl en_58 (ev3 (hA18.ev rfl) (hA18.ev rfl) (hA18.ev rfl)) (plan_ok R rs lv vr vu _ (hm.step hS10.ext) (hx.step hS10.ext) (by omega) (by omega) plan vp (hp.step hS10.ext) (by omega) he)) rfl rfl (by decide) ?_
 rintro a19 _ w21 ⟨bj24, bm25, rfl, hT22⟩ hA20; have hS23 := hS10.callS hT22 rfl; clear hT22 hA18 hS10 a17
 refine st hA20 (op_move rfl (hA20.ev rfl)) rfl rfl (by decide) fun a26 hA27 => ?_; clear hA20 a19
 refine st hA27 (op_extract rfl (hA27.ev rfl) rfl) rfl rfl (by decide) fun a28 hA29 => ?_; clear hA27 a26
 refine st hA29 (op_extract rfl (hA29.ev rfl) rfl) rfl rfl (by decide) fun a30 hA31 => ?_; clear hA29 a28
 refine st hA31 (op_assign rfl (hA31.ev rfl)) rfl rfl (by decide) fun a32 hA33 => ?_; clear hA31 a30
 refine st hA33 (op_assign rfl (hA33.ev rfl)) rfl rfl (by decide) fun a34 hA35 => ?_; clear hA33 a32
 refine wl_nil ?_
 refine then_n ?_
 refine c_seq ?_
 refine c_seq ?_
 have hA36 := hA35.as [(9, (Value.int .i64 0)), (8, (bptr bj24 0)), (6, (bptr b9 0)), (2, vp)] rfl; clear hA35
 refine c_region ?_
 refine st hA36 (op_move rfl (hA36.ev rfl)) rfl rfl (by decide) fun a37 hA38 => ?_; clear hA36 a34
 refine st hA38 (op_neq rfl (hA38.ev rfl) (evc _ _)) rfl rfl (by decide) fun a39 hA40 => ?_; clear hA38 a37
 refine wl_nil ?_
 refine then_n ?_
 refine c_false hA40 rfl ?_
 refine c_skip ?_
 refine then_n ?_
 refine c_seq ?_
 refine c_region ?_
 refine st hA40 (op_move rfl (hA40.ev rfl)) rfl rfl (by decide) fun a41 hA42 => ?_; clear hA40 a39
 refine st hA42 (op_move rfl (hA42.ev rfl)) rfl rfl (by decide) fun a43 hA44 => ?_; clear hA42 a41
 refine stw hA44 (op_call rfl en_59 (ev2 (hA44.ev rfl) (hA44.ev rfl)) (ends_ok _ _ R rs lv vr vu vp plan _ hR hV hx.len hp8 hs (hS23.lendM (i := 1) rfl [0, 4, 5, 6, 7] ⟨rfl, by decide, hS23.bk 0 rfl, ⟨_, rfl, fun _ hz => hz⟩, rfl, by decide, hS23.sk 4 rfl, ⟨_, rfl, fun _ hz => hz⟩, rfl, by decide, hS23.sk 5 rfl, ⟨_, rfl, fun _ hz => hz⟩, rfl, by decide, hS23.ok 6 _ rfl, ⟨_, rfl, fun _ hz => hz⟩, rfl, by decide, hS23.sk 7 rfl, ⟨_, rfl, fun _ hz => hz⟩, trivial⟩))) rfl rfl (by decide) ?_
 rintro a45 _ w47 ⟨rfl, hE48, hM49⟩ hA46; have hS50 := hS23.updM (i := 1) rfl hE48 hM49; clear hE48 hM49 hA44 hS23 a43
 refine st hA46 (op_move rfl (hA46.ev rfl)) rfl rfl (by decide) fun a51 hA52 => ?_; clear hA46 a45
 refine st hA52 (op_extract rfl (hA52.ev rfl) rfl) rfl rfl (by decide) fun a53 hA54 => ?_; clear hA52 a51
 refine st hA54 (op_extract rfl (hA54.ev rfl) rfl) rfl rfl (by decide) fun a55 hA56 => ?_; clear hA54 a53
 refine stw hA56 (op_alloc hS50 rfl ze_104 (cs := [(Value.int .i64 0), (Value.int .i64 0), (Value.int .i64 0)]) rfl) rfl rfl (by decide) ?_
 rintro a57 _ w59 ⟨b60, rfl, hS61⟩ hA58; clear hA56 hS50 a55
 refine stw hA58 (op_alloc hS61 rfl ze_104 (cs := [(Value.int .i64 0), (Value.int .i64 0), (Value.int .i64 0)]) rfl) rfl rfl (by decide) ?_
 rintro a62 _ w64 ⟨b65, rfl, hS66⟩ hA63; clear hA58 hS61 a57
 refine sts hA63 (op_store hS66 rfl ty_104 (hA63.ev rfl) (hA63.ev rfl) (i := 1) rfl (vs := (ints (leastR R rs plan))) rfl (by rw [ints, List.length_map]; exact (leastR_rates hR).1) (ints_one _) (by decide)) rfl rfl ?_
 intro _ w67 hS68 hA70; have hS69 := hS68.blk_say (i := 1) rfl (cs' := (ints (leastR R rs plan))) (setFrom_all _ _ (Eq.symm (by rw [ints, List.length_map]; exact (leastR_rates hR).1))); clear hS68 hA63 hS66
 refine sts hA70 (op_store hS69 rfl ty_104 (hA70.ev rfl) (hA70.ev rfl) (i := 0) rfl (vs := (ints (mostR R rs plan))) rfl (by rw [ints, List.length_map]; exact (mostR_rates hR).1) (ints_one _) (by decide)) rfl rfl ?_
 intro _ w71 hS72 hA74; have hS73 := hS72.blk_say (i := 0) rfl (cs' := (ints (mostR R rs plan))) (setFrom_all _ _ (Eq.symm (by rw [ints, List.length_map]; exact (mostR_rates hR).1))); clear hS72 hA70 hS69
 refine wl_nil ?_
 refine then_n ?_
 refine c_seq ?_
 have hA75 := hA74.as [(11, (bptr b65 0)), (10, (bptr b60 0)), (6, (bptr b9 0)), (2, vp)] rfl; clear hA74
 have hA76 := hA75.as [(11, (bptr b65 0)), (10, (bptr b60 0)), (6, (bptr b9 0)), (2, vp)] rfl; clear hA75
 refine c_drawV mixed hA76 hS73 8 [[], [], [0, 1], [2], [], [], [4, 5], [6]] [(fun (vs77 : Nat → Value) (v_ : Value) (rs_ : List Res) => v_ = vp ∧ rs_ = []), (fun (vs77 : Nat → Value) (v_ : Value) (rs_ : List Res) => v_ = (Value.agg (ints (leastR R rs plan)).toArray) ∧ rs_ = []), (fun (vs77 : Nat → Value) (v_ : Value) (rs_ : List Res) => v_ = (Value.agg #[(Value.int .i64 (stLo plan (leastR R rs plan))), (Value.int .i64 (stHi plan (leastR R rs plan)))]) ∧ rs_ = []), (fun (vs77 : Nat → Value) (v_ : Value) (rs_ : List Res) => v_ = (Value.int .i64 (stLo plan (leastR R rs plan))) ∧ rs_ = []), (fun (vs77 : Nat → Value) (v_ : Value) (rs_ : List Res) => v_ = vp ∧ rs_ = []), (fun (vs77 : Nat → Value) (v_ : Value) (rs_ : List Res) => v_ = (Value.agg (ints (mostR R rs plan)).toArray) ∧ rs_ = []), (fun (vs77 : Nat → Value) (v_ : Value) (rs_ : List Res) => v_ = (Value.agg #[(Value.int .i64 (stLo plan (mostR R rs plan))), (Value.int .i64 (stHi plan (mostR R rs plan)))]) ∧ rs_ = []), (fun (vs77 : Nat → Value) (v_ : Value) (rs_ : List Res) => v_ = (Value.int .i64 (stHi plan (mostR R rs plan))) ∧ rs_ = [])] (by decide +kernel) (by decide +kernel) rfl rfl ⟨(fun _ _ _ _ _ h_ => h_), (fun _ _ _ _ _ h_ => h_), (fun _ _ _ _ _ h_ => h_), (fun _ _ _ _ _ h_ => h_), (fun _ _ _ _ _ h_ => h_), (fun _ _ _ _ _ h_ => h_), (fun _ _ _ _ _ h_ => h_), (fun _ _ _ _ _ h_ => h_), trivial⟩ ?_ ?_
 ·skip
  refine ⟨fun a w vs77 hA hS hd => ?_, ?_⟩
  ·skip
   exact opG_of rfl (vv (op_move rfl (hA.ev rfl)) (And.intro rfl rfl))
  refine ⟨fun a w vs77 hA hS hd => ?_, ?_⟩
  ·skip
   exact opG_of rfl (vv (op_loadA rfl ty_104 (hA.ev rfl) (hS.bk 1 rfl) (l := (ints (leastR R rs plan))) (drop_take_all _ _ (by rw [ints, List.length_map]; exact (leastR_rates hR).1)) (by rw [ints, List.length_map]; exact (leastR_rates hR).1)) (And.intro rfl rfl))
  refine ⟨fun a w vs77 hA hS hd => ?_, ?_⟩
  ·skip
   obtain ⟨e0, rs0, hy0, hp0⟩ := hd 0 (by decide)
   obtain ⟨hv0, hr0⟩ := hy0; subst hr0
   rw [hv0] at e0
   obtain ⟨e1, rs1, hy1, hp1⟩ := hd 1 (by decide)
   obtain ⟨hv1, hr1⟩ := hy1; subst hr1
   rw [hv1] at e1
   exact opG_of rfl (vx (op_call rfl en_60 (ev2 (tmp_ev (slot_ev e0 rfl)) (tmp_ev (slot_ev e1 rfl))) (stretch_ok plan _ (leastR R rs plan) R.length _ (by omega) hR.1 (leastR_rates hR) hs (hS.sk 9 rfl))) (And.intro rfl rfl))
  refine ⟨fun a w vs77 hA hS hd => ?_, ?_⟩
  ·skip
   obtain ⟨e2, rs2, hy2, hp2⟩ := hd 2 (by decide)
   obtain ⟨hv2, hr2⟩ := hy2; subst hr2
   rw [hv2] at e2
   exact opG_of rfl (vv (op_fieldV rfl (tmp_ev (slot_ev e2 rfl)) (bd_fv_42_0_i64i64 _ _)) (And.intro rfl rfl))
  refine ⟨fun a w vs77 hA hS hd => ?_, ?_⟩
  ·skip
   exact opG_of rfl (vv (op_move rfl (hA.ev rfl)) (And.intro rfl rfl))
  refine ⟨fun a w vs77 hA hS hd => ?_, ?_⟩
  ·skip
   exact opG_of rfl (vv (op_loadA rfl ty_104 (hA.ev rfl) (hS.bk 0 rfl) (l := (ints (mostR R rs plan))) (drop_take_all _ _ (by rw [ints, List.length_map]; exact (mostR_rates hR).1)) (by rw [ints, List.length_map]; exact (mostR_rates hR).1)) (And.intro rfl rfl))
  refine ⟨fun a w vs77 hA hS hd => ?_, ?_⟩
  ·skip
   obtain ⟨e4, rs4, hy4, hp4⟩ := hd 4 (by decide)
   obtain ⟨hv4, hr4⟩ := hy4; subst hr4
   rw [hv4] at e4
   obtain ⟨e5, rs5, hy5, hp5⟩ := hd 5 (by decide)
   obtain ⟨hv5, hr5⟩ := hy5; subst hr5
   rw [hv5] at e5
   exact opG_of rfl (vx (op_call rfl en_60 (ev2 (tmp_ev (slot_ev e4 rfl)) (tmp_ev (slot_ev e5 rfl))) (stretch_ok plan _ (mostR R rs plan) R.length _ (by omega) hR.1 (mostR_rates hR) hs (hS.sk 9 rfl))) (And.intro rfl rfl))
  refine ⟨fun a w vs77 hA hS hd => ?_, ?_⟩
  ·skip
   obtain ⟨e6, rs6, hy6, hp6⟩ := hd 6 (by decide)
   obtain ⟨hv6, hr6⟩ := hy6; subst hr6
   rw [hv6] at e6
   exact opG_of rfl (vv (op_fieldV rfl (tmp_ev (slot_ev e6 rfl)) (bd_fv_42_1_i64i64 _ _)) (And.intro rfl rfl))
  trivial
 intro a78 w79 vs77 rsf83 hA80 hH82 hS81; clear hA76 hS73
 obtain ⟨hs_0, hy_0⟩ := hH82 0 (by decide)
 obtain ⟨hv_0, hr_0⟩ := hy_0
 obtain ⟨hs_1, hy_1⟩ := hH82 1 (by decide)
 obtain ⟨hv_1, hr_1⟩ := hy_1
 obtain ⟨hs_2, hy_2⟩ := hH82 2 (by decide)
 obtain ⟨hv_2, hr_2⟩ := hy_2
 obtain ⟨hs_3, hy_3⟩ := hH82 3 (by decide)
 obtain ⟨hv_3, hr_3⟩ := hy_3
 obtain ⟨hs_4, hy_4⟩ := hH82 4 (by decide)
 obtain ⟨hv_4, hr_4⟩ := hy_4
 obtain ⟨hs_5, hy_5⟩ := hH82 5 (by decide)
 obtain ⟨hv_5, hr_5⟩ := hy_5
 obtain ⟨hs_6, hy_6⟩ := hH82 6 (by decide)
 obtain ⟨hv_6, hr_6⟩ := hy_6
 obtain ⟨hs_7, hy_7⟩ := hH82 7 (by decide)
 obtain ⟨hv_7, hr_7⟩ := hy_7
 have hS84 : Sep NoB w w79 [(blk b65 104 (ints (mostR R rs plan))), (blk b60 104 (ints (leastR R rs plan))), (blk bj24 119 [vr, vu, (Value.map (some bm25))]), (memo bm25 (KA rs)), (blk b9 42 [(Value.int .i64 0), (Value.int .i64 0)]), (blk b4 33 [vr]), (sl vr 2 R.length (pairs R)), (sl vu 3 rs.length (vtrips (runV lv rs))), (segsR false lv rs), (sl vp 3 plan.length (trips plan))] := by rw [show catR rsf83 0 8 = ([] : List Res) by (try simp only [catR, hr_0, hr_1, hr_2, hr_3, hr_4, hr_5, hr_6, hr_7]); (try rfl)] at hS81; exact hS81
 rw [hv_3] at hs_3
 have hA85 : Fr 38 [] [(32, (Value.int .i64 (stLo plan (leastR R rs plan)))), (11, (bptr b65 0)), (10, (bptr b60 0)), (6, (bptr b9 0)), (2, vp)] a78 := hA80.add (slot_ev hs_3 rfl); clear hA80
 rw [hv_7] at hs_7
 have hA86 : Fr 38 [] [(36, (Value.int .i64 (stHi plan (mostR R rs plan)))), (32, (Value.int .i64 (stLo plan (leastR R rs plan)))), (11, (bptr b65 0)), (10, (bptr b60 0)), (6, (bptr b9 0)), (2, vp)] a78 := hA85.add (slot_ev hs_7 rfl); clear hA85
 clear hH82 hS81 hs_0 hs_1 hs_2 hs_3 hs_4 hs_5 hs_6 hs_7
 clear hr_0
 clear hv_0
 clear hr_1
 clear hv_1
 clear hr_2
 clear hv_2
 clear hr_3
 clear hv_3
 clear hr_4
 clear hv_4
 clear hr_5
 clear hv_5
 clear hr_6
 clear hv_6
 clear hr_7
 clear hv_7
 refine st hA86 (op_build rfl (pv2 (hA86.ev rfl) (hA86.ev rfl)) (bd_42_0i_1i _ _)) rfl rfl (by decide) fun a87 hA88 => ?_; clear hA86 a78
 refine sts hA88 (op_store hS84 rfl ty_42 (hA88.ev rfl) (hA88.ev rfl) (i := 4) rfl (vs := [(Value.int .i64 (stLo plan (leastR R rs plan))), (Value.int .i64 (stHi plan (mostR R rs plan)))]) rfl rfl rfl (Nat.le_of_ble_eq_true rfl)) rfl rfl ?_
 intro _ w89 hS90 hA91; clear hA88
 have hS92 : Sep NoB w w89 [(blk b65 104 (ints (mostR R rs plan))), (blk b60 104 (ints (leastR R rs plan))), (blk bj24 119 [vr, vu, (Value.map (some bm25))]), (memo bm25 (KA rs)), (blk b9 42 [(Value.int .i64 (stLo plan (leastR R rs plan))), (Value.int .i64 (stHi plan (mostR R rs plan)))]), (blk b4 33 [vr]), (sl vr 2 R.length (pairs R)), (sl vu 3 rs.length (vtrips (runV lv rs))), (segsR false lv rs), (sl vp 3 plan.length (trips plan))] := hS90; clear hS90 hS84
 refine st hA91 (op_assign rfl (evc _ _)) rfl rfl (by decide) fun a93 hA94 => ?_; clear hA91 a87
 refine wl_nil ?_
 refine then_n ?_
 refine c_ret ?_
 refine fin_run hA94 (.inl rfl) (run_results2 hA94 rfl (.cellA rfl ty_42 (hS92.bk 4 rfl) (l := [(Value.int .i64 (stLo plan (leastR R rs plan))), (Value.int .i64 (stHi plan (mostR R rs plan)))]) rfl rfl) (.tmp rfl)) ?_
 exact ⟨rfl, hS92.ext⟩
theorem life_any (R : List (Int × Int)) (rs : List RunD) (lv : List Value) (vr vu : Value) (w : World) (hm : SlAt w vr 2 R.length (pairs R)) (hx : RunsAt w vu lv rs) (hlen : R.length ≤ 1000000) (hrl : rs.length ≤ 1000000) (band s : Int) (he : possF R rs = 0) :
  Calls Try.prog 23 #[(Value.agg #[vr]), vu, (Value.int .i64 band), (Value.int .i64 s)] w (Ret fun v w' => (lifeE R rs band s = 2 ∧ v = .tuple #[.agg #[.int .i64 0, .int .i64 0], .int .i64 2] ∧ Ext NoB w w') ∨ (lifeE R rs band s = 0 ∧ v = .tuple #[.agg #[.int .i64 (lifeR (allowedF R rs) band.toNat s).1, .int .i64 (lifeR (allowedF R rs) band.toNat s).2], .int .i64 0] ∧ Ext NoB w w')) := by
 refine calls_enterM Try.func23 rfl fun a0 hA0 => ?_
 replace hA0 : Fr 63 (marks []) [(0, (Value.agg #[vr])), (1, vu), (2, (Value.int .i64 band)), (3, (Value.int .i64 s))] a0 := hA0
 have hR := (check_mat (enter_mat (poss_is he).1)).1
 have hR1 := (check_mat (enter_mat (poss_is he).1)).2.1
 have hR3 := hR.1
 have hal_ := allowed_le (rs := rs) hR
 have hV := enter_runs (poss_is he).1
 have hS0 : Sep NoB w w [(marksR []), (sl vr 2 R.length (pairs R)), (sl vu 3 rs.length (vtrips (runV lv rs))), (segsR false lv rs)] := sep_marks (sep_ro ⟨rfl, hm, rfl, hx.runs, rfl, ⟨hx.len, hx.segs⟩, trivial⟩)
 refine c_seq ?_
 refine c_region ?_
 refine stw hA0 (op_box hS0 rfl (hA0.ev rfl) (cs := [vr]) rfl) rfl rfl (by decide) ?_
 rintro a1 _ w3 ⟨b4, rfl, hS5⟩ hA2; clear hA0 hS0 a0
 refine stw hA2 (op_box hS5 rfl (hA2.ev rfl) (cs := [(Value.int .i64 band)]) rfl) rfl rfl (by decide) ?_
 rintro a6 _ w8 ⟨b9, rfl, hS10⟩ hA7; clear hA2 hS5 a1
 refine stw hA7 (op_box hS10 rfl (hA7.ev rfl) (cs := [(Value.int .i64 s)]) rfl) rfl rfl (by decide) ?_
 rintro a11 _ w13 ⟨b14, rfl, hS15⟩ hA12; clear hA7 hS10 a6
 refine stw hA12 (op_alloc hS15 rfl ze_42 (cs := [(Value.int .i64 0), (Value.int .i64 0)]) rfl) rfl rfl (by decide) ?_
 rintro a16 _ w18 ⟨b19, rfl, hS20⟩ hA17; clear hA12 hS15 a11
 refine st hA17 (op_assign rfl (evc _ _)) rfl rfl (by decide) fun a21 hA22 => ?_; clear hA17 a16
 refine wl_nil ?_
 refine then_n ?_
 refine c_seq ?_
 refine c_region ?_
 refine st hA22 (op_loadA rfl ty_33 (hA22.ev rfl) (hS20.bk 3 rfl) (l := [vr]) rfl rfl) rfl rfl (by decide) fun a23 hA24 => ?_; clear hA22 a21
 refine st hA24 (op_move rfl (hA24.ev rfl)) rfl rfl (by decide) fun a25 hA26 => ?_; clear hA24 a23
 refine stw hA26 (op_call rfl en_53 (ev2 (hA26.ev rfl) (hA26.ev rfl)) (poss_ok R rs lv vr vu _ (hm.step hS20.ext) (hx.step hS20.ext) (by omega) (by omega) he)) rfl rfl (by decide) ?_
 rintro a27 _ w29 ⟨bj32, bm33, rfl, hT30⟩ hA28; have hS31 := hS20.callS hT30 rfl; clear hT30 hA26 hS20 a25
 refine st hA28 (op_move rfl (hA28.ev rfl)) rfl rfl (by decide) fun a34 hA35 => ?_; clear hA28 a27
 refine st hA35 (op_extract rfl (hA35.ev rfl) rfl) rfl rfl (by decide) fun a36 hA37 => ?_; clear hA35 a34
 refine st hA37 (op_extract rfl (hA37.ev rfl) rfl) rfl rfl (by decide) fun a38 hA39 => ?_; clear hA37 a36
 refine st hA39 (op_assign rfl (hA39.ev rfl)) rfl rfl (by decide) fun a40 hA41 => ?_; clear hA39 a38
 refine st hA41 (op_assign rfl (hA41.ev rfl)) rfl rfl (by decide) fun a42 hA43 => ?_; clear hA41 a40
 refine wl_nil ?_
 refine then_n ?_
 refine c_seq ?_
 refine c_block ?_
 refine c_seq ?_
 have hA44 := hA43.as [(11, (Value.int .i64 0)), (10, (bptr bj32 0)), (8, (bptr b19 0)), (7, (bptr b14 0)), (6, (bptr b9 0)), (4, (bptr b4 0))] rfl; clear hA43
 refine c_region ?_
 refine st hA44 (op_move rfl (hA44.ev rfl)) rfl rfl (by decide) fun a45 hA46 => ?_; clear hA44 a42
 refine st hA46 (op_neq rfl (hA46.ev rfl) (evc _ _)) rfl rfl (by decide) fun a47 hA48 => ?_; clear hA46 a45
 refine st hA48 (op_assign rfl (hA48.ev rfl)) rfl rfl (by decide) fun a49 hA50 => ?_; clear hA48 a47
 refine wl_nil ?_
 refine then_n ?_
 refine c_false hA50 rfl ?_
 refine c_seq ?_
 refine c_region ?_
 refine st hA50 (op_load1 rfl ty_3 (hA50.ev rfl) (hS31.bk 4 rfl) rfl) rfl rfl (by decide) fun a51 hA52 => ?_; clear hA50 a49
 refine st hA52 (op_field rfl fd_33_0 (hA52.ev rfl)) rfl rfl (by decide) fun a53 hA54 => ?_; clear hA52 a51
 refine st hA54 (op_load1 rfl ty_28 (hA54.ev rfl) (hS31.bk 5 rfl) rfl) rfl rfl (by decide) fun a55 hA56 => ?_; clear hA54 a53
 refine st hA56 (op_lenS rfl un_28 (hA56.ev rfl) (hS31.sk 7 rfl)) rfl rfl (by decide) fun a57 hA58 => ?_; clear hA56 a55
 refine st hA58 (op_sub rfl (hA58.ev rfl) (evc _ _) (by omega) (by omega)) rfl rfl (by decide) fun a59 hA60 => ?_; clear hA58 a57
 refine stw hA60 (op_call rfl en_56 (ev3 (hA60.ev rfl) (evc _ _) (hA60.ev rfl)) (within_ok _ _ _ _)) rfl rfl (by decide) ?_
 rintro a61 _ W_ ⟨rfl, hW_⟩ hA62; have hW2_ := hW_.symm; subst hW2_; clear hW_ hA60 a59
 refine st hA62 (op_not rfl (hA62.ev rfl)) rfl rfl (by decide) fun a64 hA65 => ?_; clear hA62 a61
 refine st hA65 (op_move rfl (hA65.ev rfl)) rfl rfl (by decide) fun a66 hA67 => ?_; clear hA65 a64
 rcases Bool.eq_false_or_eq_true ((decide (0 ≤ band) && decide (band ≤ ((R.length : Int) - 1)))) with hb68 | hb68
 ·skip
  rw [hb68] at hA67
  have hq69 := hb68; simp only [Bool.and_eq_true, Bool.and_eq_false_iff, decide_eq_true_eq, decide_eq_false_iff_not] at hq69
  refine stg hA67 (op_load1 rfl ty_3 (hA67.ev rfl) (hS31.bk 3 rfl) rfl) rfl rfl rfl rfl (by decide) fun a70 hA71 => ?_; clear hA67 a66
  refine stwg hA71 (op_call rfl en_56 (ev3 (hA71.ev rfl) (evc _ _) (evc _ _)) (within_ok _ _ _ _)) rfl rfl rfl rfl (by decide) ?_
  rintro a72 _ W_ ⟨rfl, hW_⟩ hA73; have hW2_ := hW_.symm; subst hW2_; clear hW_ hA71 a70
  refine stg hA73 (op_not rfl (hA73.ev rfl)) rfl rfl rfl rfl (by decide) fun a75 hA76 => ?_; clear hA73 a72
  refine st hA76 (op_pick_f rfl (hA76.ev rfl) (hA76.ev rfl)) rfl rfl (by decide) fun a77 hA78 => ?_; clear hA76 a75
  refine st hA78 (op_assign rfl (hA78.ev rfl)) rfl rfl (by decide) fun a79 hA80 => ?_; clear hA78 a77
  refine wl_nil ?_
  refine then_n ?_
  rcases Bool.eq_false_or_eq_true ((decide (0 ≤ s) && decide (s ≤ 10000000000))) with hb81 | hb81
  ·skip
   rw [hb81] at hA80
   have hq82 := hb81; simp only [Bool.and_eq_true, Bool.and_eq_false_iff, decide_eq_true_eq, decide_eq_false_iff_not] at hq82
   refine c_false hA80 rfl ?_
   refine c_skip ?_
   refine blk_n ?_
   refine then_n ?_
   refine c_seq ?_
   have hA83 := hA80.as [(10, (bptr bj32 0)), (8, (bptr b19 0)), (7, (bptr b14 0)), (6, (bptr b9 0))] rfl; clear hA80
   refine c_region ?_
   refine st hA83 (op_build rfl (pv2 (evc _ _) (evc _ _)) (bd_42_0i_1i _ _)) rfl rfl (by decide) fun a84 hA85 => ?_; clear hA83 a79
   refine stw hA85 (op_alloc hS31 rfl ze_42 (cs := [(Value.int .i64 0), (Value.int .i64 0)]) rfl) rfl rfl (by decide) ?_
   rintro a86 _ w88 ⟨b89, rfl, hS90⟩ hA87; clear hA85 hS31 a84
   refine sts hA87 (op_store hS90 rfl ty_42 (hA87.ev rfl) (hA87.ev rfl) (i := 0) rfl (vs := [(Value.int .i64 (-1)), (Value.int .i64 (-1))]) rfl rfl rfl (Nat.le_of_ble_eq_true rfl)) rfl rfl ?_
   intro _ w91 hS92 hA93; clear hA87
   have hS94 : Sep NoB w w91 [(blk b89 42 [(Value.int .i64 (-1)), (Value.int .i64 (-1))]), (blk bj32 119 [vr, vu, (Value.map (some bm33))]), (memo bm33 (KA rs)), (blk b19 42 [(Value.int .i64 0), (Value.int .i64 0)]), (blk b14 3 [(Value.int .i64 s)]), (blk b9 3 [(Value.int .i64 band)]), (blk b4 33 [vr]), (marksR []), (sl vr 2 R.length (pairs R)), (sl vu 3 rs.length (vtrips (runV lv rs))), (segsR false lv rs)] := hS92; clear hS92 hS90
   refine wl_nil ?_
   refine then_n ?_
   refine c_seq ?_
   refine c_region ?_
   refine st hA93 (op_loadA rfl ty_42 (hA93.ev rfl) (hS94.bk 0 rfl) (l := [(Value.int .i64 (-1)), (Value.int .i64 (-1))]) rfl rfl) rfl rfl (by decide) fun a95 hA96 => ?_; clear hA93 a86
   refine stw hA96 (op_alloc hS94 rfl ze_42 (cs := [(Value.int .i64 0), (Value.int .i64 0)]) rfl) rfl rfl (by decide) ?_
   rintro a97 _ w99 ⟨b100, rfl, hS101⟩ hA98; clear hA96 hS94 a95
   refine stw hA98 (op_alloc hS101 rfl ze_4 (cs := [(Value.bool false)]) rfl) rfl rfl (by decide) ?_
   rintro a102 _ w104 ⟨b105, rfl, hS106⟩ hA103; clear hA98 hS101 a97
   refine sts hA103 (op_store hS106 rfl ty_42 (hA103.ev rfl) (hA103.ev rfl) (i := 1) rfl (vs := [(Value.int .i64 (-1)), (Value.int .i64 (-1))]) rfl rfl rfl (Nat.le_of_ble_eq_true rfl)) rfl rfl ?_
   intro _ w107 hS108 hA109; clear hA103
   have hS110 : Sep NoB w w107 [(blk b105 4 [(Value.bool false)]), (blk b100 42 [(Value.int .i64 (-1)), (Value.int .i64 (-1))]), (blk b89 42 [(Value.int .i64 (-1)), (Value.int .i64 (-1))]), (blk bj32 119 [vr, vu, (Value.map (some bm33))]), (memo bm33 (KA rs)), (blk b19 42 [(Value.int .i64 0), (Value.int .i64 0)]), (blk b14 3 [(Value.int .i64 s)]), (blk b9 3 [(Value.int .i64 band)]), (blk b4 33 [vr]), (marksR []), (sl vr 2 R.length (pairs R)), (sl vu 3 rs.length (vtrips (runV lv rs))), (segsR false lv rs)] := hS108; clear hS108 hS106
   refine sts hA109 (op_store hS110 rfl ty_4 (hA109.ev rfl) (evc _ _) (i := 0) rfl (vs := [(Value.bool false)]) rfl rfl rfl (Nat.le_of_ble_eq_true rfl)) rfl rfl ?_
   intro _ w111 hS112 hA113; clear hA109
   have hS114 : Sep NoB w w111 [(blk b105 4 [(Value.bool false)]), (blk b100 42 [(Value.int .i64 (-1)), (Value.int .i64 (-1))]), (blk b89 42 [(Value.int .i64 (-1)), (Value.int .i64 (-1))]), (blk bj32 119 [vr, vu, (Value.map (some bm33))]), (memo bm33 (KA rs)), (blk b19 42 [(Value.int .i64 0), (Value.int .i64 0)]), (blk b14 3 [(Value.int .i64 s)]), (blk b9 3 [(Value.int .i64 band)]), (blk b4 33 [vr]), (marksR []), (sl vr 2 R.length (pairs R)), (sl vu 3 rs.length (vtrips (runV lv rs))), (segsR false lv rs)] := hS112; clear hS112 hS110
   refine wl_nil ?_
   refine then_n ?_
   refine c_seq ?_
   refine c_seq ?_
   refine c_region ?_
   refine st hA113 (op_move rfl (hA113.ev rfl)) rfl rfl (by decide) fun a115 hA116 => ?_; clear hA113 a102
   refine stw hA116 (op_call rfl en_54 (ev1 (hA116.ev rfl)) (every_ok _ _)) rfl rfl (by decide) ?_
   rintro a117 _ w119 ⟨bx122, rfl, hT120⟩ hA118; have hS121 := hS114.callS hT120 rfl; clear hT120 hA116 hS114 a115
   refine wl_nil ?_
   refine then_n ?_
   refine c_block ?_
   have hA123 := hA118.as [(45, (Value.func (.func 78) #[] #[(bptr bx122 0)])), (14, (bptr b105 0)), (13, (bptr b100 0)), (12, (bptr b89 0)), (8, (bptr b19 0)), (7, (bptr b14 0)), (6, (bptr b9 0))] rfl; clear hA118
   have hbd : 0 ≤ band ∧ band ≤ (R.length : Int) - 1 ∧ 0 ≤ s ∧ s ≤ 10000000000 := by omega
   have hS124 : Sep NoB w w119 [(marksR []), (memo bm33 (KA rs)), (blk bx122 97 [(bptr bj32 0)]), (blk b105 4 [(Value.bool false)]), (blk b100 42 [(Value.int .i64 (-1)), (Value.int .i64 (-1))]), (blk b89 42 [(Value.int .i64 (-1)), (Value.int .i64 (-1))]), (blk bj32 119 [vr, vu, (Value.map (some bm33))]), (blk b19 42 [(Value.int .i64 0), (Value.int .i64 0)]), (blk b14 3 [(Value.int .i64 s)]), (blk b9 3 [(Value.int .i64 band)]), (blk b4 33 [vr]), (sl vr 2 R.length (pairs R)), (sl vu 3 rs.length (vtrips (runV lv rs))), (segsR false lv rs)] := hS121.keep [10, 5, 0, 1, 2, 3, 4, 6, 7, 8, 9, 11, 12, 13] (by decide) _ rfl rfl; clear hS121
   refine c_rangeG hA123 (memo bm33 (KA rs)) rfl hS124 (hA123.ev rfl) en_78 ((allowedF R rs).length) (fun k => #[.agg (ints ((allowedF R rs).getD k [])).toArray]) (fun _ => rfl) [rob bx122 97 [bptr bj32 0], rob bj32 119 [vr, vu, .map (some bm33)], sl vr 2 R.length (pairs R), sl vu 3 rs.length (vtrips (runV lv rs)), segsR false lv rs] (fun r hr => by simp only [List.mem_cons, List.not_mem_nil, or_false] at hr; rcases hr with rfl | rfl | rfl | rfl | rfl <;> rfl) (every_it bx122 bj32 bm33 R rs lv vr vu R.length hR.1 hR hV hx.len) (fun q L_ => L_ = [(blk bx122 97 [(bptr bj32 0)]), (blk b105 4 [(Value.bool ((lifeU (allowedF R rs) band.toNat s q).2))]), (blk b100 42 [(Value.int .i64 ((lifeU (allowedF R rs) band.toNat s q).1.1)), (Value.int .i64 ((lifeU (allowedF R rs) band.toNat s q).1.2))]), (blk b89 42 [(Value.int .i64 (-1)), (Value.int .i64 (-1))]), (blk bj32 119 [vr, vu, (Value.map (some bm33))]), (blk b19 42 [(Value.int .i64 0), (Value.int .i64 0)]), (blk b14 3 [(Value.int .i64 s)]), (blk b9 3 [(Value.int .i64 band)]), (blk b4 33 [vr]), (sl vr 2 R.length (pairs R)), (sl vu 3 rs.length (vtrips (runV lv rs))), (segsR false lv rs)]) (fun _ => False) none rfl (fun q L_ hI_ G_ W_ r1_ r2_ hW_ => by obtain ⟨rfl⟩ := hI_; exact (Sep.keep ((hW_.to_ro (i := 3) rfl).to_ro (i := 7) rfl) [2, 3, 7, 12, 13, 14] (by decide) _ rfl rfl)) (fun L_ hI_ => hI_.elim) ?_ ?_ (fun _ hc_ => by cases hc_)
   ·skip
    intro q hq L_ hL_ G133 hG134 l130 D131 rc132 a125 w126 ha129 hS127; obtain ⟨rfl⟩ := hL_
    have hA128 : Fr 63 [] [(46, (Value.agg (ints ((allowedF R rs).getD q [])).toArray)), (45, (Value.func (.func 78) #[] #[(bptr bx122 0)])), (14, (bptr b105 0)), (13, (bptr b100 0)), (12, (bptr b89 0)), (8, (bptr b19 0)), (7, (bptr b14 0)), (6, (bptr b9 0))] a125 := by rw [ha129]; exact Fr.round1 hA123 (by decide)
    clear ha129 hS124
    have har := (allowed_rates hR hq).1; have hl3 := har.1; have hrb := har.2 band.toNat
    refine c_region ?_
    refine stw hA128 (op_alloc hS127 rfl ze_104 (cs := [(Value.int .i64 0), (Value.int .i64 0), (Value.int .i64 0)]) rfl) rfl rfl (by decide) ?_
    rintro a135 _ w137 ⟨b138, rfl, hS139⟩ hA136; clear hA128 hS127 a125
    refine sts hA136 (op_store hS139 rfl ty_104 (hA136.ev rfl) (hA136.ev rfl) (i := 0) rfl (vs := (ints ((allowedF R rs).getD q []))) rfl (allowed_len3 hR hq).symm (ints_one _) (by decide)) rfl rfl ?_
    intro _ w140 hS141 hA143; have hS142 := hS141.blk_say (i := 0) rfl (cs' := (ints ((allowedF R rs).getD q []))) (setFrom_all _ _ (Eq.symm (allowed_len3 hR hq).symm)); clear hS141 hA136 hS139
    refine wl_nil ?_
    have hS144 : Sep NoB w w140 [(obR l130 (.loop (rc132 .ready none))), (marksR (D131 :: [])), G133, (blk b138 104 (ints ((allowedF R rs).getD q []))), (blk bx122 97 [(bptr bj32 0)]), (blk b105 4 [(Value.bool ((lifeU (allowedF R rs) band.toNat s q).2))]), (blk b100 42 [(Value.int .i64 ((lifeU (allowedF R rs) band.toNat s q).1.1)), (Value.int .i64 ((lifeU (allowedF R rs) band.toNat s q).1.2))]), (blk b89 42 [(Value.int .i64 (-1)), (Value.int .i64 (-1))]), (blk bj32 119 [vr, vu, (Value.map (some bm33))]), (blk b19 42 [(Value.int .i64 0), (Value.int .i64 0)]), (blk b14 3 [(Value.int .i64 s)]), (blk b9 3 [(Value.int .i64 band)]), (blk b4 33 [vr]), (sl vr 2 R.length (pairs R)), (sl vu 3 rs.length (vtrips (runV lv rs))), (segsR false lv rs)] := hS142.keep [1, 2, 3, 0, 4, 5, 6, 7, 8, 9, 10, 11, 12, 13, 14, 15] (by decide) _ rfl rfl; clear hS142
    refine ⟨rfl, _, hS144, ?_⟩; intro w145 hS146; clear hS144
    refine c_block ?_
    refine c_seq ?_
    have hA147 := hA143.as [(15, (bptr b138 0)), (14, (bptr b105 0)), (13, (bptr b100 0)), (12, (bptr b89 0)), (7, (bptr b14 0)), (6, (bptr b9 0))] rfl; clear hA143
    refine c_drawV mixed hA147 hS146 4 [[], [0], [1], []] [(fun (vs148 : Nat → Value) (v_ : Value) (rs_ : List Res) => v_ = (Value.int .i64 band) ∧ rs_ = []), (fun (vs148 : Nat → Value) (v_ : Value) (rs_ : List Res) => v_ = (bptr b138 (0 + band.toNat * 1)) ∧ rs_ = []), (fun (vs148 : Nat → Value) (v_ : Value) (rs_ : List Res) => v_ = (Value.int .i64 (((allowedF R rs).getD q []).getD band.toNat 0)) ∧ rs_ = []), (fun (vs148 : Nat → Value) (v_ : Value) (rs_ : List Res) => v_ = (Value.int .i64 s) ∧ rs_ = [])] (by decide +kernel) (by decide +kernel) rfl rfl ⟨(fun _ _ _ _ _ h_ => h_), (fun _ _ _ _ _ h_ => h_), (fun _ _ _ _ _ h_ => h_), (fun _ _ _ _ _ h_ => h_), trivial⟩ ?_ ?_
    ·skip
     refine ⟨fun a w vs148 hA hS hd => ?_, ?_⟩
     ·skip
      exact opG_of rfl (vv (op_load1 rfl ty_3 (hA.ev rfl) (hS.bk 11 rfl) rfl) (And.intro rfl rfl))
     refine ⟨fun a w vs148 hA hS hd => ?_, ?_⟩
     ·skip
      obtain ⟨e0, rs0, hy0, hp0⟩ := hd 0 (by decide)
      obtain ⟨hv0, hr0⟩ := hy0; subst hr0
      rw [hv0] at e0
      exact opG_of rfl (vv (op_indexA rfl un_104 ty_3 (hA.ev rfl) (i := band.toNat) ((tmp_ev (slot_ev e0 rfl)).trans (int_nat (by omega))) (by omega)) (And.intro rfl rfl))
     refine ⟨fun a w vs148 hA hS hd => ?_, ?_⟩
     ·skip
      obtain ⟨e1, rs1, hy1, hp1⟩ := hd 1 (by decide)
      obtain ⟨hv1, hr1⟩ := hy1; subst hr1
      rw [hv1] at e1
      exact opG_of rfl (vv (op_load1 rfl ty_3 (tmp_ev (slot_ev e1 rfl)) (hS.bk 3 rfl) (ints_at' (by first | (simp only [List.length_set]; omega) | omega))) (And.intro rfl rfl))
     refine ⟨fun a w vs148 hA hS hd => ?_, ?_⟩
     ·skip
      exact opG_of rfl (vv (op_load1 rfl ty_3 (hA.ev rfl) (hS.bk 10 rfl) rfl) (And.intro rfl rfl))
     trivial
    intro a149 w150 vs148 rsf154 hA151 hH153 hS152; clear hA147 hS146
    obtain ⟨hs_0, hy_0⟩ := hH153 0 (by decide)
    obtain ⟨hv_0, hr_0⟩ := hy_0
    obtain ⟨hs_1, hy_1⟩ := hH153 1 (by decide)
    obtain ⟨hv_1, hr_1⟩ := hy_1
    obtain ⟨hs_2, hy_2⟩ := hH153 2 (by decide)
    obtain ⟨hv_2, hr_2⟩ := hy_2
    obtain ⟨hs_3, hy_3⟩ := hH153 3 (by decide)
    obtain ⟨hv_3, hr_3⟩ := hy_3
    have hS155 : Sep NoB w w150 [(obR l130 (.loop (rc132 .busy none))), (marksR (D131 :: [])), G133, (blk b138 104 (ints ((allowedF R rs).getD q []))), (blk bx122 97 [(bptr bj32 0)]), (blk b105 4 [(Value.bool ((lifeU (allowedF R rs) band.toNat s q).2))]), (blk b100 42 [(Value.int .i64 ((lifeU (allowedF R rs) band.toNat s q).1.1)), (Value.int .i64 ((lifeU (allowedF R rs) band.toNat s q).1.2))]), (blk b89 42 [(Value.int .i64 (-1)), (Value.int .i64 (-1))]), (blk bj32 119 [vr, vu, (Value.map (some bm33))]), (blk b19 42 [(Value.int .i64 0), (Value.int .i64 0)]), (blk b14 3 [(Value.int .i64 s)]), (blk b9 3 [(Value.int .i64 band)]), (blk b4 33 [vr]), (sl vr 2 R.length (pairs R)), (sl vu 3 rs.length (vtrips (runV lv rs))), (segsR false lv rs)] := by rw [show catR rsf154 0 4 = ([] : List Res) by (try simp only [catR, hr_0, hr_1, hr_2, hr_3]); (try rfl)] at hS152; exact hS152
    rw [hv_2] at hs_2
    have hA156 : Fr 63 [] [(49, (Value.int .i64 (((allowedF R rs).getD q []).getD band.toNat 0))), (15, (bptr b138 0)), (14, (bptr b105 0)), (13, (bptr b100 0)), (12, (bptr b89 0)), (7, (bptr b14 0)), (6, (bptr b9 0))] a149 := hA151.add (slot_ev hs_2 rfl); clear hA151
    rw [hv_3] at hs_3
    have hA157 : Fr 63 [] [(50, (Value.int .i64 s)), (49, (Value.int .i64 (((allowedF R rs).getD q []).getD band.toNat 0))), (15, (bptr b138 0)), (14, (bptr b105 0)), (13, (bptr b100 0)), (12, (bptr b89 0)), (7, (bptr b14 0)), (6, (bptr b9 0))] a149 := hA156.add (slot_ev hs_3 rfl); clear hA156
    clear hH153 hS152 hs_0 hs_1 hs_2 hs_3
    clear hr_0
    clear hv_0
    clear hr_1
    clear hv_1
    clear hr_2
    clear hv_2
    clear hr_3
    clear hv_3
    refine stw hA157 (op_call rfl en_57 (ev2 (hA157.ev rfl) (hA157.ev rfl)) (hours_ok _ _ _ (by omega) (by omega))) rfl rfl (by decide) ?_
    rintro a158 _ w160 ⟨rfl, hE161⟩ hA159; have hS162 := hS155.step hE161; clear hE161 hA157 hS155 a149
    refine st hA159 (op_assign rfl (hA159.ev rfl)) rfl rfl (by decide) fun a163 hA164 => ?_; clear hA159 a158
    refine wl_nil ?_
    refine then_n ?_
    refine c_seq ?_
    refine c_seq ?_
    have hA165 := hA164.as [(16, (Value.int .i64 (hoursF (((allowedF R rs).getD q []).getD band.toNat 0) s))), (14, (bptr b105 0)), (13, (bptr b100 0)), (12, (bptr b89 0))] rfl; clear hA164
    refine c_region ?_
    refine st hA165 (op_move rfl (hA165.ev rfl)) rfl rfl (by decide) fun a166 hA167 => ?_; clear hA165 a163
    refine st hA167 (op_eql rfl (hA167.ev rfl) (evc _ _)) rfl rfl (by decide) fun a168 hA169 => ?_; clear hA167 a166
    refine wl_nil ?_
    refine then_n ?_
    by_cases hb170 : (hoursF (((allowedF R rs).getD q []).getD band.toNat 0) s) = (-1)
    ·skip
     rw [decide_eq_true hb170] at hA169
     refine c_true hA169 rfl ?_
     refine c_seq ?_
     refine c_region ?_
     refine sts hA169 (op_store hS162 rfl ty_4 (hA169.ev rfl) (evc _ _) (i := 5) rfl (vs := [(Value.bool true)]) rfl rfl rfl (Nat.le_of_ble_eq_true rfl)) rfl rfl ?_
     intro _ w171 hS172 hA173; clear hA169
     have hS174 : Sep NoB w w171 [(obR l130 (.loop (rc132 .busy none))), (marksR (D131 :: [])), G133, (blk b138 104 (ints ((allowedF R rs).getD q []))), (blk bx122 97 [(bptr bj32 0)]), (blk b105 4 [(Value.bool true)]), (blk b100 42 [(Value.int .i64 ((lifeU (allowedF R rs) band.toNat s q).1.1)), (Value.int .i64 ((lifeU (allowedF R rs) band.toNat s q).1.2))]), (blk b89 42 [(Value.int .i64 (-1)), (Value.int .i64 (-1))]), (blk bj32 119 [vr, vu, (Value.map (some bm33))]), (blk b19 42 [(Value.int .i64 0), (Value.int .i64 0)]), (blk b14 3 [(Value.int .i64 s)]), (blk b9 3 [(Value.int .i64 band)]), (blk b4 33 [vr]), (sl vr 2 R.length (pairs R)), (sl vu 3 rs.length (vtrips (runV lv rs))), (segsR false lv rs)] := hS172; clear hS172 hS162
     refine wl_nil ?_
     refine then_n ?_
     refine c_exit ?_
     refine then_exit ?_
     refine blk_hit ?_
     have hS175 : Sep NoB w w171 [(obR l130 (.loop (rc132 .busy none))), (marksR (D131 :: [])), G133, (blk bx122 97 [(bptr bj32 0)]), (blk b105 4 [(Value.bool true)]), (blk b100 42 [(Value.int .i64 ((lifeU (allowedF R rs) band.toNat s q).1.1)), (Value.int .i64 ((lifeU (allowedF R rs) band.toNat s q).1.2))]), (blk b89 42 [(Value.int .i64 (-1)), (Value.int .i64 (-1))]), (blk bj32 119 [vr, vu, (Value.map (some bm33))]), (blk b19 42 [(Value.int .i64 0), (Value.int .i64 0)]), (blk b14 3 [(Value.int .i64 s)]), (blk b9 3 [(Value.int .i64 band)]), (blk b4 33 [vr]), (sl vr 2 R.length (pairs R)), (sl vu 3 rs.length (vtrips (runV lv rs))), (segsR false lv rs)] := hS174.keep [0, 1, 2, 4, 5, 6, 7, 8, 9, 10, 11, 12, 13, 14, 15] (by decide) _ rfl rfl; clear hS174
     exact re_n ⟨_, rfl, rfl⟩ ((hS175.blk_say (i := 5) rfl (cs' := [.int .i64 (lifeU (allowedF R rs) band.toNat s (q + 1)).1.1, .int .i64 (lifeU (allowedF R rs) band.toNat s (q + 1)).1.2]) (by first | (rw [lifeU_y (by assumption)]; done) | (rw [lifeU_n (by assumption)]; done) | (rw [lifeU_n (by assumption)]; rfl))).blk_say (i := 4) rfl (cs' := [Value.bool (lifeU (allowedF R rs) band.toNat s (q + 1)).2]) (by first | (rw [lifeU_y (by assumption)]; done) | (rw [lifeU_n (by assumption)]; done) | (rw [lifeU_n (by assumption)]; rfl)))
    ·skip
     rw [decide_eq_false hb170] at hA169
     refine c_false hA169 rfl ?_
     refine c_skip ?_
     refine then_n ?_
     have hA176 := hA169.as [(16, (Value.int .i64 (hoursF (((allowedF R rs).getD q []).getD band.toNat 0) s))), (13, (bptr b100 0)), (12, (bptr b89 0))] rfl; clear hA169
     refine c_drawV mixed hA176 hS162 5 [[], [], [], [], [2, 3]] [(fun (vs177 : Nat → Value) (v_ : Value) (rs_ : List Res) => v_ = (Value.agg #[(Value.int .i64 ((lifeU (allowedF R rs) band.toNat s q).1.1)), (Value.int .i64 ((lifeU (allowedF R rs) band.toNat s q).1.2))]) ∧ rs_ = []), (fun (vs177 : Nat → Value) (v_ : Value) (rs_ : List Res) => v_ = (Value.int .i64 (hoursF (((allowedF R rs).getD q []).getD band.toNat 0) s)) ∧ rs_ = []), (fun (vs177 : Nat → Value) (v_ : Value) (rs_ : List Res) => v_ = (Value.agg #[(Value.int .i64 ((lifeU (allowedF R rs) band.toNat s q).1.1)), (Value.int .i64 ((lifeU (allowedF R rs) band.toNat s q).1.2))]) ∧ rs_ = []), (fun (vs177 : Nat → Value) (v_ : Value) (rs_ : List Res) => v_ = (Value.agg #[(Value.int .i64 (-1)), (Value.int .i64 (-1))]) ∧ rs_ = []), (fun (vs177 : Nat → Value) (v_ : Value) (rs_ : List Res) => v_ = (Value.bool (decide ((((lifeU (allowedF R rs) band.toNat s q).1.1) : Int) = (-1)) && decide ((((lifeU (allowedF R rs) band.toNat s q).1.2) : Int) = (-1)))) ∧ rs_ = [])] (by decide +kernel) (by decide +kernel) rfl rfl ⟨(fun _ _ _ _ _ h_ => h_), (fun _ _ _ _ _ h_ => h_), (fun _ _ _ _ _ h_ => h_), (fun _ _ _ _ _ h_ => h_), (fun _ _ _ _ _ h_ => h_), trivial⟩ ?_ ?_
     ·skip
      refine ⟨fun a w vs177 hA hS hd => ?_, ?_⟩
      ·skip
       exact opG_of rfl (vv (op_loadA rfl ty_42 (hA.ev rfl) (hS.bk 6 rfl) (l := [(Value.int .i64 ((lifeU (allowedF R rs) band.toNat s q).1.1)), (Value.int .i64 ((lifeU (allowedF R rs) band.toNat s q).1.2))]) rfl rfl) (And.intro rfl rfl))
      refine ⟨fun a w vs177 hA hS hd => ?_, ?_⟩
      ·skip
       exact opG_of rfl (vv (op_move rfl (hA.ev rfl)) (And.intro rfl rfl))
      refine ⟨fun a w vs177 hA hS hd => ?_, ?_⟩
      ·skip
       exact opG_of rfl (vv (op_loadA rfl ty_42 (hA.ev rfl) (hS.bk 6 rfl) (l := [(Value.int .i64 ((lifeU (allowedF R rs) band.toNat s q).1.1)), (Value.int .i64 ((lifeU (allowedF R rs) band.toNat s q).1.2))]) rfl rfl) (And.intro rfl rfl))
      refine ⟨fun a w vs177 hA hS hd => ?_, ?_⟩
      ·skip
       exact opG_of rfl (vv (op_loadA rfl ty_42 (hA.ev rfl) (hS.bk 7 rfl) (l := [(Value.int .i64 (-1)), (Value.int .i64 (-1))]) rfl rfl) (And.intro rfl rfl))
      refine ⟨fun a w vs177 hA hS hd => ?_, ?_⟩
      ·skip
       obtain ⟨e2, rs2, hy2, hp2⟩ := hd 2 (by decide)
       obtain ⟨hv2, hr2⟩ := hy2; subst hr2
       rw [hv2] at e2
       obtain ⟨e3, rs3, hy3, hp3⟩ := hd 3 (by decide)
       obtain ⟨hv3, hr3⟩ := hy3; subst hr3
       rw [hv3] at e3
       exact opG_of rfl (vv (op_eqlP tw_42 rfl (tmp_ev (slot_ev e2 rfl)) (tmp_ev (slot_ev e3 rfl))) (And.intro rfl rfl))
      trivial
     intro a178 w179 vs177 rsf183 hA180 hH182 hS181; clear hA176 hS162
     obtain ⟨hs_0, hy_0⟩ := hH182 0 (by decide)
     obtain ⟨hv_0, hr_0⟩ := hy_0
     obtain ⟨hs_1, hy_1⟩ := hH182 1 (by decide)
     obtain ⟨hv_1, hr_1⟩ := hy_1
     obtain ⟨hs_2, hy_2⟩ := hH182 2 (by decide)
     obtain ⟨hv_2, hr_2⟩ := hy_2
     obtain ⟨hs_3, hy_3⟩ := hH182 3 (by decide)
     obtain ⟨hv_3, hr_3⟩ := hy_3
     obtain ⟨hs_4, hy_4⟩ := hH182 4 (by decide)
     obtain ⟨hv_4, hr_4⟩ := hy_4
     have hS184 : Sep NoB w w179 [(obR l130 (.loop (rc132 .busy none))), (marksR (D131 :: [])), G133, (blk b138 104 (ints ((allowedF R rs).getD q []))), (blk bx122 97 [(bptr bj32 0)]), (blk b105 4 [(Value.bool ((lifeU (allowedF R rs) band.toNat s q).2))]), (blk b100 42 [(Value.int .i64 ((lifeU (allowedF R rs) band.toNat s q).1.1)), (Value.int .i64 ((lifeU (allowedF R rs) band.toNat s q).1.2))]), (blk b89 42 [(Value.int .i64 (-1)), (Value.int .i64 (-1))]), (blk bj32 119 [vr, vu, (Value.map (some bm33))]), (blk b19 42 [(Value.int .i64 0), (Value.int .i64 0)]), (blk b14 3 [(Value.int .i64 s)]), (blk b9 3 [(Value.int .i64 band)]), (blk b4 33 [vr]), (sl vr 2 R.length (pairs R)), (sl vu 3 rs.length (vtrips (runV lv rs))), (segsR false lv rs)] := by rw [show catR rsf183 0 5 = ([] : List Res) by (try simp only [catR, hr_0, hr_1, hr_2, hr_3, hr_4]); (try rfl)] at hS181; exact hS181
     rw [hv_0] at hs_0
     have hA185 : Fr 63 [] [(54, (Value.agg #[(Value.int .i64 ((lifeU (allowedF R rs) band.toNat s q).1.1)), (Value.int .i64 ((lifeU (allowedF R rs) band.toNat s q).1.2))])), (16, (Value.int .i64 (hoursF (((allowedF R rs).getD q []).getD band.toNat 0) s))), (13, (bptr b100 0)), (12, (bptr b89 0))] a178 := hA180.add (slot_ev hs_0 rfl); clear hA180
     rw [hv_1] at hs_1
     have hA186 : Fr 63 [] [(55, (Value.int .i64 (hoursF (((allowedF R rs).getD q []).getD band.toNat 0) s))), (54, (Value.agg #[(Value.int .i64 ((lifeU (allowedF R rs) band.toNat s q).1.1)), (Value.int .i64 ((lifeU (allowedF R rs) band.toNat s q).1.2))])), (16, (Value.int .i64 (hoursF (((allowedF R rs).getD q []).getD band.toNat 0) s))), (13, (bptr b100 0)), (12, (bptr b89 0))] a178 := hA185.add (slot_ev hs_1 rfl); clear hA185
     rw [hv_4] at hs_4
     have hA187 : Fr 63 [] [(58, (Value.bool (decide ((((lifeU (allowedF R rs) band.toNat s q).1.1) : Int) = (-1)) && decide ((((lifeU (allowedF R rs) band.toNat s q).1.2) : Int) = (-1))))), (55, (Value.int .i64 (hoursF (((allowedF R rs).getD q []).getD band.toNat 0) s))), (54, (Value.agg #[(Value.int .i64 ((lifeU (allowedF R rs) band.toNat s q).1.1)), (Value.int .i64 ((lifeU (allowedF R rs) band.toNat s q).1.2))])), (16, (Value.int .i64 (hoursF (((allowedF R rs).getD q []).getD band.toNat 0) s))), (13, (bptr b100 0)), (12, (bptr b89 0))] a178 := hA186.add (slot_ev hs_4 rfl); clear hA186
     clear hH182 hS181 hs_0 hs_1 hs_2 hs_3 hs_4
     clear hr_0
     clear hv_0
     clear hr_1
     clear hv_1
     clear hr_2
     clear hv_2
     clear hr_3
     clear hv_3
     clear hr_4
     clear hv_4
     refine stw hA187 (op_call rfl en_55 (ev3 (hA187.ev rfl) (hA187.ev rfl) (hA187.ev rfl)) (with_ok _ _ _ (decide ((((lifeU (allowedF R rs) band.toNat s q).1.1) : Int) = (-1)) && decide ((((lifeU (allowedF R rs) band.toNat s q).1.2) : Int) = (-1))) _)) rfl rfl (by decide) ?_
     rintro a188 _ w190 ⟨rfl, hE191⟩ hA189; have hS192 := hS184.step hE191; clear hE191 hA187 hS184 a178
     refine sts hA189 (op_store hS192 rfl ty_42 (hA189.ev rfl) (hA189.ev rfl) (i := 6) rfl (vs := [(Value.int .i64 (if (decide ((((lifeU (allowedF R rs) band.toNat s q).1.1) : Int) = (-1)) && decide ((((lifeU (allowedF R rs) band.toNat s q).1.2) : Int) = (-1))) = true then hoursF (((allowedF R rs).getD q []).getD band.toNat 0) s else min ((lifeU (allowedF R rs) band.toNat s q).1.1) (hoursF (((allowedF R rs).getD q []).getD band.toNat 0) s))), (Value.int .i64 (if (decide ((((lifeU (allowedF R rs) band.toNat s q).1.1) : Int) = (-1)) && decide ((((lifeU (allowedF R rs) band.toNat s q).1.2) : Int) = (-1))) = true then hoursF (((allowedF R rs).getD q []).getD band.toNat 0) s else max ((lifeU (allowedF R rs) band.toNat s q).1.2) (hoursF (((allowedF R rs).getD q []).getD band.toNat 0) s)))]) rfl rfl rfl (Nat.le_of_ble_eq_true rfl)) rfl rfl ?_
     intro _ w193 hS194 hA195; clear hA189
     have hS196 : Sep NoB w w193 [(obR l130 (.loop (rc132 .busy none))), (marksR (D131 :: [])), G133, (blk b138 104 (ints ((allowedF R rs).getD q []))), (blk bx122 97 [(bptr bj32 0)]), (blk b105 4 [(Value.bool ((lifeU (allowedF R rs) band.toNat s q).2))]), (blk b100 42 [(Value.int .i64 (if (decide ((((lifeU (allowedF R rs) band.toNat s q).1.1) : Int) = (-1)) && decide ((((lifeU (allowedF R rs) band.toNat s q).1.2) : Int) = (-1))) = true then hoursF (((allowedF R rs).getD q []).getD band.toNat 0) s else min ((lifeU (allowedF R rs) band.toNat s q).1.1) (hoursF (((allowedF R rs).getD q []).getD band.toNat 0) s))), (Value.int .i64 (if (decide ((((lifeU (allowedF R rs) band.toNat s q).1.1) : Int) = (-1)) && decide ((((lifeU (allowedF R rs) band.toNat s q).1.2) : Int) = (-1))) = true then hoursF (((allowedF R rs).getD q []).getD band.toNat 0) s else max ((lifeU (allowedF R rs) band.toNat s q).1.2) (hoursF (((allowedF R rs).getD q []).getD band.toNat 0) s)))]), (blk b89 42 [(Value.int .i64 (-1)), (Value.int .i64 (-1))]), (blk bj32 119 [vr, vu, (Value.map (some bm33))]), (blk b19 42 [(Value.int .i64 0), (Value.int .i64 0)]), (blk b14 3 [(Value.int .i64 s)]), (blk b9 3 [(Value.int .i64 band)]), (blk b4 33 [vr]), (sl vr 2 R.length (pairs R)), (sl vu 3 rs.length (vtrips (runV lv rs))), (segsR false lv rs)] := hS194; clear hS194 hS192
     refine wl_nil ?_
     refine blk_n ?_
     have hS197 : Sep NoB w w193 [(obR l130 (.loop (rc132 .busy none))), (marksR (D131 :: [])), G133, (blk bx122 97 [(bptr bj32 0)]), (blk b105 4 [(Value.bool ((lifeU (allowedF R rs) band.toNat s q).2))]), (blk b100 42 [(Value.int .i64 (if (decide ((((lifeU (allowedF R rs) band.toNat s q).1.1) : Int) = (-1)) && decide ((((lifeU (allowedF R rs) band.toNat s q).1.2) : Int) = (-1))) = true then hoursF (((allowedF R rs).getD q []).getD band.toNat 0) s else min ((lifeU (allowedF R rs) band.toNat s q).1.1) (hoursF (((allowedF R rs).getD q []).getD band.toNat 0) s))), (Value.int .i64 (if (decide ((((lifeU (allowedF R rs) band.toNat s q).1.1) : Int) = (-1)) && decide ((((lifeU (allowedF R rs) band.toNat s q).1.2) : Int) = (-1))) = true then hoursF (((allowedF R rs).getD q []).getD band.toNat 0) s else max ((lifeU (allowedF R rs) band.toNat s q).1.2) (hoursF (((allowedF R rs).getD q []).getD band.toNat 0) s)))]), (blk b89 42 [(Value.int .i64 (-1)), (Value.int .i64 (-1))]), (blk bj32 119 [vr, vu, (Value.map (some bm33))]), (blk b19 42 [(Value.int .i64 0), (Value.int .i64 0)]), (blk b14 3 [(Value.int .i64 s)]), (blk b9 3 [(Value.int .i64 band)]), (blk b4 33 [vr]), (sl vr 2 R.length (pairs R)), (sl vu 3 rs.length (vtrips (runV lv rs))), (segsR false lv rs)] := hS196.keep [0, 1, 2, 4, 5, 6, 7, 8, 9, 10, 11, 12, 13, 14, 15] (by decide) _ rfl rfl; clear hS196
     exact re_n ⟨_, rfl, rfl⟩ ((hS197.blk_say (i := 5) rfl (cs' := [.int .i64 (lifeU (allowedF R rs) band.toNat s (q + 1)).1.1, .int .i64 (lifeU (allowedF R rs) band.toNat s (q + 1)).1.2]) (by first | (rw [lifeU_y (by assumption)]; done) | (rw [lifeU_n (by assumption)]; done) | (rw [lifeU_n (by assumption)]; rfl))).blk_say (i := 4) rfl (cs' := [Value.bool (lifeU (allowedF R rs) band.toNat s (q + 1)).2]) (by first | (rw [lifeU_y (by assumption)]; done) | (rw [lifeU_n (by assumption)]; done) | (rw [lifeU_n (by assumption)]; rfl)))
   intro L_ hL_ D202 a198 w199 hA201 hS200; obtain ⟨rfl⟩ := hL_; clear hA123 hS124
   refine blk_n ?_
   refine then_n ?_
   refine c_seq ?_
   refine c_seq ?_
   refine c_region ?_
   refine st hA201 (op_load1 rfl ty_4 (hA201.ev rfl) (hS200.bk 3 rfl) rfl) rfl rfl (by decide) fun a203 hA204 => ?_; clear hA201 a198
   refine wl_nil ?_
   refine then_n ?_
   rcases Bool.eq_false_or_eq_true ((lifeU (allowedF R rs) band.toNat s (allowedF R rs).length).2) with hb205 | hb205
   ·skip
    rw [hb205] at hA204
    refine c_true hA204 rfl ?_
    have hA206 := hA204.as [(13, (bptr b100 0)), (8, (bptr b19 0))] rfl; clear hA204
    refine c_region ?_
    refine st hA206 (op_field rfl fd_42_1 (hA206.ev rfl)) rfl rfl (by decide) fun a207 hA208 => ?_; clear hA206 a203
    refine sts hA208 (op_store hS200 rfl ty_3 (hA208.ev rfl) (evc _ _) (i := 4) rfl (vs := [(Value.int .i64 (-1))]) rfl rfl rfl (Nat.le_of_ble_eq_true rfl)) rfl rfl ?_
    intro _ w209 hS210 hA211; clear hA208
    have hS212 : Sep NoB w w209 [(marksR (D202 :: [])), (memo bm33 (KA rs)), (blk bx122 97 [(bptr bj32 0)]), (blk b105 4 [(Value.bool ((lifeU (allowedF R rs) band.toNat s (allowedF R rs).length).2))]), (blk b100 42 [(Value.int .i64 ((lifeU (allowedF R rs) band.toNat s (allowedF R rs).length).1.1)), (Value.int .i64 (-1))]), (blk b89 42 [(Value.int .i64 (-1)), (Value.int .i64 (-1))]), (blk bj32 119 [vr, vu, (Value.map (some bm33))]), (blk b19 42 [(Value.int .i64 0), (Value.int .i64 0)]), (blk b14 3 [(Value.int .i64 s)]), (blk b9 3 [(Value.int .i64 band)]), (blk b4 33 [vr]), (sl vr 2 R.length (pairs R)), (sl vu 3 rs.length (vtrips (runV lv rs))), (segsR false lv rs)] := hS210; clear hS210 hS200
    refine wl_nil ?_
    refine then_n ?_
    refine c_seq ?_
    refine c_region ?_
    refine st hA211 (op_loadA rfl ty_42 (hA211.ev rfl) (hS212.bk 4 rfl) (l := [(Value.int .i64 ((lifeU (allowedF R rs) band.toNat s (allowedF R rs).length).1.1)), (Value.int .i64 (-1))]) rfl rfl) rfl rfl (by decide) fun a213 hA214 => ?_; clear hA211 a207
    refine sts hA214 (op_store hS212 rfl ty_42 (hA214.ev rfl) (hA214.ev rfl) (i := 7) rfl (vs := [(Value.int .i64 ((lifeU (allowedF R rs) band.toNat s (allowedF R rs).length).1.1)), (Value.int .i64 (-1))]) rfl rfl rfl (Nat.le_of_ble_eq_true rfl)) rfl rfl ?_
    intro _ w215 hS216 hA217; clear hA214
    have hS218 : Sep NoB w w215 [(marksR (D202 :: [])), (memo bm33 (KA rs)), (blk bx122 97 [(bptr bj32 0)]), (blk b105 4 [(Value.bool ((lifeU (allowedF R rs) band.toNat s (allowedF R rs).length).2))]), (blk b100 42 [(Value.int .i64 ((lifeU (allowedF R rs) band.toNat s (allowedF R rs).length).1.1)), (Value.int .i64 (-1))]), (blk b89 42 [(Value.int .i64 (-1)), (Value.int .i64 (-1))]), (blk bj32 119 [vr, vu, (Value.map (some bm33))]), (blk b19 42 [(Value.int .i64 ((lifeU (allowedF R rs) band.toNat s (allowedF R rs).length).1.1)), (Value.int .i64 (-1))]), (blk b14 3 [(Value.int .i64 s)]), (blk b9 3 [(Value.int .i64 band)]), (blk b4 33 [vr]), (sl vr 2 R.length (pairs R)), (sl vu 3 rs.length (vtrips (runV lv rs))), (segsR false lv rs)] := hS216; clear hS216 hS212
    refine st hA217 (op_assign rfl (evc _ _)) rfl rfl (by decide) fun a219 hA220 => ?_; clear hA217 a213
    refine wl_nil ?_
    refine then_n ?_
    refine c_ret ?_
    refine fin_runM hA220 (.inl rfl) hS218 ?_
    intro w221 hS222; clear hS218
    refine ⟨_, (run_results2 hA220 rfl (.cellA rfl ty_42 (hS222.bk 6 rfl) (l := [(Value.int .i64 ((lifeU (allowedF R rs) band.toNat s (allowedF R rs).length).1.1)), (Value.int .i64 (-1))]) rfl rfl) (.tmp rfl)), ?_⟩
    exact .inr ⟨life_0 he (by omega), by unfold lifeR; first | rw [if_pos (by assumption)] | rw [if_neg (by simp [*])], hS222.ext⟩
   ·skip
    rw [hb205] at hA204
    refine c_false hA204 rfl ?_
    refine c_skip ?_
    refine then_n ?_
    refine c_seq ?_
    have hA223 := hA204.as [(13, (bptr b100 0)), (8, (bptr b19 0))] rfl; clear hA204
    refine c_region ?_
    refine st hA223 (op_loadA rfl ty_42 (hA223.ev rfl) (hS200.bk 4 rfl) (l := [(Value.int .i64 ((lifeU (allowedF R rs) band.toNat s (allowedF R rs).length).1.1)), (Value.int .i64 ((lifeU (allowedF R rs) band.toNat s (allowedF R rs).length).1.2))]) rfl rfl) rfl rfl (by decide) fun a224 hA225 => ?_; clear hA223 a203
    refine sts hA225 (op_store hS200 rfl ty_42 (hA225.ev rfl) (hA225.ev rfl) (i := 7) rfl (vs := [(Value.int .i64 ((lifeU (allowedF R rs) band.toNat s (allowedF R rs).length).1.1)), (Value.int .i64 ((lifeU (allowedF R rs) band.toNat s (allowedF R rs).length).1.2))]) rfl rfl rfl (Nat.le_of_ble_eq_true rfl)) rfl rfl ?_
    intro _ w226 hS227 hA228; clear hA225
    have hS229 : Sep NoB w w226 [(marksR (D202 :: [])), (memo bm33 (KA rs)), (blk bx122 97 [(bptr bj32 0)]), (blk b105 4 [(Value.bool ((lifeU (allowedF R rs) band.toNat s (allowedF R rs).length).2))]), (blk b100 42 [(Value.int .i64 ((lifeU (allowedF R rs) band.toNat s (allowedF R rs).length).1.1)), (Value.int .i64 ((lifeU (allowedF R rs) band.toNat s (allowedF R rs).length).1.2))]), (blk b89 42 [(Value.int .i64 (-1)), (Value.int .i64 (-1))]), (blk bj32 119 [vr, vu, (Value.map (some bm33))]), (blk b19 42 [(Value.int .i64 ((lifeU (allowedF R rs) band.toNat s (allowedF R rs).length).1.1)), (Value.int .i64 ((lifeU (allowedF R rs) band.toNat s (allowedF R rs).length).1.2))]), (blk b14 3 [(Value.int .i64 s)]), (blk b9 3 [(Value.int .i64 band)]), (blk b4 33 [vr]), (sl vr 2 R.length (pairs R)), (sl vu 3 rs.length (vtrips (runV lv rs))), (segsR false lv rs)] := hS227; clear hS227 hS200
    refine st hA228 (op_assign rfl (evc _ _)) rfl rfl (by decide) fun a230 hA231 => ?_; clear hA228 a224
    refine wl_nil ?_
    refine then_n ?_
    refine c_ret ?_
    refine fin_runM hA231 (.inl rfl) hS229 ?_
    intro w232 hS233; clear hS229
    refine ⟨_, (run_results2 hA231 rfl (.cellA rfl ty_42 (hS233.bk 6 rfl) (l := [(Value.int .i64 ((lifeU (allowedF R rs) band.toNat s (allowedF R rs).length).1.1)), (Value.int .i64 ((lifeU (allowedF R rs) band.toNat s (allowedF R rs).length).1.2))]) rfl rfl) (.tmp rfl)), ?_⟩
    exact .inr ⟨life_0 he (by omega), by unfold lifeR; first | rw [if_pos (by assumption)] | rw [if_neg (by simp [*])], hS233.ext⟩
  ·skip
   rw [hb81] at hA80
   have hq234 := hb81; simp only [Bool.and_eq_true, Bool.and_eq_false_iff, decide_eq_true_eq, decide_eq_false_iff_not] at hq234
   refine c_true hA80 rfl ?_
   refine c_seq ?_
   have hA235 := hA80.as [(8, (bptr b19 0))] rfl; clear hA80
   refine c_region ?_
   refine st hA235 (op_build rfl pv0 bd_42_) rfl rfl (by decide) fun a236 hA237 => ?_; clear hA235 a79
   refine sts hA237 (op_store hS31 rfl ty_42 (hA237.ev rfl) (hA237.ev rfl) (i := 2) rfl (vs := [(Value.int .i64 0), (Value.int .i64 0)]) rfl rfl rfl (Nat.le_of_ble_eq_true rfl)) rfl rfl ?_
   intro _ w238 hS239 hA240; clear hA237
   have hS241 : Sep NoB w w238 [(blk bj32 119 [vr, vu, (Value.map (some bm33))]), (memo bm33 (KA rs)), (blk b19 42 [(Value.int .i64 0), (Value.int .i64 0)]), (blk b14 3 [(Value.int .i64 s)]), (blk b9 3 [(Value.int .i64 band)]), (blk b4 33 [vr]), (marksR []), (sl vr 2 R.length (pairs R)), (sl vu 3 rs.length (vtrips (runV lv rs))), (segsR false lv rs)] := hS239; clear hS239 hS31
   refine st hA240 (op_assign rfl (evc _ _)) rfl rfl (by decide) fun a242 hA243 => ?_; clear hA240 a236
   refine wl_nil ?_
   refine then_n ?_
   refine c_ret ?_
   refine blk_ret ?_
   refine then_ret ?_
   have hS244 : Sep NoB w w238 [(marksR []), (blk bj32 119 [vr, vu, (Value.map (some bm33))]), (memo bm33 (KA rs)), (blk b19 42 [(Value.int .i64 0), (Value.int .i64 0)]), (blk b14 3 [(Value.int .i64 s)]), (blk b9 3 [(Value.int .i64 band)]), (blk b4 33 [vr]), (sl vr 2 R.length (pairs R)), (sl vu 3 rs.length (vtrips (runV lv rs))), (segsR false lv rs)] := hS241.keep [6, 0, 1, 2, 3, 4, 5, 7, 8, 9] (by decide) _ rfl rfl; clear hS241
   refine fin_runM hA243 (.inl rfl) hS244 ?_
   intro w245 hS246; clear hS244
   refine ⟨_, (run_results2 hA243 rfl (.cellA rfl ty_42 (hS246.bk 2 rfl) (l := [(Value.int .i64 0), (Value.int .i64 0)]) rfl rfl) (.tmp rfl)), ?_⟩
   exact .inl ⟨life_2 he (by omega), rfl, hS246.ext⟩
 ·skip
  rw [hb68] at hA67
  have hq247 := hb68; simp only [Bool.and_eq_true, Bool.and_eq_false_iff, decide_eq_true_eq, decide_eq_false_iff_not] at hq247
  refine skp hA67 rfl rfl rfl rfl rfl (by decide) fun a248 hA249 => ?_; clear hA67 a66
  refine skp hA249 rfl rfl rfl rfl rfl (by decide) fun a250 hA251 => ?_; clear hA249 a248
  refine skp hA251 rfl rfl rfl rfl rfl (by decide) fun a252 hA253 => ?_; clear hA251 a250
  refine st hA253 (op_pick_t rfl (hA253.ev rfl) (evc _ _)) rfl rfl (by decide) fun a254 hA255 => ?_; clear hA253 a252
  refine st hA255 (op_assign rfl (hA255.ev rfl)) rfl rfl (by decide) fun a256 hA257 => ?_; clear hA255 a254
  refine wl_nil ?_
  refine then_n ?_
  refine c_true hA257 rfl ?_
  refine c_seq ?_
  have hA258 := hA257.as [(8, (bptr b19 0))] rfl; clear hA257
  refine c_region ?_
  refine st hA258 (op_build rfl pv0 bd_42_) rfl rfl (by decide) fun a259 hA260 => ?_; clear hA258 a256
  refine sts hA260 (op_store hS31 rfl ty_42 (hA260.ev rfl) (hA260.ev rfl) (i := 2) rfl (vs := [(Value.int .i64 0), (Value.int .i64 0)]) rfl rfl rfl (Nat.le_of_ble_eq_true rfl)) rfl rfl ?_
  intro _ w261 hS262 hA263; clear hA260
  have hS264 : Sep NoB w w261 [(blk bj32 119 [vr, vu, (Value.map (some bm33))]), (memo bm33 (KA rs)), (blk b19 42 [(Value.int .i64 0), (Value.int .i64 0)]), (blk b14 3 [(Value.int .i64 s)]), (blk b9 3 [(Value.int .i64 band)]), (blk b4 33 [vr]), (marksR []), (sl vr 2 R.length (pairs R)), (sl vu 3 rs.length (vtrips (runV lv rs))), (segsR false lv rs)] := hS262; clear hS262 hS31
  refine st hA263 (op_assign rfl (evc _ _)) rfl rfl (by decide) fun a265 hA266 => ?_; clear hA263 a259
  refine wl_nil ?_
  refine then_n ?_
  refine c_ret ?_
  refine blk_ret ?_
  refine then_ret ?_
  have hS267 : Sep NoB w w261 [(marksR []), (blk bj32 119 [vr, vu, (Value.map (some bm33))]), (memo bm33 (KA rs)), (blk b19 42 [(Value.int .i64 0), (Value.int .i64 0)]), (blk b14 3 [(Value.int .i64 s)]), (blk b9 3 [(Value.int .i64 band)]), (blk b4 33 [vr]), (sl vr 2 R.length (pairs R)), (sl vu 3 rs.length (vtrips (runV lv rs))), (segsR false lv rs)] := hS264.keep [6, 0, 1, 2, 3, 4, 5, 7, 8, 9] (by decide) _ rfl rfl; clear hS264
  refine fin_runM hA266 (.inl rfl) hS267 ?_
  intro w268 hS269; clear hS267
  refine ⟨_, (run_results2 hA266 rfl (.cellA rfl ty_42 (hS269.bk 2 rfl) (l := [(Value.int .i64 0), (Value.int .i64 0)]) rfl rfl) (.tmp rfl)), ?_⟩
  exact .inl ⟨life_2 he (by omega), rfl, hS269.ext⟩
end Go.Proofs.Ytkkglkdnnfegkaa

namespace Go.Proofs.Ytkkglkdnnfegkaa
open Go.RowKit Go.Eng
theorem all_yes {n : Nat} {p : Nat → Bool} (h : ∀ i, i < n → p i = true) : (List.range n).all p = true := List.all_eq_true.2 fun i hi => h i (List.mem_range.1 hi)
theorem all_no {n k : Nat} {p : Nat → Bool} (hk : k < n) (h : p k = false) : (List.range n).all p = false := by
  rw [List.all_eq_false]
  exact ⟨k, List.mem_range.2 hk, by rw [h]; decide⟩
def thinB (R : List (Int × Int)) (rs : List RunD) (pl : Nat) : Bool :=
  ((List.range (min rs.length 10)).all fun i => decide ((rs.getD i run0).segs.length ≤ 12)) && (decide (R.length ≤ 6) && decide (rs.length ≤ 9) && decide (pl ≤ 12))
structure ThinV (R : List (Int × Int)) (rs : List RunD) (pl : Nat) : Prop where
  mat : R.length ≤ 6
  runs : rs.length ≤ 9
  segs : ∀ i, i < rs.length → (rs.getD i run0).segs.length ≤ 12
  plan : pl ≤ 12
theorem thin_of {R : List (Int × Int)} {rs : List RunD} {pl : Nat} (h : thinB R rs pl = true) : ThinV R rs pl := by
  simp only [thinB, Bool.and_eq_true, decide_eq_true_eq] at h
  exact ⟨by omega, by omega, fun i hi => by simpa using List.all_eq_true.1 h.1 i (List.mem_range.2 (by omega)), by omega⟩
def leastU (R : List (Int × Int)) : Nat → Int
  | 0 => 0
  | k + 1 => max (leastU R k) (R.getD k (0, 0)).1
theorem fromF_pos {R : List (Int × Int)} : ∀ (m : Nat) (arr : List Int) (band : Nat), band + m = R.length → arr.length = 3 → R.length ≤ 3 → (band = 0 ∨ arr.getD (band - 1) 0 = leastU R band) → (∀ i, i < R.length → 0 ≤ (R.getD i (0, 0)).1) → (∀ i, i < R.length → leastU R (i + 1) ≤ (R.getD i (0, 0)).2) → 0 < (fromF R m arr band).length
  | 0, arr, band, _, _, _, _, _, _ => by simp [fromF]
  | m + 1, arr, band, hb, ha, h3, hl, h0, h => by
    have h1 := h band (by omega)
    have e : lowF R arr band = leastU R (band + 1) := by
      have hz := h0 band (by omega)
      unfold lowF leastU
      rcases hl with rfl | hl
      · rw [if_neg (by omega)]; simp only [leastU]; omega
      · by_cases hp : 0 < band
        · rw [if_pos hp, hl]; omega
        · have : band = 0 := by omega
          subst this
          rw [if_neg (by omega)]; simp only [leastU]; omega
    have hc : 0 < cntF R arr band := by unfold cntF; rw [e]; omega
    obtain ⟨rest, hr⟩ := fromF_split (m := m) hc
    have ih := fromF_pos m (arr.set band (lowF R arr band + ((0 : Nat) : Int))) (band + 1) (by omega) (by simpa using ha) h3 (.inr (by
      rw [Nat.add_sub_cancel, ← e]
      simp [List.getD, List.getElem?_set, ha, show band < 3 by omega])) h0 h
    rw [hr]; simp only [List.length_append]; omega
theorem lists_pos {R : List (Int × Int)} (h3 : R.length ≤ 3) (h0 : ∀ i, i < R.length → 0 ≤ (R.getD i (0, 0)).1) (h : ∀ i, i < R.length → leastU R (i + 1) ≤ (R.getD i (0, 0)).2) : 0 < (listsF R).length :=
  fromF_pos R.length [0, 0, 0] 0 (Nat.zero_add _) rfl h3 (.inl rfl) h0 h
theorem fromF_nil {R : List (Int × Int)} {k : Nat} (hk : k < R.length) (hbad : (R.getD k (0, 0)).2 < leastU R (k + 1)) : ∀ (m : Nat) (arr : List Int) (band : Nat), band + m = R.length → arr.length = 3 → R.length ≤ 3 → (0 ≤ (R.getD 0 (0, 0)).1) → band ≤ k → (band = 0 ∨ leastU R band ≤ arr.getD (band - 1) 0) → fromF R m arr band = []
  | 0, arr, band, hb, _, _, _, hbk, _ => by omega
  | m + 1, arr, band, hb, ha, h3, h0, hbk, hl => by
    have e : leastU R (band + 1) ≤ lowF R arr band := by
      unfold lowF leastU
      by_cases hp : 0 < band
      · rw [if_pos hp]
        rcases hl with rfl | hl
        · omega
        · omega
      · have : band = 0 := by omega
        subst this
        rw [if_neg (by omega)]; simp only [leastU]; omega
    by_cases hbe : band = k
    · subst hbe
      have hc : cntF R arr band = 0 := by unfold cntF; omega
      simp [fromF, hc]
    · simp only [fromF, List.flatMap_eq_nil_iff, List.mem_range]
      intro t ht
      refine fromF_nil hk hbad m _ (band + 1) (by omega) (by simpa using ha) h3 h0 (by omega) (.inr ?_)
      rw [Nat.add_sub_cancel]
      have : (arr.set band (lowF R arr band + (t : Int))).getD band 0 = lowF R arr band + (t : Int) := by simp [List.getD, List.getElem?_set, ha, show band < 3 by omega]
      rw [this]; omega
theorem check_yes {R : List (Int × Int)} (h1 : 1 ≤ R.length ∧ R.length ≤ 3) (hr : ∀ i, i < R.length → rateB (R.getD i (0, 0)) = true) (h : ∀ i, i < R.length → leastU R (i + 1) ≤ (R.getD i (0, 0)).2) : checkF R = 0 := by
  have h0 : ∀ i, i < R.length → 0 ≤ (R.getD i (0, 0)).1 := fun i hi => by
    have := hr i hi
    simp only [rateB, uptoB, Bool.and_eq_true, decide_eq_true_eq] at this
    omega
  have hp := lists_pos h1.2 h0 h
  unfold checkF
  rw [if_pos ⟨h1, all_yes hr⟩, if_neg (by omega)]
theorem check_n {R : List (Int × Int)} (h1 : ¬ (1 ≤ R.length ∧ R.length ≤ 3)) : checkF R = 1 := if_neg (fun h => h1 h.1)
theorem check_r {R : List (Int × Int)} {k : Nat} (hk : k < R.length) (h : rateB (R.getD k (0, 0)) = false) : checkF R = 1 :=
  if_neg (fun hh => by have := all_no (p := fun i => rateB (R.getD i (0, 0))) hk h; rw [allRateB, this] at hh; exact absurd hh.2 (by decide))
theorem check_l {R : List (Int × Int)} {k : Nat} (hk : k < R.length) (h : (R.getD k (0, 0)).2 < leastU R (k + 1)) : checkF R = 1 := by
  unfold checkF
  split
  · rename_i hh
    have h0 := List.all_eq_true.1 hh.2 0 (List.mem_range.2 (by omega))
    simp only [rateB, uptoB, Bool.and_eq_true, decide_eq_true_eq] at h0
    rw [if_pos (by rw [listsF, fromF_nil hk h R.length [0, 0, 0] 0 (Nat.zero_add _) rfl hh.1.2 (by omega) (Nat.zero_le _) (.inl rfl)]; rfl)]
  · rfl
def stU (segs : List Seg) (r : List Int) (f : Int × Int → Int) : Nat → Int
  | 0 => 0
  | k + 1 => stU segs r f k + r.getD (segs.getD k (0, 0, 0)).1.toNat 0 * f (segs.getD k (0, 0, 0)).2
theorem sumUpto_pre {l m : List Int} : ∀ {k : Nat}, k ≤ l.length → sumUpto (l ++ m) k = sumUpto l k
  | 0, _ => rfl
  | k + 1, h => by
    simp only [sumUpto]
    rw [sumUpto_pre (by omega)]
    have : (l ++ m).getD k 0 = l.getD k 0 := by simp [List.getD, List.getElem?_append, show k < l.length by omega]
    rw [this]
theorem stU_sum (segs : List Seg) (r : List Int) (f : Int × Int → Int) : ∀ k, stU segs r f k = sumF (prodUpto segs r f k)
  | 0 => rfl
  | k + 1 => by
    unfold sumF
    rw [prodUpto_len, prodUpto_succ]
    simp only [stU, sumUpto]
    have e := prodUpto_len segs r f k
    rw [sumUpto_pre (by omega), stU_sum segs r f k, sumF, e]
    congr 1
    simp [List.getD, e]
theorem stU_lo (segs : List Seg) (r : List Int) : stU segs r Prod.fst segs.length = stLo segs r := stU_sum ..
theorem stU_hi (segs : List Seg) (r : List Int) : stU segs r Prod.snd segs.length = stHi segs r := stU_sum ..
theorem stU_bd {n : Nat} {segs : List Seg} {r : List Int} {f : Int × Int → Int} (hr : ∀ i, 0 ≤ r.getD i 0 ∧ r.getD i 0 ≤ 1000) (hs : ∀ i, i < segs.length → SegV n (segs.getD i (0, 0, 0))) (hf : ∀ p : Int × Int, f p = p.1 ∨ f p = p.2) : ∀ k, k ≤ segs.length → 0 ≤ stU segs r f k ∧ stU segs r f k ≤ 1000000000 * (k : Int)
  | 0, _ => by simp [stU]
  | k + 1, h => by
    have ih := stU_bd hr hs hf k (by omega)
    have hk := (hs k (by omega)).h
    have hm := mul_bd (hr (segs.getD k (0, 0, 0)).1.toNat) (b := f (segs.getD k (0, 0, 0)).2) (by rcases hf (segs.getD k (0, 0, 0)).2 with e | e <;> rw [e] <;> omega)
    simp only [stU]
    omega
theorem sub_of {cs : List Value} {k : Nat} {a b c : Value} (h : (cs.drop k).take 3 = [a, b, c]) : (cs.drop (k + 1)).take 2 = [b, c] := by
  rw [← List.drop_drop]
  have e : ((cs.drop k).drop 1).take 2 = ((cs.drop k).take 3).drop 1 := by rw [List.drop_take]
  rw [e, h]; rfl
theorem trips_sub {xs : List (Int × Int × Int)} {i : Nat} (h : i < xs.length) : ((trips xs).drop (i * 3 + 1)).take 2 = [.int .i64 (xs.getD i (0, 0, 0)).2.1, .int .i64 (xs.getD i (0, 0, 0)).2.2] := sub_of (trips_all h)
theorem runs_sub {lv : List Value} {rs : List RunD} {i : Nat} (hl : lv.length = rs.length) (h : i < rs.length) : ((vtrips (runV lv rs)).drop (i * 3 + 1)).take 2 = [.int .i64 (rs.getD i run0).lo, .int .i64 (rs.getD i run0).hi] := sub_of (runs_all hl h)
theorem runB_yes {n : Nat} {x : RunD} (h1 : 0 ≤ x.lo ∧ x.lo ≤ x.hi ∧ x.hi ≤ 10000000000) (h2 : ∀ i, i < x.segs.length → segB n (x.segs.getD i (0, 0, 0)) = true) : runB n x = true := by
  unfold runB uptoB; rw [all_yes h2, Bool.and_true]; simp only [Bool.and_eq_true, decide_eq_true_eq]; omega
theorem runB_no {n : Nat} {x : RunD} {k : Nat} (hk : k < x.segs.length) (h : segB n (x.segs.getD k (0, 0, 0)) = false) : runB n x = false := by
  unfold runB; rw [all_no (p := fun i => segB n (x.segs.getD i (0, 0, 0))) hk h, Bool.and_false]
end Go.Proofs.Ytkkglkdnnfegkaa

namespace Go.Proofs.Ytkkglkdnnfegkaa
open Go.RowKit Go.Shelf Go.Eng
theorem un_25 : Try.prog.underlying 25 = some (.slice 54) := by kernel_rfl
theorem ty_54 : tyK Try.prog 54 = some (true, 3) := by kernel_rfl
theorem fd_54_0 : fldK Try.prog 54 0 = some 0 := by kernel_rfl
theorem ty_51 : tyK Try.prog 51 = some (false, 1) := by kernel_rfl
theorem un_51 : Try.prog.underlying 51 = some (.slice 56) := by kernel_rfl
theorem fd_24_0 : fldK Try.prog 24 0 = some 0 := by kernel_rfl
theorem ty_22 : tyK Try.prog 22 = some (false, 1) := by kernel_rfl
theorem un_22 : Try.prog.underlying 22 = some (.slice 48) := by kernel_rfl
theorem fd_56_0 : fldK Try.prog 56 0 = some 0 := by kernel_rfl
theorem en_24 : ∀ args w, (callFunc 24 args).run Try.prog w = .ok (.enter 24 args) w := enters_of Try.func24 (by kernel_rfl) rfl
theorem fd_56_1 : fldK Try.prog 56 1 = some 1 := by kernel_rfl
theorem ty_48 : tyK Try.prog 48 = some (true, 2) := by kernel_rfl
theorem ze_48 : (Try.prog.info? 48).bind (·.zero) = some (Value.agg #[(Value.int .i64 0), (Value.int .i64 0)]) := by kernel_rfl
set_option maxHeartbeats 1000000 in
theorem Thin_ok (w : World) (R : List (Int × Int)) (vr : Value) (hm : SlAt w vr 2 R.length (pairs R)) (rs : List RunD) (lv : List Value) (vu : Value) (hx : RunsAt w vu lv rs) (plan : List Seg) (vp : Value) (hp : SlAt w vp 3 plan.length (trips plan)) :
  Calls Try.prog 16 #[(Value.agg #[vr]), vu, vp] w (Ret fun v w' => v = .bool (thinB R rs plan.length) ∧ Ext NoB w w') := by
 refine calls_enter Try.func16 rfl fun a0 hA0 => ?_
 replace hA0 : Fr 39 [] [(0, (Value.agg #[vr])), (1, vu), (2, vp)] a0 := hA0
 have hS0 : Sep NoB w w [(sl vr 2 R.length (pairs R)), (runsR false vu lv rs), (sl vp 3 plan.length (trips plan))] := sep_ro ⟨rfl, hm, rfl, hx, rfl, hp, trivial⟩
 refine c_seq ?_
 refine c_region ?_
 refine stw hA0 (op_box hS0 rfl (hA0.ev rfl) (cs := [vr]) rfl) rfl rfl (by decide) ?_
 rintro a1 _ w3 ⟨b4, rfl, hS5⟩ hA2; clear hA0 hS0 a0
 refine st hA2 (op_assign rfl (evc _ _)) rfl rfl (by decide) fun a6 hA7 => ?_; clear hA2 a1
 refine wl_nil ?_
 refine then_n ?_
 refine c_seq ?_
 refine c_seq ?_
 refine c_region ?_
 refine st hA7 (op_assign rfl (evc _ _)) rfl rfl (by decide) fun a8 hA9 => ?_; clear hA7 a6
 refine wl_nil ?_
 refine then_n ?_
 refine c_block ?_
 have hA10 := hA9.as [(7, (Value.int .i64 0)), (3, (bptr b4 0)), (1, vu), (2, vp)] rfl; clear hA9
 refine c_loop (G := Nat) (fun (k : Nat) a_ w_ => Fr 39 [] [(7, (Value.int .i64 (k : Int))), (3, (bptr b4 0)), (1, vu), (2, vp)] a_ ∧ Sep NoB w w_ [(blk b4 24 [vr]), (sl vr 2 R.length (pairs R)), (runsR false vu lv rs), (sl vp 3 plan.length (trips plan))] ∧ (k ≤ rs.length ∧ k ≤ 10) ∧ (∀ i, i < k → decide ((rs.getD i run0).segs.length ≤ 12) = true)) (fun k => rs.length - k) 0 ⟨hA10.as _ rfl, hS5, by omega, (fun _ h => absurd h (Nat.not_lt_zero _))⟩ ?_
 clear hA10 hS5 a8
 rintro k a11 w13 ⟨hA12, hS14, hk, hn⟩
 refine c_seq ?_
 refine c_seq ?_
 refine c_region ?_
 refine st hA12 (op_move rfl (hA12.ev rfl)) rfl rfl (by decide) fun a15 hA16 => ?_; clear hA12 a11
 refine st hA16 (op_move rfl (hA16.ev rfl)) rfl rfl (by decide) fun a17 hA18 => ?_; clear hA16 a15
 refine st hA18 (op_lenS rfl un_25 (hA18.ev rfl) (runs_at (hS14.ok 2 _ rfl)).runs) rfl rfl (by decide) fun a19 hA20 => ?_; clear hA18 a17
 refine st hA20 (op_lss rfl (hA20.ev rfl) (hA20.ev rfl)) rfl rfl (by decide) fun a21 hA22 => ?_; clear hA20 a19
 refine st hA22 (op_move rfl (hA22.ev rfl)) rfl rfl (by decide) fun a23 hA24 => ?_; clear hA22 a21
 by_cases hb25 : (k : Int) < (rs.length : Int)
 ·skip
  rw [decide_eq_true hb25] at hA24
  refine stg hA24 (op_move rfl (hA24.ev rfl)) rfl rfl rfl rfl (by decide) fun a26 hA27 => ?_; clear hA24 a23
  refine stg hA27 (op_lss rfl (hA27.ev rfl) (evc _ _)) rfl rfl rfl rfl (by decide) fun a28 hA29 => ?_; clear hA27 a26
  refine st hA29 (op_pick_t rfl (hA29.ev rfl) (hA29.ev rfl)) rfl rfl (by decide) fun a30 hA31 => ?_; clear hA29 a28
  refine wl_nil ?_
  refine then_n ?_
  by_cases hb32 : (k : Int) < 10
  ·skip
   rw [decide_eq_true hb32] at hA31
   refine c_true hA31 rfl ?_
   refine c_skip ?_
   refine then_n ?_
   refine c_seq ?_
   refine c_block ?_
   refine c_seq ?_
   have hA33 := hA31.as [(7, (Value.int .i64 (k : Int))), (3, (bptr b4 0)), (1, vu), (2, vp)] rfl; clear hA31
   refine c_region ?_
   refine st hA33 (op_move rfl (hA33.ev rfl)) rfl rfl (by decide) fun a34 hA35 => ?_; clear hA33 a30
   refine st hA35 (op_move rfl (hA35.ev rfl)) rfl rfl (by decide) fun a36 hA37 => ?_; clear hA35 a34
   refine st hA37 (op_indexS rfl un_25 ty_54 (hA37.ev rfl) (i := k) (hA37.ev rfl) (runs_at (hS14.ok 2 _ rfl)).runs (by decide) (by omega)) rfl rfl (by decide) fun a38 hA39 => ?_; clear hA37 a36
   refine st hA39 (op_fieldS rfl fd_54_0 (hA39.ev rfl) (runs_at (hS14.ok 2 _ rfl)).runs (by rw [((runs_at (hS14.ok 2 _ rfl)).runs).1]; omega)) rfl rfl (by decide) fun a40 hA41 => ?_; clear hA39 a38
   refine st hA41 (op_load1E rfl ty_51 (hA41.ev rfl) (runs_at (hS14.ok 2 _ rfl)).runs (runs_at0 (runs_at (hS14.ok 2 _ rfl)).len (by omega))) rfl rfl (by decide) fun a42 hA43 => ?_; clear hA41 a40
   refine st hA43 (op_lenS rfl un_51 (hA43.ev rfl) ((runs_at (hS14.ok 2 _ rfl)).segs k (by omega))) rfl rfl (by decide) fun a44 hA45 => ?_; clear hA43 a42
   refine st hA45 (op_gtr rfl (hA45.ev rfl) (evc _ _)) rfl rfl (by decide) fun a46 hA47 => ?_; clear hA45 a44
   refine wl_nil ?_
   refine then_n ?_
   by_cases hb48 : 12 < ((rs.getD k run0).segs.length : Int)
   ·skip
    rw [decide_eq_true hb48] at hA47
    refine c_true hA47 rfl ?_
    refine c_seq ?_
    have hA49 := hA47.as [] rfl; clear hA47
    refine c_region ?_
    refine st hA49 (op_assign rfl (evc _ _)) rfl rfl (by decide) fun a50 hA51 => ?_; clear hA49 a46
    refine wl_nil ?_
    refine then_n ?_
    refine c_ret ?_
    refine blk_ret ?_
    refine then_ret ?_
    refine then_ret ?_
    refine blk_ret ?_
    refine then_ret ?_
    refine fin_run hA51 (.inl rfl) (run_results1 hA51 rfl (.tmp rfl)) ?_
    exact ⟨congrArg Value.bool (by unfold thinB; first | (rw [all_yes (fun i hi => hn i (by omega)), Bool.true_and]; (rw [Bool.eq_iff_iff]; (try simp only [Bool.true_and, Bool.false_and, Bool.and_true, Bool.and_false, Bool.false_or, Bool.true_or, Bool.or_false, Bool.or_true, true_and, and_true, false_and, and_false, false_or, or_false, true_or, or_true, Bool.and_eq_true, Bool.or_eq_true, Bool.not_eq_true', decide_eq_true_eq, decide_eq_false_iff_not, Bool.false_eq_true, Bool.true_eq_false, Bool.not_true, Bool.not_false, eq_self_iff_true, true_iff, false_iff, iff_true, iff_false, not_true, not_false_eq_true]); omega)) | (rw [all_no (k := k) (by omega) (decide_eq_false (by omega)), Bool.false_and])), hS14.ext⟩
   ·skip
    rw [decide_eq_false hb48] at hA47
    refine c_false hA47 rfl ?_
    refine c_skip ?_
    refine blk_n ?_
    refine then_n ?_
    have hA52 := hA47.as [(7, (Value.int .i64 (k : Int))), (3, (bptr b4 0)), (1, vu), (2, vp)] rfl; clear hA47
    refine c_region ?_
    refine st hA52 (op_move rfl (hA52.ev rfl)) rfl rfl (by decide) fun a53 hA54 => ?_; clear hA52 a46
    refine st hA54 (op_add rfl (hA54.ev rfl) (evc _ _) (by omega) (by omega)) rfl rfl (by decide) fun a55 hA56 => ?_; clear hA54 a53
    refine st hA56 (op_assign rfl (hA56.ev rfl)) rfl rfl (by decide) fun a57 hA58 => ?_; clear hA56 a55
    refine wl_nil ?_
    exact then_n ⟨k + 1, ⟨hA58.as _ rfl, hS14, by omega, (fun i hi => by rcases Nat.lt_succ_iff_lt_or_eq.1 hi with h | h; exact hn i h; subst h; exact decide_eq_true (by omega))⟩, by omega⟩
  ·skip
   rw [decide_eq_false hb32] at hA31
   refine c_false hA31 rfl ?_
   refine c_exit ?_
   refine then_exit ?_
   refine then_exit ?_
   refine blk_hit ?_
   refine then_n ?_
   refine c_seq ?_
   have hA59 := hA31.as [(3, (bptr b4 0)), (1, vu), (2, vp)] rfl; clear hA31
   refine c_region ?_
   refine st hA59 (op_field rfl fd_24_0 (hA59.ev rfl)) rfl rfl (by decide) fun a60 hA61 => ?_; clear hA59 a30
   refine st hA61 (op_load1 rfl ty_22 (hA61.ev rfl) (hS14.bk 0 rfl) rfl) rfl rfl (by decide) fun a62 hA63 => ?_; clear hA61 a60
   refine st hA63 (op_lenS rfl un_22 (hA63.ev rfl) (hS14.sk 1 rfl)) rfl rfl (by decide) fun a64 hA65 => ?_; clear hA63 a62
   refine st hA65 (op_leq rfl (hA65.ev rfl) (evc _ _)) rfl rfl (by decide) fun a66 hA67 => ?_; clear hA65 a64
   refine st hA67 (op_move rfl (hA67.ev rfl)) rfl rfl (by decide) fun a68 hA69 => ?_; clear hA67 a66
   by_cases hb70 : (R.length : Int) ≤ 6
   ·skip
    rw [decide_eq_true hb70] at hA69
    refine stg hA69 (op_move rfl (hA69.ev rfl)) rfl rfl rfl rfl (by decide) fun a71 hA72 => ?_; clear hA69 a68
    refine stg hA72 (op_lenS rfl un_25 (hA72.ev rfl) (runs_at (hS14.ok 2 _ rfl)).runs) rfl rfl rfl rfl (by decide) fun a73 hA74 => ?_; clear hA72 a71
    refine stg hA74 (op_leq rfl (hA74.ev rfl) (evc _ _)) rfl rfl rfl rfl (by decide) fun a75 hA76 => ?_; clear hA74 a73
    refine st hA76 (op_pick_t rfl (hA76.ev rfl) (hA76.ev rfl)) rfl rfl (by decide) fun a77 hA78 => ?_; clear hA76 a75
    refine st hA78 (op_move rfl (hA78.ev rfl)) rfl rfl (by decide) fun a79 hA80 => ?_; clear hA78 a77
    by_cases hb81 : (rs.length : Int) ≤ 9
    ·skip
     rw [decide_eq_true hb81] at hA80
     refine stg hA80 (op_move rfl (hA80.ev rfl)) rfl rfl rfl rfl (by decide) fun a82 hA83 => ?_; clear hA80 a79
     refine stg hA83 (op_lenS rfl un_51 (hA83.ev rfl) (hS14.sk 3 rfl)) rfl rfl rfl rfl (by decide) fun a84 hA85 => ?_; clear hA83 a82
     refine stg hA85 (op_leq rfl (hA85.ev rfl) (evc _ _)) rfl rfl rfl rfl (by decide) fun a86 hA87 => ?_; clear hA85 a84
     refine st hA87 (op_pick_t rfl (hA87.ev rfl) (hA87.ev rfl)) rfl rfl (by decide) fun a88 hA89 => ?_; clear hA87 a86
     refine st hA89 (op_assign rfl (hA89.ev rfl)) rfl rfl (by decide) fun a90 hA91 => ?_; clear hA89 a88
     refine wl_nil ?_
     refine then_n ?_
     refine c_ret ?_
     refine fin_run hA91 (.inl rfl) (run_results1 hA91 rfl (.tmp rfl)) ?_
     exact ⟨congrArg Value.bool (by unfold thinB; first | (rw [all_yes (fun i hi => hn i (by omega)), Bool.true_and]; (rw [Bool.eq_iff_iff]; (try simp only [Bool.true_and, Bool.false_and, Bool.and_true, Bool.and_false, Bool.false_or, Bool.true_or, Bool.or_false, Bool.or_true, true_and, and_true, false_and, and_false, false_or, or_false, true_or, or_true, Bool.and_eq_true, Bool.or_eq_true, Bool.not_eq_true', decide_eq_true_eq, decide_eq_false_iff_not, Bool.false_eq_true, Bool.true_eq_false, Bool.not_true, Bool.not_false, eq_self_iff_true, true_iff, false_iff, iff_true, iff_false, not_true, not_false_eq_true]); omega)) | (rw [all_no (k := k) (by omega) (decide_eq_false (by omega)), Bool.false_and])), hS14.ext⟩
    ·skip
     rw [decide_eq_false hb81] at hA80
     refine skp hA80 rfl rfl rfl rfl rfl (by decide) fun a92 hA93 => ?_; clear hA80 a79
     refine skp hA93 rfl rfl rfl rfl rfl (by decide) fun a94 hA95 => ?_; clear hA93 a92
     refine skp hA95 rfl rfl rfl rfl rfl (by decide) fun a96 hA97 => ?_; clear hA95 a94
     refine st hA97 (op_pick_f rfl (hA97.ev rfl) (evc _ _)) rfl rfl (by decide) fun a98 hA99 => ?_; clear hA97 a96
     refine st hA99 (op_assign rfl (hA99.ev rfl)) rfl rfl (by decide) fun a100 hA101 => ?_; clear hA99 a98
     refine wl_nil ?_
     refine then_n ?_
     refine c_ret ?_
     refine fin_run hA101 (.inl rfl) (run_results1 hA101 rfl (.tmp rfl)) ?_
     exact ⟨congrArg Value.bool (by unfold thinB; first | (rw [all_yes (fun i hi => hn i (by omega)), Bool.true_and]; (rw [Bool.eq_iff_iff]; (try simp only [Bool.true_and, Bool.false_and, Bool.and_true, Bool.and_false, Bool.false_or, Bool.true_or, Bool.or_false, Bool.or_true, true_and, and_true, false_and, and_false, false_or, or_false, true_or, or_true, Bool.and_eq_true, Bool.or_eq_true, Bool.not_eq_true', decide_eq_true_eq, decide_eq_false_iff_not, Bool.false_eq_true, Bool.true_eq_false, Bool.not_true, Bool.not_false, eq_self_iff_true, true_iff, false_iff, iff_true, iff_false, not_true, not_false_eq_true]); omega)) | (rw [all_no (k := k) (by omega) (decide_eq_false (by omega)), Bool.false_and])), hS14.ext⟩
   ·skip
    rw [decide_eq_false hb70] at hA69
    refine skp hA69 rfl rfl rfl rfl rfl (by decide) fun a102 hA103 => ?_; clear hA69 a68
    refine skp hA103 rfl rfl rfl rfl rfl (by decide) fun a104 hA105 => ?_; clear hA103 a102
    refine skp hA105 rfl rfl rfl rfl rfl (by decide) fun a106 hA107 => ?_; clear hA105 a104
    refine st hA107 (op_pick_f rfl (hA107.ev rfl) (evc _ _)) rfl rfl (by decide) fun a108 hA109 => ?_; clear hA107 a106
    refine st hA109 (op_move rfl (hA109.ev rfl)) rfl rfl (by decide) fun a110 hA111 => ?_; clear hA109 a108
    refine skp hA111 rfl rfl rfl rfl rfl (by decide) fun a112 hA113 => ?_; clear hA111 a110
    refine skp hA113 rfl rfl rfl rfl rfl (by decide) fun a114 hA115 => ?_; clear hA113 a112
    refine skp hA115 rfl rfl rfl rfl rfl (by decide) fun a116 hA117 => ?_; clear hA115 a114
    refine st hA117 (op_pick_f rfl (hA117.ev rfl) (evc _ _)) rfl rfl (by decide) fun a118 hA119 => ?_; clear hA117 a116
    refine st hA119 (op_assign rfl (hA119.ev rfl)) rfl rfl (by decide) fun a120 hA121 => ?_; clear hA119 a118
    refine wl_nil ?_
    refine then_n ?_
    refine c_ret ?_
    refine fin_run hA121 (.inl rfl) (run_results1 hA121 rfl (.tmp rfl)) ?_
    exact ⟨congrArg Value.bool (by unfold thinB; first | (rw [all_yes (fun i hi => hn i (by omega)), Bool.true_and]; (rw [Bool.eq_iff_iff]; (try simp only [Bool.true_and, Bool.false_and, Bool.and_true, Bool.and_false, Bool.false_or, Bool.true_or, Bool.or_false, Bool.or_true, true_and, and_true, false_and, and_false, false_or, or_false, true_or, or_true, Bool.and_eq_true, Bool.or_eq_true, Bool.not_eq_true', decide_eq_true_eq, decide_eq_false_iff_not, Bool.false_eq_true, Bool.true_eq_false, Bool.not_true, Bool.not_false, eq_self_iff_true, true_iff, false_iff, iff_true, iff_false, not_true, not_false_eq_true]); omega)) | (rw [all_no (k := k) (by omega) (decide_eq_false (by omega)), Bool.false_and])), hS14.ext⟩
 ·skip
  rw [decide_eq_false hb25] at hA24
  refine skp hA24 rfl rfl rfl rfl rfl (by decide) fun a122 hA123 => ?_; clear hA24 a23
  refine skp hA123 rfl rfl rfl rfl rfl (by decide) fun a124 hA125 => ?_; clear hA123 a122
  refine st hA125 (op_pick_f rfl (hA125.ev rfl) (evc _ _)) rfl rfl (by decide) fun a126 hA127 => ?_; clear hA125 a124
  refine wl_nil ?_
  refine then_n ?_
  refine c_false hA127 rfl ?_
  refine c_exit ?_
  refine then_exit ?_
  refine then_exit ?_
  refine blk_hit ?_
  refine then_n ?_
  refine c_seq ?_
  have hA128 := hA127.as [(3, (bptr b4 0)), (1, vu), (2, vp)] rfl; clear hA127
  refine c_region ?_
  refine st hA128 (op_field rfl fd_24_0 (hA128.ev rfl)) rfl rfl (by decide) fun a129 hA130 => ?_; clear hA128 a126
  refine st hA130 (op_load1 rfl ty_22 (hA130.ev rfl) (hS14.bk 0 rfl) rfl) rfl rfl (by decide) fun a131 hA132 => ?_; clear hA130 a129
  refine st hA132 (op_lenS rfl un_22 (hA132.ev rfl) (hS14.sk 1 rfl)) rfl rfl (by decide) fun a133 hA134 => ?_; clear hA132 a131
  refine st hA134 (op_leq rfl (hA134.ev rfl) (evc _ _)) rfl rfl (by decide) fun a135 hA136 => ?_; clear hA134 a133
  refine st hA136 (op_move rfl (hA136.ev rfl)) rfl rfl (by decide) fun a137 hA138 => ?_; clear hA136 a135
  by_cases hb139 : (R.length : Int) ≤ 6
  ·skip
   rw [decide_eq_true hb139] at hA138
   refine stg hA138 (op_move rfl (hA138.ev rfl)) rfl rfl rfl rfl (by decide) fun a140 hA141 => ?_; clear hA138 a137
   refine stg hA141 (op_lenS rfl un_25 (hA141.ev rfl) (runs_at (hS14.ok 2 _ rfl)).runs) rfl rfl rfl rfl (by decide) fun a142 hA143 => ?_; clear hA141 a140
   refine stg hA143 (op_leq rfl (hA143.ev rfl) (evc _ _)) rfl rfl rfl rfl (by decide) fun a144 hA145 => ?_; clear hA143 a142
   refine st hA145 (op_pick_t rfl (hA145.ev rfl) (hA145.ev rfl)) rfl rfl (by decide) fun a146 hA147 => ?_; clear hA145 a144
   refine st hA147 (op_move rfl (hA147.ev rfl)) rfl rfl (by decide) fun a148 hA149 => ?_; clear hA147 a146
   by_cases hb150 : (rs.length : Int) ≤ 9
   ·skip
    rw [decide_eq_true hb150] at hA149
    refine stg hA149 (op_move rfl (hA149.ev rfl)) rfl rfl rfl rfl (by decide) fun a151 hA152 => ?_; clear hA149 a148
    refine stg hA152 (op_lenS rfl un_51 (hA152.ev rfl) (hS14.sk 3 rfl)) rfl rfl rfl rfl (by decide) fun a153 hA154 => ?_; clear hA152 a151
    refine stg hA154 (op_leq rfl (hA154.ev rfl) (evc _ _)) rfl rfl rfl rfl (by decide) fun a155 hA156 => ?_; clear hA154 a153
    refine st hA156 (op_pick_t rfl (hA156.ev rfl) (hA156.ev rfl)) rfl rfl (by decide) fun a157 hA158 => ?_; clear hA156 a155
    refine st hA158 (op_assign rfl (hA158.ev rfl)) rfl rfl (by decide) fun a159 hA160 => ?_; clear hA158 a157
    refine wl_nil ?_
    refine then_n ?_
    refine c_ret ?_
    refine fin_run hA160 (.inl rfl) (run_results1 hA160 rfl (.tmp rfl)) ?_
    exact ⟨congrArg Value.bool (by unfold thinB; first | (rw [all_yes (fun i hi => hn i (by omega)), Bool.true_and]; (rw [Bool.eq_iff_iff]; (try simp only [Bool.true_and, Bool.false_and, Bool.and_true, Bool.and_false, Bool.false_or, Bool.true_or, Bool.or_false, Bool.or_true, true_and, and_true, false_and, and_false, false_or, or_false, true_or, or_true, Bool.and_eq_true, Bool.or_eq_true, Bool.not_eq_true', decide_eq_true_eq, decide_eq_false_iff_not, Bool.false_eq_true, Bool.true_eq_false, Bool.not_true, Bool.not_false, eq_self_iff_true, true_iff, false_iff, iff_true, iff_false, not_true, not_false_eq_true]); omega)) | (rw [all_no (k := k) (by omega) (decide_eq_false (by omega)), Bool.false_and])), hS14.ext⟩
   ·skip
    rw [decide_eq_false hb150] at hA149
    refine skp hA149 rfl rfl rfl rfl rfl (by decide) fun a161 hA162 => ?_; clear hA149 a148
    refine skp hA162 rfl rfl rfl rfl rfl (by decide) fun a163 hA164 => ?_; clear hA162 a161
    refine skp hA164 rfl rfl rfl rfl rfl (by decide) fun a165 hA166 => ?_; clear hA164 a163
    refine st hA166 (op_pick_f rfl (hA166.ev rfl) (evc _ _)) rfl rfl (by decide) fun a167 hA168 => ?_; clear hA166 a165
    refine st hA168 (op_assign rfl (hA168.ev rfl)) rfl rfl (by decide) fun a169 hA170 => ?_; clear hA168 a167
    refine wl_nil ?_
    refine then_n ?_
    refine c_ret ?_
    refine fin_run hA170 (.inl rfl) (run_results1 hA170 rfl (.tmp rfl)) ?_
    exact ⟨congrArg Value.bool (by unfold thinB; first | (rw [all_yes (fun i hi => hn i (by omega)), Bool.true_and]; (rw [Bool.eq_iff_iff]; (try simp only [Bool.true_and, Bool.false_and, Bool.and_true, Bool.and_false, Bool.false_or, Bool.true_or, Bool.or_false, Bool.or_true, true_and, and_true, false_and, and_false, false_or, or_false, true_or, or_true, Bool.and_eq_true, Bool.or_eq_true, Bool.not_eq_true', decide_eq_true_eq, decide_eq_false_iff_not, Bool.false_eq_true, Bool.true_eq_false, Bool.not_true, Bool.not_false, eq_self_iff_true, true_iff, false_iff, iff_true, iff_false, not_true, not_false_eq_true]); omega)) | (rw [all_no (k := k) (by omega) (decide_eq_false (by omega)), Bool.false_and])), hS14.ext⟩
  ·skip
   rw [decide_eq_false hb139] at hA138
   refine skp hA138 rfl rfl rfl rfl rfl (by decide) fun a171 hA172 => ?_; clear hA138 a137
   refine skp hA172 rfl rfl rfl rfl rfl (by decide) fun a173 hA174 => ?_; clear hA172 a171
   refine skp hA174 rfl rfl rfl rfl rfl (by decide) fun a175 hA176 => ?_; clear hA174 a173
   refine st hA176 (op_pick_f rfl (hA176.ev rfl) (evc _ _)) rfl rfl (by decide) fun a177 hA178 => ?_; clear hA176 a175
   refine st hA178 (op_move rfl (hA178.ev rfl)) rfl rfl (by decide) fun a179 hA180 => ?_; clear hA178 a177
   refine skp hA180 rfl rfl rfl rfl rfl (by decide) fun a181 hA182 => ?_; clear hA180 a179
   refine skp hA182 rfl rfl rfl rfl rfl (by decide) fun a183 hA184 => ?_; clear hA182 a181
   refine skp hA184 rfl rfl rfl rfl rfl (by decide) fun a185 hA186 => ?_; clear hA184 a183
   refine st hA186 (op_pick_f rfl (hA186.ev rfl) (evc _ _)) rfl rfl (by decide) fun a187 hA188 => ?_; clear hA186 a185
   refine st hA188 (op_assign rfl (hA188.ev rfl)) rfl rfl (by decide) fun a189 hA190 => ?_; clear hA188 a187
   refine wl_nil ?_
   refine then_n ?_
   refine c_ret ?_
   refine fin_run hA190 (.inl rfl) (run_results1 hA190 rfl (.tmp rfl)) ?_
   exact ⟨congrArg Value.bool (by unfold thinB; first | (rw [all_yes (fun i hi => hn i (by omega)), Bool.true_and]; (rw [Bool.eq_iff_iff]; (try simp only [Bool.true_and, Bool.false_and, Bool.and_true, Bool.and_false, Bool.false_or, Bool.true_or, Bool.or_false, Bool.or_true, true_and, and_true, false_and, and_false, false_or, or_false, true_or, or_true, Bool.and_eq_true, Bool.or_eq_true, Bool.not_eq_true', decide_eq_true_eq, decide_eq_false_iff_not, Bool.false_eq_true, Bool.true_eq_false, Bool.not_true, Bool.not_false, eq_self_iff_true, true_iff, false_iff, iff_true, iff_false, not_true, not_false_eq_true]); omega)) | (rw [all_no (k := k) (by omega) (decide_eq_false (by omega)), Bool.false_and])), hS14.ext⟩
set_option maxHeartbeats 1000000 in
theorem IsSegment_ok (w : World) (R : List (Int × Int)) (vr : Value) (hm : SlAt w vr 2 R.length (pairs R)) (x1 x2 x3 : Int) (hlen : R.length ≤ 1000000) :
  Calls Try.prog 62 #[(Value.agg #[vr]), (Value.agg #[(Value.int .i64 x1), (Value.int .i64 x2), (Value.int .i64 x3)])] w (Ret fun v w' => v = .bool (segB R.length (x1, x2, x3)) ∧ Ext NoB w w') := by
 refine calls_enter Try.func62 rfl fun a0 hA0 => ?_
 replace hA0 : Fr 27 [] [(0, (Value.agg #[vr])), (1, (Value.agg #[(Value.int .i64 x1), (Value.int .i64 x2), (Value.int .i64 x3)]))] a0 := hA0
 have hS0 : Sep NoB w w [(sl vr 2 R.length (pairs R))] := sep_ro ⟨rfl, hm, trivial⟩
 refine c_seq ?_
 refine c_region ?_
 refine stw hA0 (op_box hS0 rfl (hA0.ev rfl) (cs := [vr]) rfl) rfl rfl (by decide) ?_
 rintro a1 _ w3 ⟨b4, rfl, hS5⟩ hA2; clear hA0 hS0 a0
 refine stw hA2 (op_box hS5 rfl (hA2.ev rfl) (cs := [(Value.int .i64 x1), (Value.int .i64 x2), (Value.int .i64 x3)]) rfl) rfl rfl (by decide) ?_
 rintro a6 _ w8 ⟨b9, rfl, hS10⟩ hA7; clear hA2 hS5 a1
 refine st hA7 (op_assign rfl (evc _ _)) rfl rfl (by decide) fun a11 hA12 => ?_; clear hA7 a6
 refine wl_nil ?_
 refine then_n ?_
 refine c_seq ?_
 refine c_region ?_
 refine st hA12 (op_field rfl fd_56_0 (hA12.ev rfl)) rfl rfl (by decide) fun a13 hA14 => ?_; clear hA12 a11
 refine st hA14 (op_load1 rfl ty_3 (hA14.ev rfl) (hS10.bk 0 rfl) rfl) rfl rfl (by decide) fun a15 hA16 => ?_; clear hA14 a13
 refine st hA16 (op_field rfl fd_24_0 (hA16.ev rfl)) rfl rfl (by decide) fun a17 hA18 => ?_; clear hA16 a15
 refine st hA18 (op_load1 rfl ty_22 (hA18.ev rfl) (hS10.bk 1 rfl) rfl) rfl rfl (by decide) fun a19 hA20 => ?_; clear hA18 a17
 refine st hA20 (op_lenS rfl un_22 (hA20.ev rfl) (hS10.sk 2 rfl)) rfl rfl (by decide) fun a21 hA22 => ?_; clear hA20 a19
 refine st hA22 (op_sub rfl (hA22.ev rfl) (evc _ _) (by omega) (by omega)) rfl rfl (by decide) fun a23 hA24 => ?_; clear hA22 a21
 refine stw hA24 (op_call rfl en_24 (ev3 (hA24.ev rfl) (evc _ _) (hA24.ev rfl)) (In_ok _ _ _ _)) rfl rfl (by decide) ?_
 rintro a25 _ W_ ⟨rfl, hW_⟩ hA26; have hW2_ := hW_.symm; subst hW2_; clear hW_ hA24 a23
 refine st hA26 (op_move rfl (hA26.ev rfl)) rfl rfl (by decide) fun a28 hA29 => ?_; clear hA26 a25
 rcases Bool.eq_false_or_eq_true ((decide (0 ≤ x1) && decide (x1 ≤ ((R.length : Int) - 1)))) with hb30 | hb30
 ·skip
  rw [hb30] at hA29
  have hq31 := hb30; simp only [Bool.and_eq_true, Bool.and_eq_false_iff, decide_eq_true_eq, decide_eq_false_iff_not] at hq31
  refine stg hA29 (op_field rfl fd_56_1 (hA29.ev rfl)) rfl rfl rfl rfl (by decide) fun a32 hA33 => ?_; clear hA29 a28
  refine stg hA33 (op_field rfl fd_48_0 (hA33.ev rfl)) rfl rfl rfl rfl (by decide) fun a34 hA35 => ?_; clear hA33 a32
  refine stg hA35 (op_load1 rfl ty_3 (hA35.ev rfl) (hS10.bk 0 rfl) rfl) rfl rfl rfl rfl (by decide) fun a36 hA37 => ?_; clear hA35 a34
  refine stg hA37 (op_field rfl fd_56_1 (hA37.ev rfl)) rfl rfl rfl rfl (by decide) fun a38 hA39 => ?_; clear hA37 a36
  refine stg hA39 (op_field rfl fd_48_1 (hA39.ev rfl)) rfl rfl rfl rfl (by decide) fun a40 hA41 => ?_; clear hA39 a38
  refine stg hA41 (op_load1 rfl ty_3 (hA41.ev rfl) (hS10.bk 0 rfl) rfl) rfl rfl rfl rfl (by decide) fun a42 hA43 => ?_; clear hA41 a40
  refine stwg hA43 (op_call rfl en_24 (ev3 (hA43.ev rfl) (evc _ _) (hA43.ev rfl)) (In_ok _ _ _ _)) rfl rfl rfl rfl (by decide) ?_
  rintro a44 _ W_ ⟨rfl, hW_⟩ hA45; have hW2_ := hW_.symm; subst hW2_; clear hW_ hA43 a42
  refine st hA45 (op_pick_t rfl (hA45.ev rfl) (hA45.ev rfl)) rfl rfl (by decide) fun a47 hA48 => ?_; clear hA45 a44
  refine st hA48 (op_move rfl (hA48.ev rfl)) rfl rfl (by decide) fun a49 hA50 => ?_; clear hA48 a47
  rcases Bool.eq_false_or_eq_true ((decide (0 ≤ x2) && decide (x2 ≤ x3))) with hb51 | hb51
  ·skip
   rw [hb51] at hA50
   have hq52 := hb51; simp only [Bool.and_eq_true, Bool.and_eq_false_iff, decide_eq_true_eq, decide_eq_false_iff_not] at hq52
   refine stg hA50 (op_field rfl fd_56_1 (hA50.ev rfl)) rfl rfl rfl rfl (by decide) fun a53 hA54 => ?_; clear hA50 a49
   refine stg hA54 (op_field rfl fd_48_1 (hA54.ev rfl)) rfl rfl rfl rfl (by decide) fun a55 hA56 => ?_; clear hA54 a53
   refine stg hA56 (op_load1 rfl ty_3 (hA56.ev rfl) (hS10.bk 0 rfl) rfl) rfl rfl rfl rfl (by decide) fun a57 hA58 => ?_; clear hA56 a55
   refine stg hA58 (op_leq rfl (hA58.ev rfl) (evc _ _)) rfl rfl rfl rfl (by decide) fun a59 hA60 => ?_; clear hA58 a57
   refine st hA60 (op_pick_t rfl (hA60.ev rfl) (hA60.ev rfl)) rfl rfl (by decide) fun a61 hA62 => ?_; clear hA60 a59
   refine st hA62 (op_assign rfl (hA62.ev rfl)) rfl rfl (by decide) fun a63 hA64 => ?_; clear hA62 a61
   refine wl_nil ?_
   refine then_n ?_
   refine c_ret ?_
   refine fin_run hA64 (.inl rfl) (run_results1 hA64 rfl (.tmp rfl)) ?_
   exact ⟨congrArg Value.bool (by unfold segB uptoB; simp [*]), hS10.ext⟩
  ·skip
   rw [hb51] at hA50
   have hq65 := hb51; simp only [Bool.and_eq_true, Bool.and_eq_false_iff, decide_eq_true_eq, decide_eq_false_iff_not] at hq65
   refine skp hA50 rfl rfl rfl rfl rfl (by decide) fun a66 hA67 => ?_; clear hA50 a49
   refine skp hA67 rfl rfl rfl rfl rfl (by decide) fun a68 hA69 => ?_; clear hA67 a66
   refine skp hA69 rfl rfl rfl rfl rfl (by decide) fun a70 hA71 => ?_; clear hA69 a68
   refine skp hA71 rfl rfl rfl rfl rfl (by decide) fun a72 hA73 => ?_; clear hA71 a70
   refine st hA73 (op_pick_f rfl (hA73.ev rfl) (evc _ _)) rfl rfl (by decide) fun a74 hA75 => ?_; clear hA73 a72
   refine st hA75 (op_assign rfl (hA75.ev rfl)) rfl rfl (by decide) fun a76 hA77 => ?_; clear hA75 a74
   refine wl_nil ?_
   refine then_n ?_
   refine c_ret ?_
   refine fin_run hA77 (.inl rfl) (run_results1 hA77 rfl (.tmp rfl)) ?_
   exact ⟨congrArg Value.bool (by unfold segB uptoB; simp [*]), hS10.ext⟩
 ·skip
  rw [hb30] at hA29
  have hq78 := hb30; simp only [Bool.and_eq_true, Bool.and_eq_false_iff, decide_eq_true_eq, decide_eq_false_iff_not] at hq78
  refine skp hA29 rfl rfl rfl rfl rfl (by decide) fun a79 hA80 => ?_; clear hA29 a28
  refine skp hA80 rfl rfl rfl rfl rfl (by decide) fun a81 hA82 => ?_; clear hA80 a79
  refine skp hA82 rfl rfl rfl rfl rfl (by decide) fun a83 hA84 => ?_; clear hA82 a81
  refine skp hA84 rfl rfl rfl rfl rfl (by decide) fun a85 hA86 => ?_; clear hA84 a83
  refine skp hA86 rfl rfl rfl rfl rfl (by decide) fun a87 hA88 => ?_; clear hA86 a85
  refine skp hA88 rfl rfl rfl rfl rfl (by decide) fun a89 hA90 => ?_; clear hA88 a87
  refine skp hA90 rfl rfl rfl rfl rfl (by decide) fun a91 hA92 => ?_; clear hA90 a89
  refine st hA92 (op_pick_f rfl (hA92.ev rfl) (evc _ _)) rfl rfl (by decide) fun a93 hA94 => ?_; clear hA92 a91
  refine st hA94 (op_move rfl (hA94.ev rfl)) rfl rfl (by decide) fun a95 hA96 => ?_; clear hA94 a93
  refine skp hA96 rfl rfl rfl rfl rfl (by decide) fun a97 hA98 => ?_; clear hA96 a95
  refine skp hA98 rfl rfl rfl rfl rfl (by decide) fun a99 hA100 => ?_; clear hA98 a97
  refine skp hA100 rfl rfl rfl rfl rfl (by decide) fun a101 hA102 => ?_; clear hA100 a99
  refine skp hA102 rfl rfl rfl rfl rfl (by decide) fun a103 hA104 => ?_; clear hA102 a101
  refine st hA104 (op_pick_f rfl (hA104.ev rfl) (evc _ _)) rfl rfl (by decide) fun a105 hA106 => ?_; clear hA104 a103
  refine st hA106 (op_assign rfl (hA106.ev rfl)) rfl rfl (by decide) fun a107 hA108 => ?_; clear hA106 a105
  refine wl_nil ?_
  refine then_n ?_
  refine c_ret ?_
  refine fin_run hA108 (.inl rfl) (run_results1 hA108 rfl (.tmp rfl)) ?_
  exact ⟨congrArg Value.bool (by unfold segB uptoB; simp [*]), hS10.ext⟩
set_option maxHeartbeats 1000000 in
theorem MaterialFault_ok (w : World) (R : List (Int × Int)) (vr : Value) (hm : SlAt w vr 2 R.length (pairs R)) :
  Calls Try.prog 40 #[(Value.agg #[vr])] w (Ret fun v w' => v = .int .i64 (checkF R) ∧ Ext NoB w w') := by
 refine calls_enter Try.func40 rfl fun a0 hA0 => ?_
 replace hA0 : Fr 50 [] [(0, (Value.agg #[vr]))] a0 := hA0
 have hS0 : Sep NoB w w [(sl vr 2 R.length (pairs R))] := sep_ro ⟨rfl, hm, trivial⟩
 refine c_seq ?_
 refine c_region ?_
 refine stw hA0 (op_box hS0 rfl (hA0.ev rfl) (cs := [vr]) rfl) rfl rfl (by decide) ?_
 rintro a1 _ w3 ⟨b4, rfl, hS5⟩ hA2; clear hA0 hS0 a0
 refine st hA2 (op_assign rfl (evc _ _)) rfl rfl (by decide) fun a6 hA7 => ?_; clear hA2 a1
 refine wl_nil ?_
 refine then_n ?_
 refine c_seq ?_
 refine c_seq ?_
 refine c_region ?_
 refine st hA7 (op_field rfl fd_24_0 (hA7.ev rfl)) rfl rfl (by decide) fun a8 hA9 => ?_; clear hA7 a6
 refine st hA9 (op_load1 rfl ty_22 (hA9.ev rfl) (hS5.bk 0 rfl) rfl) rfl rfl (by decide) fun a10 hA11 => ?_; clear hA9 a8
 refine st hA11 (op_lenS rfl un_22 (hA11.ev rfl) (hS5.sk 1 rfl)) rfl rfl (by decide) fun a12 hA13 => ?_; clear hA11 a10
 refine stw hA13 (op_call rfl en_24 (ev3 (hA13.ev rfl) (evc _ _) (evc _ _)) (In_ok _ _ _ _)) rfl rfl (by decide) ?_
 rintro a14 _ W_ ⟨rfl, hW_⟩ hA15; have hW2_ := hW_.symm; subst hW2_; clear hW_ hA13 a12
 refine st hA15 (op_not rfl (hA15.ev rfl)) rfl rfl (by decide) fun a17 hA18 => ?_; clear hA15 a14
 refine wl_nil ?_
 refine then_n ?_
 rcases Bool.eq_false_or_eq_true ((decide (1 ≤ (R.length : Int)) && decide ((R.length : Int) ≤ 3))) with hb19 | hb19
 ·skip
  rw [hb19] at hA18
  have hq20 := hb19; simp only [Bool.and_eq_true, Bool.and_eq_false_iff, decide_eq_true_eq, decide_eq_false_iff_not] at hq20
  refine c_false hA18 rfl ?_
  refine c_skip ?_
  refine then_n ?_
  refine c_seq ?_
  have hA21 := hA18.as [(1, (bptr b4 0))] rfl; clear hA18
  refine c_region ?_
  refine st hA21 (op_assign rfl (evc _ _)) rfl rfl (by decide) fun a22 hA23 => ?_; clear hA21 a17
  refine wl_nil ?_
  refine then_n ?_
  refine c_seq ?_
  refine c_seq ?_
  refine c_region ?_
  refine st hA23 (op_assign rfl (evc _ _)) rfl rfl (by decide) fun a24 hA25 => ?_; clear hA23 a22
  refine wl_nil ?_
  refine then_n ?_
  refine c_block ?_
  have hA26 := hA25.as [(4, (Value.int .i64 0)), (3, (Value.int .i64 0)), (1, (bptr b4 0))] rfl; clear hA25
  refine c_loop (G := Nat) (fun (k : Nat) a_ w_ => Fr 50 [] [(4, (Value.int .i64 (k : Int))), (3, (Value.int .i64 (leastU R k))), (1, (bptr b4 0))] a_ ∧ Sep NoB w w_ [(blk b4 24 [vr]), (sl vr 2 R.length (pairs R))] ∧ (k ≤ R.length) ∧ (1 ≤ R.length ∧ R.length ≤ 3) ∧ (∀ i, i < k → rateB (R.getD i (0, 0)) = true) ∧ (∀ i, i < k → leastU R (i + 1) ≤ (R.getD i (0, 0)).2)) (fun k => R.length - k) 0 ⟨hA26.as _ rfl, hS5, by omega, by omega, (fun _ h => absurd h (Nat.not_lt_zero _)), (fun _ h => absurd h (Nat.not_lt_zero _))⟩ ?_
  clear hA26 hS5 a24
  rintro k a27 w29 ⟨hA28, hS30, hkk, hn3, hr, hle⟩
  refine c_seq ?_
  refine c_seq ?_
  refine c_region ?_
  refine st hA28 (op_move rfl (hA28.ev rfl)) rfl rfl (by decide) fun a31 hA32 => ?_; clear hA28 a27
  refine st hA32 (op_field rfl fd_24_0 (hA32.ev rfl)) rfl rfl (by decide) fun a33 hA34 => ?_; clear hA32 a31
  refine st hA34 (op_load1 rfl ty_22 (hA34.ev rfl) (hS30.bk 0 rfl) rfl) rfl rfl (by decide) fun a35 hA36 => ?_; clear hA34 a33
  refine st hA36 (op_lenS rfl un_22 (hA36.ev rfl) (hS30.sk 1 rfl)) rfl rfl (by decide) fun a37 hA38 => ?_; clear hA36 a35
  refine st hA38 (op_lss rfl (hA38.ev rfl) (hA38.ev rfl)) rfl rfl (by decide) fun a39 hA40 => ?_; clear hA38 a37
  refine wl_nil ?_
  refine then_n ?_
  by_cases hb41 : (k : Int) < (R.length : Int)
  ·skip
   rw [decide_eq_true hb41] at hA40
   refine c_true hA40 rfl ?_
   refine c_skip ?_
   refine then_n ?_
   refine c_seq ?_
   refine c_block ?_
   refine c_seq ?_
   refine c_region ?_
   refine st hA40 (op_field rfl fd_24_0 (hA40.ev rfl)) rfl rfl (by decide) fun a42 hA43 => ?_; clear hA40 a39
   refine st hA43 (op_load1 rfl ty_22 (hA43.ev rfl) (hS30.bk 0 rfl) rfl) rfl rfl (by decide) fun a44 hA45 => ?_; clear hA43 a42
   refine st hA45 (op_move rfl (hA45.ev rfl)) rfl rfl (by decide) fun a46 hA47 => ?_; clear hA45 a44
   refine st hA47 (op_indexS rfl un_22 ty_48 (hA47.ev rfl) (i := k) (hA47.ev rfl) (hS30.sk 1 rfl) (by decide) (by omega)) rfl rfl (by decide) fun a48 hA49 => ?_; clear hA47 a46
   refine st hA49 (op_loadAE rfl ty_48 (hA49.ev rfl) (hS30.sk 1 rfl) (pairs_all (by omega)) rfl (by decide)) rfl rfl (by decide) fun a50 hA51 => ?_; clear hA49 a48
   refine stw hA51 (op_alloc hS30 rfl ze_48 (cs := [(Value.int .i64 0), (Value.int .i64 0)]) rfl) rfl rfl (by decide) ?_
   rintro a52 _ w54 ⟨b55, rfl, hS56⟩ hA53; clear hA51 hS30 a50
   refine sts hA53 (op_store hS56 rfl ty_48 (hA53.ev rfl) (hA53.ev rfl) (i := 0) rfl (vs := [(Value.int .i64 ((R.getD k (0, 0)).1)), (Value.int .i64 ((R.getD k (0, 0)).2))]) rfl rfl rfl (Nat.le_of_ble_eq_true rfl)) rfl rfl ?_
   intro _ w57 hS58 hA59; clear hA53
   have hS60 : Sep NoB w w57 [(blk b55 48 [(Value.int .i64 ((R.getD k (0, 0)).1)), (Value.int .i64 ((R.getD k (0, 0)).2))]), (blk b4 24 [vr]), (sl vr 2 R.length (pairs R))] := hS58; clear hS58 hS56
   refine wl_nil ?_
   refine then_n ?_
   refine c_seq ?_
   refine c_seq ?_
   have hA61 := hA59.as [(5, (bptr b55 0)), (4, (Value.int .i64 (k : Int))), (3, (Value.int .i64 (leastU R k))), (1, (bptr b4 0))] rfl; clear hA59
   refine c_region ?_
   refine st hA61 (op_field rfl fd_48_0 (hA61.ev rfl)) rfl rfl (by decide) fun a62 hA63 => ?_; clear hA61 a52
   refine st hA63 (op_load1 rfl ty_3 (hA63.ev rfl) (hS60.bk 0 rfl) rfl) rfl rfl (by decide) fun a64 hA65 => ?_; clear hA63 a62
   refine st hA65 (op_field rfl fd_48_1 (hA65.ev rfl)) rfl rfl (by decide) fun a66 hA67 => ?_; clear hA65 a64
   refine st hA67 (op_load1 rfl ty_3 (hA67.ev rfl) (hS60.bk 0 rfl) rfl) rfl rfl (by decide) fun a68 hA69 => ?_; clear hA67 a66
   refine stw hA69 (op_call rfl en_24 (ev3 (hA69.ev rfl) (evc _ _) (hA69.ev rfl)) (In_ok _ _ _ _)) rfl rfl (by decide) ?_
   rintro a70 _ W_ ⟨rfl, hW_⟩ hA71; have hW2_ := hW_.symm; subst hW2_; clear hW_ hA69 a68
   refine st hA71 (op_not rfl (hA71.ev rfl)) rfl rfl (by decide) fun a73 hA74 => ?_; clear hA71 a70
   refine st hA74 (op_move rfl (hA74.ev rfl)) rfl rfl (by decide) fun a75 hA76 => ?_; clear hA74 a73
   rcases Bool.eq_false_or_eq_true ((decide (0 ≤ ((R.getD k (0, 0)).1)) && decide (((R.getD k (0, 0)).1) ≤ ((R.getD k (0, 0)).2)))) with hb77 | hb77
   ·skip
    rw [hb77] at hA76
    have hq78 := hb77; simp only [Bool.and_eq_true, Bool.and_eq_false_iff, decide_eq_true_eq, decide_eq_false_iff_not] at hq78
    refine stg hA76 (op_field rfl fd_48_1 (hA76.ev rfl)) rfl rfl rfl rfl (by decide) fun a79 hA80 => ?_; clear hA76 a75
    refine stg hA80 (op_load1 rfl ty_3 (hA80.ev rfl) (hS60.bk 0 rfl) rfl) rfl rfl rfl rfl (by decide) fun a81 hA82 => ?_; clear hA80 a79
    refine stg hA82 (op_gtr rfl (hA82.ev rfl) (evc _ _)) rfl rfl rfl rfl (by decide) fun a83 hA84 => ?_; clear hA82 a81
    refine st hA84 (op_pick_f rfl (hA84.ev rfl) (hA84.ev rfl)) rfl rfl (by decide) fun a85 hA86 => ?_; clear hA84 a83
    refine st hA86 (op_move rfl (hA86.ev rfl)) rfl rfl (by decide) fun a87 hA88 => ?_; clear hA86 a85
    by_cases hb89 : 1000 < ((R.getD k (0, 0)).2)
    ·skip
     rw [decide_eq_true hb89] at hA88
     refine skp hA88 rfl rfl rfl rfl rfl (by decide) fun a90 hA91 => ?_; clear hA88 a87
     refine skp hA91 rfl rfl rfl rfl rfl (by decide) fun a92 hA93 => ?_; clear hA91 a90
     refine skp hA93 rfl rfl rfl rfl rfl (by decide) fun a94 hA95 => ?_; clear hA93 a92
     refine skp hA95 rfl rfl rfl rfl rfl (by decide) fun a96 hA97 => ?_; clear hA95 a94
     refine skp hA97 rfl rfl rfl rfl rfl (by decide) fun a98 hA99 => ?_; clear hA97 a96
     refine skp hA99 rfl rfl rfl rfl rfl (by decide) fun a100 hA101 => ?_; clear hA99 a98
     refine st hA101 (op_pick_t rfl (hA101.ev rfl) (evc _ _)) rfl rfl (by decide) fun a102 hA103 => ?_; clear hA101 a100
     refine wl_nil ?_
     refine then_n ?_
     refine c_true hA103 rfl ?_
     refine c_seq ?_
     have hA104 := hA103.as [] rfl; clear hA103
     refine c_region ?_
     refine st hA104 (op_assign rfl (evc _ _)) rfl rfl (by decide) fun a105 hA106 => ?_; clear hA104 a102
     refine wl_nil ?_
     refine then_n ?_
     refine c_ret ?_
     refine then_ret ?_
     refine blk_ret ?_
     refine then_ret ?_
     refine then_ret ?_
     refine blk_ret ?_
     refine then_ret ?_
     refine fin_run hA106 (.inl rfl) (run_results1 hA106 rfl (.tmp rfl)) ?_
     exact ⟨ret_int (Eq.symm (by first | exact check_n (by omega) | exact check_r (k := k) (by omega) (by unfold rateB uptoB; simp only [Bool.and_eq_false_iff, decide_eq_false_iff_not]; omega) | exact check_l (k := k) (by omega) (by simp only [leastU]; omega))), hS60.ext⟩
    ·skip
     rw [decide_eq_false hb89] at hA88
     refine stg hA88 (op_field rfl fd_48_1 (hA88.ev rfl)) rfl rfl rfl rfl (by decide) fun a107 hA108 => ?_; clear hA88 a87
     refine stg hA108 (op_load1 rfl ty_3 (hA108.ev rfl) (hS60.bk 0 rfl) rfl) rfl rfl rfl rfl (by decide) fun a109 hA110 => ?_; clear hA108 a107
     refine stg hA110 (op_field rfl fd_48_0 (hA110.ev rfl)) rfl rfl rfl rfl (by decide) fun a111 hA112 => ?_; clear hA110 a109
     refine stg hA112 (op_load1 rfl ty_3 (hA112.ev rfl) (hS60.bk 0 rfl) rfl) rfl rfl rfl rfl (by decide) fun a113 hA114 => ?_; clear hA112 a111
     refine stg hA114 (op_sub rfl (hA114.ev rfl) (hA114.ev rfl) (by omega) (by omega)) rfl rfl rfl rfl (by decide) fun a115 hA116 => ?_; clear hA114 a113
     refine stg hA116 (op_gtr rfl (hA116.ev rfl) (evc _ _)) rfl rfl rfl rfl (by decide) fun a117 hA118 => ?_; clear hA116 a115
     refine st hA118 (op_pick_f rfl (hA118.ev rfl) (hA118.ev rfl)) rfl rfl (by decide) fun a119 hA120 => ?_; clear hA118 a117
     refine wl_nil ?_
     refine then_n ?_
     by_cases hb121 : 20 < (((R.getD k (0, 0)).2) - ((R.getD k (0, 0)).1))
     ·skip
      rw [decide_eq_true hb121] at hA120
      refine c_true hA120 rfl ?_
      refine c_seq ?_
      have hA122 := hA120.as [] rfl; clear hA120
      refine c_region ?_
      refine st hA122 (op_assign rfl (evc _ _)) rfl rfl (by decide) fun a123 hA124 => ?_; clear hA122 a119
      refine wl_nil ?_
      refine then_n ?_
      refine c_ret ?_
      refine then_ret ?_
      refine blk_ret ?_
      refine then_ret ?_
      refine then_ret ?_
      refine blk_ret ?_
      refine then_ret ?_
      refine fin_run hA124 (.inl rfl) (run_results1 hA124 rfl (.tmp rfl)) ?_
      exact ⟨ret_int (Eq.symm (by first | exact check_n (by omega) | exact check_r (k := k) (by omega) (by unfold rateB uptoB; simp only [Bool.and_eq_false_iff, decide_eq_false_iff_not]; omega) | exact check_l (k := k) (by omega) (by simp only [leastU]; omega))), hS60.ext⟩
     ·skip
      rw [decide_eq_false hb121] at hA120
      refine c_false hA120 rfl ?_
      refine c_skip ?_
      refine then_n ?_
      refine c_seq ?_
      have hA125 := hA120.as [(5, (bptr b55 0)), (4, (Value.int .i64 (k : Int))), (3, (Value.int .i64 (leastU R k))), (1, (bptr b4 0))] rfl; clear hA120
      refine c_region ?_
      refine st hA125 (op_move rfl (hA125.ev rfl)) rfl rfl (by decide) fun a126 hA127 => ?_; clear hA125 a119
      refine st hA127 (op_field rfl fd_48_0 (hA127.ev rfl)) rfl rfl (by decide) fun a128 hA129 => ?_; clear hA127 a126
      refine st hA129 (op_load1 rfl ty_3 (hA129.ev rfl) (hS60.bk 0 rfl) rfl) rfl rfl (by decide) fun a130 hA131 => ?_; clear hA129 a128
      refine st hA131 (op_max rfl (hA131.ev rfl) (hA131.ev rfl)) rfl rfl (by decide) fun a132 hA133 => ?_; clear hA131 a130
      refine st hA133 (op_assign rfl (hA133.ev rfl)) rfl rfl (by decide) fun a134 hA135 => ?_; clear hA133 a132
      refine wl_nil ?_
      refine then_n ?_
      refine c_seq ?_
      refine c_region ?_
      refine st hA135 (op_move rfl (hA135.ev rfl)) rfl rfl (by decide) fun a136 hA137 => ?_; clear hA135 a134
      refine st hA137 (op_field rfl fd_48_1 (hA137.ev rfl)) rfl rfl (by decide) fun a138 hA139 => ?_; clear hA137 a136
      refine st hA139 (op_load1 rfl ty_3 (hA139.ev rfl) (hS60.bk 0 rfl) rfl) rfl rfl (by decide) fun a140 hA141 => ?_; clear hA139 a138
      refine st hA141 (op_gtr rfl (hA141.ev rfl) (hA141.ev rfl)) rfl rfl (by decide) fun a142 hA143 => ?_; clear hA141 a140
      refine wl_nil ?_
      refine then_n ?_
      by_cases hb144 : ((R.getD k (0, 0)).2) < (max (leastU R k) ((R.getD k (0, 0)).1))
      ·skip
       rw [decide_eq_true hb144] at hA143
       refine c_true hA143 rfl ?_
       refine c_seq ?_
       have hA145 := hA143.as [] rfl; clear hA143
       refine c_region ?_
       refine st hA145 (op_assign rfl (evc _ _)) rfl rfl (by decide) fun a146 hA147 => ?_; clear hA145 a142
       refine wl_nil ?_
       refine then_n ?_
       refine c_ret ?_
       refine blk_ret ?_
       refine then_ret ?_
       refine then_ret ?_
       refine blk_ret ?_
       refine then_ret ?_
       refine fin_run hA147 (.inl rfl) (run_results1 hA147 rfl (.tmp rfl)) ?_
       exact ⟨ret_int (Eq.symm (by first | exact check_n (by omega) | exact check_r (k := k) (by omega) (by unfold rateB uptoB; simp only [Bool.and_eq_false_iff, decide_eq_false_iff_not]; omega) | exact check_l (k := k) (by omega) (by simp only [leastU]; omega))), hS60.ext⟩
      ·skip
       rw [decide_eq_false hb144] at hA143
       refine c_false hA143 rfl ?_
       refine c_skip ?_
       refine blk_n ?_
       refine then_n ?_
       have hA148 := hA143.as [(3, (Value.int .i64 (max (leastU R k) ((R.getD k (0, 0)).1)))), (4, (Value.int .i64 (k : Int))), (1, (bptr b4 0))] rfl; clear hA143
       refine c_region ?_
       refine st hA148 (op_move rfl (hA148.ev rfl)) rfl rfl (by decide) fun a149 hA150 => ?_; clear hA148 a142
       refine st hA150 (op_add rfl (hA150.ev rfl) (evc _ _) (by omega) (by omega)) rfl rfl (by decide) fun a151 hA152 => ?_; clear hA150 a149
       refine st hA152 (op_assign rfl (hA152.ev rfl)) rfl rfl (by decide) fun a153 hA154 => ?_; clear hA152 a151
       refine wl_nil ?_
       have hS155 : Sep NoB w w57 [(blk b4 24 [vr]), (sl vr 2 R.length (pairs R))] := hS60.keep [1, 2] (by decide) _ rfl rfl; clear hS60
       exact then_n ⟨k + 1, ⟨hA154.as _ rfl, hS155, by omega, hn3, (fun i hi => by rcases Nat.lt_succ_iff_lt_or_eq.1 hi with h | h; exact hr i h; subst h; unfold rateB uptoB; simp only [Bool.and_eq_true, decide_eq_true_eq]; omega), (fun i hi => by rcases Nat.lt_succ_iff_lt_or_eq.1 hi with h | h; exact hle i h; subst h; simp only [leastU]; omega)⟩, by omega⟩
   ·skip
    rw [hb77] at hA76
    have hq156 := hb77; simp only [Bool.and_eq_true, Bool.and_eq_false_iff, decide_eq_true_eq, decide_eq_false_iff_not] at hq156
    refine skp hA76 rfl rfl rfl rfl rfl (by decide) fun a157 hA158 => ?_; clear hA76 a75
    refine skp hA158 rfl rfl rfl rfl rfl (by decide) fun a159 hA160 => ?_; clear hA158 a157
    refine skp hA160 rfl rfl rfl rfl rfl (by decide) fun a161 hA162 => ?_; clear hA160 a159
    refine st hA162 (op_pick_t rfl (hA162.ev rfl) (evc _ _)) rfl rfl (by decide) fun a163 hA164 => ?_; clear hA162 a161
    refine st hA164 (op_move rfl (hA164.ev rfl)) rfl rfl (by decide) fun a165 hA166 => ?_; clear hA164 a163
    refine skp hA166 rfl rfl rfl rfl rfl (by decide) fun a167 hA168 => ?_; clear hA166 a165
    refine skp hA168 rfl rfl rfl rfl rfl (by decide) fun a169 hA170 => ?_; clear hA168 a167
    refine skp hA170 rfl rfl rfl rfl rfl (by decide) fun a171 hA172 => ?_; clear hA170 a169
    refine skp hA172 rfl rfl rfl rfl rfl (by decide) fun a173 hA174 => ?_; clear hA172 a171
    refine skp hA174 rfl rfl rfl rfl rfl (by decide) fun a175 hA176 => ?_; clear hA174 a173
    refine skp hA176 rfl rfl rfl rfl rfl (by decide) fun a177 hA178 => ?_; clear hA176 a175
    refine st hA178 (op_pick_t rfl (hA178.ev rfl) (evc _ _)) rfl rfl (by decide) fun a179 hA180 => ?_; clear hA178 a177
    refine wl_nil ?_
    refine then_n ?_
    refine c_true hA180 rfl ?_
    refine c_seq ?_
    have hA181 := hA180.as [] rfl; clear hA180
    refine c_region ?_
    refine st hA181 (op_assign rfl (evc _ _)) rfl rfl (by decide) fun a182 hA183 => ?_; clear hA181 a179
    refine wl_nil ?_
    refine then_n ?_
    refine c_ret ?_
    refine then_ret ?_
    refine blk_ret ?_
    refine then_ret ?_
    refine then_ret ?_
    refine blk_ret ?_
    refine then_ret ?_
    refine fin_run hA183 (.inl rfl) (run_results1 hA183 rfl (.tmp rfl)) ?_
    exact ⟨ret_int (Eq.symm (by first | exact check_n (by omega) | exact check_r (k := k) (by omega) (by unfold rateB uptoB; simp only [Bool.and_eq_false_iff, decide_eq_false_iff_not]; omega) | exact check_l (k := k) (by omega) (by simp only [leastU]; omega))), hS60.ext⟩
  ·skip
   rw [decide_eq_false hb41] at hA40
   refine c_false hA40 rfl ?_
   refine c_exit ?_
   refine then_exit ?_
   refine then_exit ?_
   refine blk_hit ?_
   refine then_n ?_
   refine c_seq ?_
   have hA184 := hA40.as [] rfl; clear hA40
   refine c_region ?_
   refine st hA184 (op_assign rfl (evc _ _)) rfl rfl (by decide) fun a185 hA186 => ?_; clear hA184 a39
   refine wl_nil ?_
   refine then_n ?_
   refine c_ret ?_
   refine fin_run hA186 (.inl rfl) (run_results1 hA186 rfl (.tmp rfl)) ?_
   exact ⟨ret_int (Eq.symm (check_yes (by omega) (fun i hi => hr i (by omega)) (fun i hi => hle i (by omega)))), hS30.ext⟩
 ·skip
  rw [hb19] at hA18
  have hq187 := hb19; simp only [Bool.and_eq_true, Bool.and_eq_false_iff, decide_eq_true_eq, decide_eq_false_iff_not] at hq187
  refine c_true hA18 rfl ?_
  refine c_seq ?_
  have hA188 := hA18.as [] rfl; clear hA18
  refine c_region ?_
  refine st hA188 (op_assign rfl (evc _ _)) rfl rfl (by decide) fun a189 hA190 => ?_; clear hA188 a17
  refine wl_nil ?_
  refine then_n ?_
  refine c_ret ?_
  refine then_ret ?_
  refine fin_run hA190 (.inl rfl) (run_results1 hA190 rfl (.tmp rfl)) ?_
  exact ⟨ret_int (Eq.symm (by first | exact check_n (by omega) | exact check_r (k := k) (by omega) (by unfold rateB uptoB; simp only [Bool.and_eq_false_iff, decide_eq_false_iff_not]; omega) | exact check_l (k := k) (by omega) (by simp only [leastU]; omega))), hS5.ext⟩
end Go.Proofs.Ytkkglkdnnfegkaa

namespace Go.Proofs.Ytkkglkdnnfegkaa
open Go.RowKit Go.Shelf Go.Eng
theorem ty_24 : tyK Try.prog 24 = some (true, 1) := by kernel_rfl
theorem en_40 : ∀ args w, (callFunc 40 args).run Try.prog w = .ok (.enter 40 args) w := enters_of Try.func40 (by kernel_rfl) rfl
theorem fd_54_1 : fldK Try.prog 54 1 = some 1 := by kernel_rfl
theorem ty_56 : tyK Try.prog 56 = some (true, 3) := by kernel_rfl
theorem en_62 : ∀ args w, (callFunc 62 args).run Try.prog w = .ok (.enter 62 args) w := enters_of Try.func62 (by kernel_rfl) rfl
theorem en_69 : ∀ args w, (callFunc 69 args).run Try.prog w = .ok (.enter 69 args) w := enters_of Try.func69 (by kernel_rfl) rfl
theorem ze_56 : (Try.prog.info? 56).bind (·.zero) = some (Value.agg #[(Value.int .i64 0), (Value.int .i64 0), (Value.int .i64 0)]) := by kernel_rfl
theorem bd_48_0i_1i (x0_0 : Int) (x1_0 : Int) (w : World) : (Instr.build 48 #[(0, (.int .i64 x0_0)), (1, (.int .i64 x1_0))]).run Try.prog w = .ok (.agg #[(.int .i64 x0_0), (.int .i64 x1_0)]) w := by kernel_rfl
theorem en_34 : ∀ args w, (callFunc 34 args).run Try.prog w = .ok (.enter 34 args) w := enters_of Try.func34 (by kernel_rfl) rfl
set_option maxHeartbeats 1000000 in
theorem Fault_ok (w : World) (R : List (Int × Int)) (vr : Value) (hm : SlAt w vr 2 R.length (pairs R)) (rs : List RunD) (lv : List Value) (vu : Value) (hx : RunsAt w vu lv rs) :
  Calls Try.prog 69 #[(Value.agg #[vr]), vu] w (Ret fun v w' => v = .int .i64 (enterF R rs) ∧ Ext NoB w w') := by
 refine calls_enter Try.func69 rfl fun a0 hA0 => ?_
 replace hA0 : Fr 74 [] [(0, (Value.agg #[vr])), (1, vu)] a0 := hA0
 have hS0 : Sep NoB w w [(sl vr 2 R.length (pairs R)), (runsR false vu lv rs)] := sep_ro ⟨rfl, hm, rfl, hx, trivial⟩
 refine c_seq ?_
 refine c_region ?_
 refine stw hA0 (op_box hS0 rfl (hA0.ev rfl) (cs := [vr]) rfl) rfl rfl (by decide) ?_
 rintro a1 _ w3 ⟨b4, rfl, hS5⟩ hA2; clear hA0 hS0 a0
 refine st hA2 (op_assign rfl (evc _ _)) rfl rfl (by decide) fun a6 hA7 => ?_; clear hA2 a1
 refine wl_nil ?_
 refine then_n ?_
 refine c_seq ?_
 refine c_seq ?_
 refine c_region ?_
 refine st hA7 (op_loadA rfl ty_24 (hA7.ev rfl) (hS5.bk 0 rfl) (l := [vr]) rfl rfl) rfl rfl (by decide) fun a8 hA9 => ?_; clear hA7 a6
 refine stw hA9 (op_call rfl en_40 (ev1 (hA9.ev rfl)) (MaterialFault_ok _ R _ (hS5.sk 1 rfl))) rfl rfl (by decide) ?_
 rintro a10 _ w12 ⟨rfl, hE13⟩ hA11; have hS14 := hS5.step hE13; clear hE13 hA9 hS5 a8
 refine st hA11 (op_assign rfl (hA11.ev rfl)) rfl rfl (by decide) fun a15 hA16 => ?_; clear hA11 a10
 refine wl_nil ?_
 refine then_n ?_
 refine c_seq ?_
 refine c_region ?_
 refine st hA16 (op_move rfl (hA16.ev rfl)) rfl rfl (by decide) fun a17 hA18 => ?_; clear hA16 a15
 refine st hA18 (op_neq rfl (hA18.ev rfl) (evc _ _)) rfl rfl (by decide) fun a19 hA20 => ?_; clear hA18 a17
 refine wl_nil ?_
 refine then_n ?_
 by_cases hb21 : (checkF R) = 0
 ·skip
  rw [decide_eq_true hb21] at hA20
  have hR3 := (check_mat (R := R) (by assumption)).1.1
  refine c_false hA20 rfl ?_
  refine c_skip ?_
  refine then_n ?_
  refine c_seq ?_
  refine c_seq ?_
  have hA22 := hA20.as [(2, (bptr b4 0)), (1, vu)] rfl; clear hA20
  refine c_region ?_
  refine st hA22 (op_move rfl (hA22.ev rfl)) rfl rfl (by decide) fun a23 hA24 => ?_; clear hA22 a19
  refine st hA24 (op_lenS rfl un_25 (hA24.ev rfl) (runs_at (hS14.ok 2 _ rfl)).runs) rfl rfl (by decide) fun a25 hA26 => ?_; clear hA24 a23
  refine st hA26 (op_gtr rfl (hA26.ev rfl) (evc _ _)) rfl rfl (by decide) fun a27 hA28 => ?_; clear hA26 a25
  refine wl_nil ?_
  refine then_n ?_
  by_cases hb29 : 6 < (rs.length : Int)
  ·skip
   rw [decide_eq_true hb29] at hA28
   refine c_true hA28 rfl ?_
   refine c_seq ?_
   refine c_region ?_
   refine st hA28 (op_assign rfl (evc _ _)) rfl rfl (by decide) fun a30 hA31 => ?_; clear hA28 a27
   refine wl_nil ?_
   refine then_n ?_
   refine c_ret ?_
   refine then_ret ?_
   refine fin_run hA31 (.inl rfl) (run_results1 hA31 rfl (.tmp rfl)) ?_
   exact ⟨ret_int (Eq.symm (by first | exact enter_3a (by assumption) (by omega) | exact enter_3b (by assumption) (all_no (k := k) (by omega) (decide_eq_false (by omega))))), hS14.ext⟩
  ·skip
   rw [decide_eq_false hb29] at hA28
   refine c_false hA28 rfl ?_
   refine c_skip ?_
   refine then_n ?_
   refine c_seq ?_
   refine c_seq ?_
   refine c_region ?_
   refine st hA28 (op_assign rfl (evc _ _)) rfl rfl (by decide) fun a32 hA33 => ?_; clear hA28 a27
   refine wl_nil ?_
   refine then_n ?_
   refine c_block ?_
   have hA34 := hA33.as [(6, (Value.int .i64 0)), (2, (bptr b4 0)), (1, vu)] rfl; clear hA33
   refine c_loop (G := Nat) (fun (k : Nat) a_ w_ => Fr 74 [] [(6, (Value.int .i64 (k : Int))), (2, (bptr b4 0)), (1, vu)] a_ ∧ Sep NoB w w_ [(blk b4 24 [vr]), (sl vr 2 R.length (pairs R)), (runsR false vu lv rs)] ∧ (k ≤ rs.length) ∧ (rs.length ≤ 6) ∧ (∀ i, i < k → decide (((rs.getD i run0).segs.length : Int) ≤ 8) = true)) (fun k => rs.length - k) 0 ⟨hA34.as _ rfl, hS14, by omega, by omega, (fun _ h => absurd h (Nat.not_lt_zero _))⟩ ?_
   clear hA34 hS14 a32
   rintro k a35 w37 ⟨hA36, hS38, hkk, h6, hn⟩
   refine c_seq ?_
   refine c_seq ?_
   refine c_region ?_
   refine st hA36 (op_move rfl (hA36.ev rfl)) rfl rfl (by decide) fun a39 hA40 => ?_; clear hA36 a35
   refine st hA40 (op_move rfl (hA40.ev rfl)) rfl rfl (by decide) fun a41 hA42 => ?_; clear hA40 a39
   refine st hA42 (op_lenS rfl un_25 (hA42.ev rfl) (runs_at (hS38.ok 2 _ rfl)).runs) rfl rfl (by decide) fun a43 hA44 => ?_; clear hA42 a41
   refine st hA44 (op_lss rfl (hA44.ev rfl) (hA44.ev rfl)) rfl rfl (by decide) fun a45 hA46 => ?_; clear hA44 a43
   refine wl_nil ?_
   refine then_n ?_
   by_cases hb47 : (k : Int) < (rs.length : Int)
   ·skip
    rw [decide_eq_true hb47] at hA46
    refine c_true hA46 rfl ?_
    refine c_skip ?_
    refine then_n ?_
    refine c_seq ?_
    refine c_block ?_
    refine c_seq ?_
    refine c_region ?_
    refine st hA46 (op_move rfl (hA46.ev rfl)) rfl rfl (by decide) fun a48 hA49 => ?_; clear hA46 a45
    refine st hA49 (op_move rfl (hA49.ev rfl)) rfl rfl (by decide) fun a50 hA51 => ?_; clear hA49 a48
    refine st hA51 (op_indexS rfl un_25 ty_54 (hA51.ev rfl) (i := k) (hA51.ev rfl) (runs_at (hS38.ok 2 _ rfl)).runs (by decide) (by omega)) rfl rfl (by decide) fun a52 hA53 => ?_; clear hA51 a50
    refine st hA53 (op_fieldS rfl fd_54_0 (hA53.ev rfl) (runs_at (hS38.ok 2 _ rfl)).runs (by rw [((runs_at (hS38.ok 2 _ rfl)).runs).1]; omega)) rfl rfl (by decide) fun a54 hA55 => ?_; clear hA53 a52
    refine st hA55 (op_load1E rfl ty_51 (hA55.ev rfl) (runs_at (hS38.ok 2 _ rfl)).runs (runs_at0 (runs_at (hS38.ok 2 _ rfl)).len (by omega))) rfl rfl (by decide) fun a56 hA57 => ?_; clear hA55 a54
    refine st hA57 (op_lenS rfl un_51 (hA57.ev rfl) ((runs_at (hS38.ok 2 _ rfl)).segs k (by omega))) rfl rfl (by decide) fun a58 hA59 => ?_; clear hA57 a56
    refine st hA59 (op_gtr rfl (hA59.ev rfl) (evc _ _)) rfl rfl (by decide) fun a60 hA61 => ?_; clear hA59 a58
    refine wl_nil ?_
    refine then_n ?_
    by_cases hb62 : 8 < ((rs.getD k run0).segs.length : Int)
    ·skip
     rw [decide_eq_true hb62] at hA61
     refine c_true hA61 rfl ?_
     refine c_seq ?_
     have hA63 := hA61.as [] rfl; clear hA61
     refine c_region ?_
     refine st hA63 (op_assign rfl (evc _ _)) rfl rfl (by decide) fun a64 hA65 => ?_; clear hA63 a60
     refine wl_nil ?_
     refine then_n ?_
     refine c_ret ?_
     refine blk_ret ?_
     refine then_ret ?_
     refine then_ret ?_
     refine blk_ret ?_
     refine then_ret ?_
     refine fin_run hA65 (.inl rfl) (run_results1 hA65 rfl (.tmp rfl)) ?_
     exact ⟨ret_int (Eq.symm (by first | exact enter_3a (by assumption) (by omega) | exact enter_3b (by assumption) (all_no (k := k) (by omega) (decide_eq_false (by omega))))), hS38.ext⟩
    ·skip
     rw [decide_eq_false hb62] at hA61
     refine c_false hA61 rfl ?_
     refine c_skip ?_
     refine blk_n ?_
     refine then_n ?_
     have hA66 := hA61.as [(6, (Value.int .i64 (k : Int))), (2, (bptr b4 0)), (1, vu)] rfl; clear hA61
     refine c_region ?_
     refine st hA66 (op_move rfl (hA66.ev rfl)) rfl rfl (by decide) fun a67 hA68 => ?_; clear hA66 a60
     refine st hA68 (op_add rfl (hA68.ev rfl) (evc _ _) (by omega) (by omega)) rfl rfl (by decide) fun a69 hA70 => ?_; clear hA68 a67
     refine st hA70 (op_assign rfl (hA70.ev rfl)) rfl rfl (by decide) fun a71 hA72 => ?_; clear hA70 a69
     refine wl_nil ?_
     exact then_n ⟨k + 1, ⟨hA72.as _ rfl, hS38, by omega, h6, (fun i hi => by rcases Nat.lt_succ_iff_lt_or_eq.1 hi with h | h; exact hn i h; subst h; exact decide_eq_true (by omega))⟩, by omega⟩
   ·skip
    rw [decide_eq_false hb47] at hA46
    refine c_false hA46 rfl ?_
    refine c_exit ?_
    refine then_exit ?_
    refine then_exit ?_
    refine blk_hit ?_
    refine then_n ?_
    refine c_seq ?_
    refine c_seq ?_
    refine c_region ?_
    refine st hA46 (op_assign rfl (evc _ _)) rfl rfl (by decide) fun a73 hA74 => ?_; clear hA46 a45
    refine wl_nil ?_
    refine then_n ?_
    refine c_block ?_
    have hA75 := hA74.as [(7, (Value.int .i64 0)), (2, (bptr b4 0)), (1, vu)] rfl; clear hA74
    refine c_loop (G := Nat) (fun (k1 : Nat) a_ w_ => Fr 74 [] [(7, (Value.int .i64 (k1 : Int))), (2, (bptr b4 0)), (1, vu)] a_ ∧ Sep NoB w w_ [(blk b4 24 [vr]), (sl vr 2 R.length (pairs R)), (runsR false vu lv rs)] ∧ (k1 ≤ rs.length) ∧ (∀ i, i < k1 → runB R.length (rs.getD i run0) = true)) (fun k1 => rs.length - k1) 0 ⟨hA75.as _ rfl, hS38, by omega, (fun _ h => absurd h (Nat.not_lt_zero _))⟩ ?_
    clear hA75 hS38 a73
    rintro k1 a76 w78 ⟨hA77, hS79, hkk1, hrun⟩
    refine c_seq ?_
    refine c_seq ?_
    refine c_region ?_
    refine st hA77 (op_move rfl (hA77.ev rfl)) rfl rfl (by decide) fun a80 hA81 => ?_; clear hA77 a76
    refine st hA81 (op_move rfl (hA81.ev rfl)) rfl rfl (by decide) fun a82 hA83 => ?_; clear hA81 a80
    refine st hA83 (op_lenS rfl un_25 (hA83.ev rfl) (runs_at (hS79.ok 2 _ rfl)).runs) rfl rfl (by decide) fun a84 hA85 => ?_; clear hA83 a82
    refine st hA85 (op_lss rfl (hA85.ev rfl) (hA85.ev rfl)) rfl rfl (by decide) fun a86 hA87 => ?_; clear hA85 a84
    refine wl_nil ?_
    refine then_n ?_
    by_cases hb88 : (k1 : Int) < (rs.length : Int)
    ·skip
     rw [decide_eq_true hb88] at hA87
     have hs8 := of_decide_eq_true (hn k1 (by omega))
     refine c_true hA87 rfl ?_
     refine c_skip ?_
     refine then_n ?_
     refine c_seq ?_
     refine c_block ?_
     refine c_seq ?_
     refine c_seq ?_
     refine c_region ?_
     refine st hA87 (op_move rfl (hA87.ev rfl)) rfl rfl (by decide) fun a89 hA90 => ?_; clear hA87 a86
     refine st hA90 (op_move rfl (hA90.ev rfl)) rfl rfl (by decide) fun a91 hA92 => ?_; clear hA90 a89
     refine st hA92 (op_indexS rfl un_25 ty_54 (hA92.ev rfl) (i := k1) (hA92.ev rfl) (runs_at (hS79.ok 2 _ rfl)).runs (by decide) (by omega)) rfl rfl (by decide) fun a93 hA94 => ?_; clear hA92 a91
     refine st hA94 (op_fieldS rfl fd_54_1 (hA94.ev rfl) (runs_at (hS79.ok 2 _ rfl)).runs (by rw [((runs_at (hS79.ok 2 _ rfl)).runs).1]; omega)) rfl rfl (by decide) fun a95 hA96 => ?_; clear hA94 a93
     refine st hA96 (op_loadAE rfl ty_48 (hA96.ev rfl) (runs_at (hS79.ok 2 _ rfl)).runs (runs_sub (runs_at (hS79.ok 2 _ rfl)).len (by omega)) rfl (by decide)) rfl rfl (by decide) fun a97 hA98 => ?_; clear hA96 a95
     refine stw hA98 (op_alloc hS79 rfl ze_48 (cs := [(Value.int .i64 0), (Value.int .i64 0)]) rfl) rfl rfl (by decide) ?_
     rintro a99 _ w101 ⟨b102, rfl, hS103⟩ hA100; clear hA98 hS79 a97
     refine sts hA100 (op_store hS103 rfl ty_48 (hA100.ev rfl) (hA100.ev rfl) (i := 0) rfl (vs := [(Value.int .i64 ((rs.getD k1 run0).lo)), (Value.int .i64 ((rs.getD k1 run0).hi))]) rfl rfl rfl (Nat.le_of_ble_eq_true rfl)) rfl rfl ?_
     intro _ w104 hS105 hA106; clear hA100
     have hS107 : Sep NoB w w104 [(blk b102 48 [(Value.int .i64 ((rs.getD k1 run0).lo)), (Value.int .i64 ((rs.getD k1 run0).hi))]), (blk b4 24 [vr]), (sl vr 2 R.length (pairs R)), (runsR false vu lv rs)] := hS105; clear hS105 hS103
     refine wl_nil ?_
     refine then_n ?_
     refine c_seq ?_
     have hA108 := hA106.as [(8, (bptr b102 0)), (7, (Value.int .i64 (k1 : Int))), (2, (bptr b4 0)), (1, vu)] rfl; clear hA106
     refine c_region ?_
     refine st hA108 (op_field rfl fd_48_0 (hA108.ev rfl)) rfl rfl (by decide) fun a109 hA110 => ?_; clear hA108 a99
     refine st hA110 (op_load1 rfl ty_3 (hA110.ev rfl) (hS107.bk 0 rfl) rfl) rfl rfl (by decide) fun a111 hA112 => ?_; clear hA110 a109
     refine st hA112 (op_field rfl fd_48_1 (hA112.ev rfl)) rfl rfl (by decide) fun a113 hA114 => ?_; clear hA112 a111
     refine st hA114 (op_load1 rfl ty_3 (hA114.ev rfl) (hS107.bk 0 rfl) rfl) rfl rfl (by decide) fun a115 hA116 => ?_; clear hA114 a113
     refine stw hA116 (op_call rfl en_24 (ev3 (hA116.ev rfl) (evc _ _) (hA116.ev rfl)) (In_ok _ _ _ _)) rfl rfl (by decide) ?_
     rintro a117 _ W_ ⟨rfl, hW_⟩ hA118; have hW2_ := hW_.symm; subst hW2_; clear hW_ hA116 a115
     refine st hA118 (op_not rfl (hA118.ev rfl)) rfl rfl (by decide) fun a120 hA121 => ?_; clear hA118 a117
     refine st hA121 (op_move rfl (hA121.ev rfl)) rfl rfl (by decide) fun a122 hA123 => ?_; clear hA121 a120
     rcases Bool.eq_false_or_eq_true ((decide (0 ≤ ((rs.getD k1 run0).lo)) && decide (((rs.getD k1 run0).lo) ≤ ((rs.getD k1 run0).hi)))) with hb124 | hb124
     ·skip
      rw [hb124] at hA123
      have hq125 := hb124; simp only [Bool.and_eq_true, Bool.and_eq_false_iff, decide_eq_true_eq, decide_eq_false_iff_not] at hq125
      refine stg hA123 (op_field rfl fd_48_1 (hA123.ev rfl)) rfl rfl rfl rfl (by decide) fun a126 hA127 => ?_; clear hA123 a122
      refine stg hA127 (op_load1 rfl ty_3 (hA127.ev rfl) (hS107.bk 0 rfl) rfl) rfl rfl rfl rfl (by decide) fun a128 hA129 => ?_; clear hA127 a126
      refine stg hA129 (op_gtr rfl (hA129.ev rfl) (evc _ _)) rfl rfl rfl rfl (by decide) fun a130 hA131 => ?_; clear hA129 a128
      refine st hA131 (op_pick_f rfl (hA131.ev rfl) (hA131.ev rfl)) rfl rfl (by decide) fun a132 hA133 => ?_; clear hA131 a130
      refine wl_nil ?_
      refine then_n ?_
      by_cases hb134 : 10000000000 < ((rs.getD k1 run0).hi)
      ·skip
       rw [decide_eq_true hb134] at hA133
       refine c_true hA133 rfl ?_
       refine c_seq ?_
       have hA135 := hA133.as [] rfl; clear hA133
       refine c_region ?_
       refine st hA135 (op_assign rfl (evc _ _)) rfl rfl (by decide) fun a136 hA137 => ?_; clear hA135 a132
       refine wl_nil ?_
       refine then_n ?_
       refine c_ret ?_
       refine then_ret ?_
       refine blk_ret ?_
       refine then_ret ?_
       refine then_ret ?_
       refine blk_ret ?_
       refine then_ret ?_
       refine fin_run hA137 (.inl rfl) (run_results1 hA137 rfl (.tmp rfl)) ?_
       exact ⟨ret_int (Eq.symm (by first | exact enter_1 (by assumption) (by omega) (all_yes (fun i hi => hn i (by omega))) (all_no (k := k1) (by omega) (by unfold runB uptoB; simp only [Bool.and_eq_false_iff, decide_eq_false_iff_not]; omega)) | exact enter_1 (by assumption) (by omega) (all_yes (fun i hi => hn i (by omega))) (all_no (k := k1) (by omega) (runB_no (k := k2) (by omega) (by assumption))))), hS107.ext⟩
      ·skip
       rw [decide_eq_false hb134] at hA133
       refine c_false hA133 rfl ?_
       refine c_skip ?_
       refine then_n ?_
       refine c_seq ?_
       have hA138 := hA133.as [(7, (Value.int .i64 (k1 : Int))), (2, (bptr b4 0)), (1, vu)] rfl; clear hA133
       refine c_region ?_
       refine st hA138 (op_assign rfl (evc _ _)) rfl rfl (by decide) fun a139 hA140 => ?_; clear hA138 a132
       refine wl_nil ?_
       refine then_n ?_
       refine c_block ?_
       have hA141 := hA140.as [(9, (Value.int .i64 0)), (7, (Value.int .i64 (k1 : Int))), (2, (bptr b4 0)), (1, vu)] rfl; clear hA140
       refine c_loop (G := Nat) (fun (k2 : Nat) a_ w_ => Fr 74 [] [(9, (Value.int .i64 (k2 : Int))), (7, (Value.int .i64 (k1 : Int))), (2, (bptr b4 0)), (1, vu)] a_ ∧ Sep NoB w w_ [(blk b102 48 [(Value.int .i64 ((rs.getD k1 run0).lo)), (Value.int .i64 ((rs.getD k1 run0).hi))]), (blk b4 24 [vr]), (sl vr 2 R.length (pairs R)), (runsR false vu lv rs)] ∧ (k2 ≤ (rs.getD k1 run0).segs.length) ∧ (∀ i, i < k2 → segB R.length ((rs.getD k1 run0).segs.getD i (0, 0, 0)) = true)) (fun k2 => (rs.getD k1 run0).segs.length - k2) 0 ⟨hA141.as _ rfl, hS107, by omega, (fun _ h => absurd h (Nat.not_lt_zero _))⟩ ?_
       clear hA141 hS107 a139
       rintro k2 a142 w144 ⟨hA143, hS145, hkk2, hsg⟩
       refine c_seq ?_
       refine c_seq ?_
       refine c_region ?_
       refine st hA143 (op_move rfl (hA143.ev rfl)) rfl rfl (by decide) fun a146 hA147 => ?_; clear hA143 a142
       refine st hA147 (op_move rfl (hA147.ev rfl)) rfl rfl (by decide) fun a148 hA149 => ?_; clear hA147 a146
       refine st hA149 (op_move rfl (hA149.ev rfl)) rfl rfl (by decide) fun a150 hA151 => ?_; clear hA149 a148
       refine st hA151 (op_indexS rfl un_25 ty_54 (hA151.ev rfl) (i := k1) (hA151.ev rfl) (runs_at (hS145.ok 3 _ rfl)).runs (by decide) (by omega)) rfl rfl (by decide) fun a152 hA153 => ?_; clear hA151 a150
       refine st hA153 (op_fieldS rfl fd_54_0 (hA153.ev rfl) (runs_at (hS145.ok 3 _ rfl)).runs (by rw [((runs_at (hS145.ok 3 _ rfl)).runs).1]; omega)) rfl rfl (by decide) fun a154 hA155 => ?_; clear hA153 a152
       refine st hA155 (op_load1E rfl ty_51 (hA155.ev rfl) (runs_at (hS145.ok 3 _ rfl)).runs (runs_at0 (runs_at (hS145.ok 3 _ rfl)).len (by omega))) rfl rfl (by decide) fun a156 hA157 => ?_; clear hA155 a154
       refine st hA157 (op_lenS rfl un_51 (hA157.ev rfl) ((runs_at (hS145.ok 3 _ rfl)).segs k1 (by omega))) rfl rfl (by decide) fun a158 hA159 => ?_; clear hA157 a156
       refine st hA159 (op_lss rfl (hA159.ev rfl) (hA159.ev rfl)) rfl rfl (by decide) fun a160 hA161 => ?_; clear hA159 a158
       refine wl_nil ?_
       refine then_n ?_
       by_cases hb162 : (k2 : Int) < ((rs.getD k1 run0).segs.length : Int)
       ·skip
        rw [decide_eq_true hb162] at hA161
        refine c_true hA161 rfl ?_
        refine c_skip ?_
        refine then_n ?_
        refine c_seq ?_
        refine c_block ?_
        refine c_seq ?_
        have hA163 := hA161.as [(9, (Value.int .i64 (k2 : Int))), (7, (Value.int .i64 (k1 : Int))), (2, (bptr b4 0)), (1, vu)] rfl; clear hA161
        have hA164 := hA163.as [(9, (Value.int .i64 (k2 : Int))), (7, (Value.int .i64 (k1 : Int))), (2, (bptr b4 0)), (1, vu)] rfl; clear hA163
        refine c_drawV mixed hA164 hS145 9 [[], [], [], [1, 2], [3], [4], [], [5, 6], [7]] [(fun (vs165 : Nat → Value) (v_ : Value) (rs_ : List Res) => v_ = (Value.agg #[vr]) ∧ rs_ = []), (fun (vs165 : Nat → Value) (v_ : Value) (rs_ : List Res) => v_ = vu ∧ rs_ = []), (fun (vs165 : Nat → Value) (v_ : Value) (rs_ : List Res) => v_ = (Value.int .i64 (k1 : Int)) ∧ rs_ = []), (fun (vs165 : Nat → Value) (v_ : Value) (rs_ : List Res) => v_ = (eptr vu (k1 * 3)) ∧ rs_ = []), (fun (vs165 : Nat → Value) (v_ : Value) (rs_ : List Res) => v_ = (eptr vu (k1 * 3 + 0)) ∧ rs_ = []), (fun (vs165 : Nat → Value) (v_ : Value) (rs_ : List Res) => v_ = (lv.getD k1 nilS) ∧ rs_ = []), (fun (vs165 : Nat → Value) (v_ : Value) (rs_ : List Res) => v_ = (Value.int .i64 (k2 : Int)) ∧ rs_ = []), (fun (vs165 : Nat → Value) (v_ : Value) (rs_ : List Res) => v_ = (eptr (lv.getD k1 nilS) (k2 * 3)) ∧ rs_ = []), (fun (vs165 : Nat → Value) (v_ : Value) (rs_ : List Res) => v_ = (Value.agg #[(Value.int .i64 ((((rs.getD k1 run0).segs).getD k2 (0, 0, 0)).1)), (Value.int .i64 ((((rs.getD k1 run0).segs).getD k2 (0, 0, 0)).2.1)), (Value.int .i64 ((((rs.getD k1 run0).segs).getD k2 (0, 0, 0)).2.2))]) ∧ rs_ = [])] (by decide +kernel) (by decide +kernel) rfl rfl ⟨(fun _ _ _ _ _ h_ => h_), (fun _ _ _ _ _ h_ => h_), (fun _ _ _ _ _ h_ => h_), (fun _ _ _ _ _ h_ => h_), (fun _ _ _ _ _ h_ => h_), (fun _ _ _ _ _ h_ => h_), (fun _ _ _ _ _ h_ => h_), (fun _ _ _ _ _ h_ => h_), (fun _ _ _ _ _ h_ => h_), trivial⟩ ?_ ?_
        ·skip
         refine ⟨fun a w vs165 hA hS hd => ?_, ?_⟩
         ·skip
          exact opG_of rfl (vv (op_loadA rfl ty_24 (hA.ev rfl) (hS.bk 1 rfl) (l := [vr]) rfl rfl) (And.intro rfl rfl))
         refine ⟨fun a w vs165 hA hS hd => ?_, ?_⟩
         ·skip
          exact opG_of rfl (vv (op_move rfl (hA.ev rfl)) (And.intro rfl rfl))
         refine ⟨fun a w vs165 hA hS hd => ?_, ?_⟩
         ·skip
          exact opG_of rfl (vv (op_move rfl (hA.ev rfl)) (And.intro rfl rfl))
         refine ⟨fun a w vs165 hA hS hd => ?_, ?_⟩
         ·skip
          obtain ⟨e1, rs1, hy1, hp1⟩ := hd 1 (by decide)
          obtain ⟨hv1, hr1⟩ := hy1; subst hr1
          rw [hv1] at e1
          obtain ⟨e2, rs2, hy2, hp2⟩ := hd 2 (by decide)
          obtain ⟨hv2, hr2⟩ := hy2; subst hr2
          rw [hv2] at e2
          exact opG_of rfl (vv (op_indexS rfl un_25 ty_54 (tmp_ev (slot_ev e1 rfl)) (i := k1) (tmp_ev (slot_ev e2 rfl)) (runs_at (hS.ok 3 _ rfl)).runs (by decide) (by omega)) (And.intro rfl rfl))
         refine ⟨fun a w vs165 hA hS hd => ?_, ?_⟩
         ·skip
          obtain ⟨e3, rs3, hy3, hp3⟩ := hd 3 (by decide)
          obtain ⟨hv3, hr3⟩ := hy3; subst hr3
          rw [hv3] at e3
          exact opG_of rfl (vv (op_fieldS rfl fd_54_0 (tmp_ev (slot_ev e3 rfl)) (runs_at (hS.ok 3 _ rfl)).runs (by rw [((runs_at (hS.ok 3 _ rfl)).runs).1]; omega)) (And.intro rfl rfl))
         refine ⟨fun a w vs165 hA hS hd => ?_, ?_⟩
         ·skip
          obtain ⟨e4, rs4, hy4, hp4⟩ := hd 4 (by decide)
          obtain ⟨hv4, hr4⟩ := hy4; subst hr4
          rw [hv4] at e4
          exact opG_of rfl (vv (op_load1E rfl ty_51 (tmp_ev (slot_ev e4 rfl)) (runs_at (hS.ok 3 _ rfl)).runs (runs_at0 (runs_at (hS.ok 3 _ rfl)).len (by omega))) (And.intro rfl rfl))
         refine ⟨fun a w vs165 hA hS hd => ?_, ?_⟩
         ·skip
          exact opG_of rfl (vv (op_move rfl (hA.ev rfl)) (And.intro rfl rfl))
         refine ⟨fun a w vs165 hA hS hd => ?_, ?_⟩
         ·skip
          obtain ⟨e5, rs5, hy5, hp5⟩ := hd 5 (by decide)
          obtain ⟨hv5, hr5⟩ := hy5; subst hr5
          rw [hv5] at e5
          obtain ⟨e6, rs6, hy6, hp6⟩ := hd 6 (by decide)
          obtain ⟨hv6, hr6⟩ := hy6; subst hr6
          rw [hv6] at e6
          exact opG_of rfl (vv (op_indexS rfl un_51 ty_56 (tmp_ev (slot_ev e5 rfl)) (i := k2) (tmp_ev (slot_ev e6 rfl)) ((runs_at (hS.ok 3 _ rfl)).segs k1 (by omega)) (by decide) (by omega)) (And.intro rfl rfl))
         refine ⟨fun a w vs165 hA hS hd => ?_, ?_⟩
         ·skip
          obtain ⟨e7, rs7, hy7, hp7⟩ := hd 7 (by decide)
          obtain ⟨hv7, hr7⟩ := hy7; subst hr7
          rw [hv7] at e7
          exact opG_of rfl (vv (op_loadAE rfl ty_56 (tmp_ev (slot_ev e7 rfl)) ((runs_at (hS.ok 3 _ rfl)).segs k1 (by omega)) (trips_all (by omega)) rfl (by decide)) (And.intro rfl rfl))
         trivial
        intro a166 w167 vs165 rsf171 hA168 hH170 hS169; clear hA164 hS145
        obtain ⟨hs_0, hy_0⟩ := hH170 0 (by decide)
        obtain ⟨hv_0, hr_0⟩ := hy_0
        obtain ⟨hs_1, hy_1⟩ := hH170 1 (by decide)
        obtain ⟨hv_1, hr_1⟩ := hy_1
        obtain ⟨hs_2, hy_2⟩ := hH170 2 (by decide)
        obtain ⟨hv_2, hr_2⟩ := hy_2
        obtain ⟨hs_3, hy_3⟩ := hH170 3 (by decide)
        obtain ⟨hv_3, hr_3⟩ := hy_3
        obtain ⟨hs_4, hy_4⟩ := hH170 4 (by decide)
        obtain ⟨hv_4, hr_4⟩ := hy_4
        obtain ⟨hs_5, hy_5⟩ := hH170 5 (by decide)
        obtain ⟨hv_5, hr_5⟩ := hy_5
        obtain ⟨hs_6, hy_6⟩ := hH170 6 (by decide)
        obtain ⟨hv_6, hr_6⟩ := hy_6
        obtain ⟨hs_7, hy_7⟩ := hH170 7 (by decide)
        obtain ⟨hv_7, hr_7⟩ := hy_7
        obtain ⟨hs_8, hy_8⟩ := hH170 8 (by decide)
        obtain ⟨hv_8, hr_8⟩ := hy_8
        have hS172 : Sep NoB w w167 [(blk b102 48 [(Value.int .i64 ((rs.getD k1 run0).lo)), (Value.int .i64 ((rs.getD k1 run0).hi))]), (blk b4 24 [vr]), (sl vr 2 R.length (pairs R)), (runsR false vu lv rs)] := by rw [show catR rsf171 0 9 = ([] : List Res) by (try simp only [catR, hr_0, hr_1, hr_2, hr_3, hr_4, hr_5, hr_6, hr_7, hr_8]); (try rfl)] at hS169; exact hS169
        rw [hv_0] at hs_0
        have hA173 : Fr 74 [] [(63, (Value.agg #[vr])), (9, (Value.int .i64 (k2 : Int))), (7, (Value.int .i64 (k1 : Int))), (2, (bptr b4 0)), (1, vu)] a166 := hA168.add (slot_ev hs_0 rfl); clear hA168
        rw [hv_8] at hs_8
        have hA174 : Fr 74 [] [(71, (Value.agg #[(Value.int .i64 ((((rs.getD k1 run0).segs).getD k2 (0, 0, 0)).1)), (Value.int .i64 ((((rs.getD k1 run0).segs).getD k2 (0, 0, 0)).2.1)), (Value.int .i64 ((((rs.getD k1 run0).segs).getD k2 (0, 0, 0)).2.2))])), (63, (Value.agg #[vr])), (9, (Value.int .i64 (k2 : Int))), (7, (Value.int .i64 (k1 : Int))), (2, (bptr b4 0)), (1, vu)] a166 := hA173.add (slot_ev hs_8 rfl); clear hA173
        clear hH170 hS169 hs_0 hs_1 hs_2 hs_3 hs_4 hs_5 hs_6 hs_7 hs_8
        clear hr_0
        clear hv_0
        clear hr_1
        clear hv_1
        clear hr_2
        clear hv_2
        clear hr_3
        clear hv_3
        clear hr_4
        clear hv_4
        clear hr_5
        clear hv_5
        clear hr_6
        clear hv_6
        clear hr_7
        clear hv_7
        clear hr_8
        clear hv_8
        refine stw hA174 (op_call rfl en_62 (ev2 (hA174.ev rfl) (hA174.ev rfl)) (IsSegment_ok _ R _ (hS172.sk 2 rfl) _ _ _ (by omega))) rfl rfl (by decide) ?_
        rintro a175 _ w177 ⟨rfl, hE178⟩ hA176; have hS179 := hS172.step hE178; clear hE178 hA174 hS172 a166
        refine st hA176 (op_not rfl (hA176.ev rfl)) rfl rfl (by decide) fun a180 hA181 => ?_; clear hA176 a175
        refine wl_nil ?_
        refine then_n ?_
        rcases Bool.eq_false_or_eq_true ((segB R.length ((((rs.getD k1 run0).segs).getD k2 (0, 0, 0)).1, (((rs.getD k1 run0).segs).getD k2 (0, 0, 0)).2.1, (((rs.getD k1 run0).segs).getD k2 (0, 0, 0)).2.2))) with hb182 | hb182
        ·skip
         rw [hb182] at hA181
         refine c_false hA181 rfl ?_
         refine c_skip ?_
         refine blk_n ?_
         refine then_n ?_
         refine c_region ?_
         refine st hA181 (op_move rfl (hA181.ev rfl)) rfl rfl (by decide) fun a183 hA184 => ?_; clear hA181 a180
         refine st hA184 (op_add rfl (hA184.ev rfl) (evc _ _) (by omega) (by omega)) rfl rfl (by decide) fun a185 hA186 => ?_; clear hA184 a183
         refine st hA186 (op_assign rfl (hA186.ev rfl)) rfl rfl (by decide) fun a187 hA188 => ?_; clear hA186 a185
         refine wl_nil ?_
         exact then_n ⟨k2 + 1, ⟨hA188.as _ rfl, hS179, by omega, (fun i hi => by rcases Nat.lt_succ_iff_lt_or_eq.1 hi with h | h; exact hsg i h; subst h; assumption)⟩, by omega⟩
        ·skip
         rw [hb182] at hA181
         refine c_true hA181 rfl ?_
         refine c_seq ?_
         have hA189 := hA181.as [] rfl; clear hA181
         refine c_region ?_
         refine st hA189 (op_assign rfl (evc _ _)) rfl rfl (by decide) fun a190 hA191 => ?_; clear hA189 a180
         refine wl_nil ?_
         refine then_n ?_
         refine c_ret ?_
         refine blk_ret ?_
         refine then_ret ?_
         refine then_ret ?_
         refine blk_ret ?_
         refine blk_ret ?_
         refine then_ret ?_
         refine then_ret ?_
         refine blk_ret ?_
         refine then_ret ?_
         refine fin_run hA191 (.inl rfl) (run_results1 hA191 rfl (.tmp rfl)) ?_
         exact ⟨ret_int (Eq.symm (by first | exact enter_1 (by assumption) (by omega) (all_yes (fun i hi => hn i (by omega))) (all_no (k := k1) (by omega) (by unfold runB uptoB; simp only [Bool.and_eq_false_iff, decide_eq_false_iff_not]; omega)) | exact enter_1 (by assumption) (by omega) (all_yes (fun i hi => hn i (by omega))) (all_no (k := k1) (by omega) (runB_no (k := k2) (by omega) (by assumption))))), hS179.ext⟩
       ·skip
        rw [decide_eq_false hb162] at hA161
        refine c_false hA161 rfl ?_
        refine c_exit ?_
        refine then_exit ?_
        refine then_exit ?_
        refine blk_hit ?_
        refine blk_n ?_
        refine then_n ?_
        have hA192 := hA161.as [(7, (Value.int .i64 (k1 : Int))), (2, (bptr b4 0)), (1, vu)] rfl; clear hA161
        refine c_region ?_
        refine st hA192 (op_move rfl (hA192.ev rfl)) rfl rfl (by decide) fun a193 hA194 => ?_; clear hA192 a160
        refine st hA194 (op_add rfl (hA194.ev rfl) (evc _ _) (by omega) (by omega)) rfl rfl (by decide) fun a195 hA196 => ?_; clear hA194 a193
        refine st hA196 (op_assign rfl (hA196.ev rfl)) rfl rfl (by decide) fun a197 hA198 => ?_; clear hA196 a195
        refine wl_nil ?_
        have hS199 : Sep NoB w w144 [(blk b4 24 [vr]), (sl vr 2 R.length (pairs R)), (runsR false vu lv rs)] := hS145.keep [1, 2, 3] (by decide) _ rfl rfl; clear hS145
        exact then_n ⟨k1 + 1, ⟨hA198.as _ rfl, hS199, by omega, (fun i hi => by rcases Nat.lt_succ_iff_lt_or_eq.1 hi with h | h; exact hrun i h; subst h; exact runB_yes (by omega) (fun i hi => hsg i (by omega)))⟩, by omega⟩
     ·skip
      rw [hb124] at hA123
      have hq200 := hb124; simp only [Bool.and_eq_true, Bool.and_eq_false_iff, decide_eq_true_eq, decide_eq_false_iff_not] at hq200
      refine skp hA123 rfl rfl rfl rfl rfl (by decide) fun a201 hA202 => ?_; clear hA123 a122
      refine skp hA202 rfl rfl rfl rfl rfl (by decide) fun a203 hA204 => ?_; clear hA202 a201
      refine skp hA204 rfl rfl rfl rfl rfl (by decide) fun a205 hA206 => ?_; clear hA204 a203
      refine st hA206 (op_pick_t rfl (hA206.ev rfl) (evc _ _)) rfl rfl (by decide) fun a207 hA208 => ?_; clear hA206 a205
      refine wl_nil ?_
      refine then_n ?_
      refine c_true hA208 rfl ?_
      refine c_seq ?_
      have hA209 := hA208.as [] rfl; clear hA208
      refine c_region ?_
      refine st hA209 (op_assign rfl (evc _ _)) rfl rfl (by decide) fun a210 hA211 => ?_; clear hA209 a207
      refine wl_nil ?_
      refine then_n ?_
      refine c_ret ?_
      refine then_ret ?_
      refine blk_ret ?_
      refine then_ret ?_
      refine then_ret ?_
      refine blk_ret ?_
      refine then_ret ?_
      refine fin_run hA211 (.inl rfl) (run_results1 hA211 rfl (.tmp rfl)) ?_
      exact ⟨ret_int (Eq.symm (by first | exact enter_1 (by assumption) (by omega) (all_yes (fun i hi => hn i (by omega))) (all_no (k := k1) (by omega) (by unfold runB uptoB; simp only [Bool.and_eq_false_iff, decide_eq_false_iff_not]; omega)) | exact enter_1 (by assumption) (by omega) (all_yes (fun i hi => hn i (by omega))) (all_no (k := k1) (by omega) (runB_no (k := k2) (by omega) (by assumption))))), hS107.ext⟩
    ·skip
     rw [decide_eq_false hb88] at hA87
     refine c_false hA87 rfl ?_
     refine c_exit ?_
     refine then_exit ?_
     refine then_exit ?_
     refine blk_hit ?_
     refine then_n ?_
     refine c_seq ?_
     have hA212 := hA87.as [] rfl; clear hA87
     refine c_region ?_
     refine st hA212 (op_assign rfl (evc _ _)) rfl rfl (by decide) fun a213 hA214 => ?_; clear hA212 a86
     refine wl_nil ?_
     refine then_n ?_
     refine c_ret ?_
     refine fin_run hA214 (.inl rfl) (run_results1 hA214 rfl (.tmp rfl)) ?_
     exact ⟨ret_int (Eq.symm (enter_0 (by assumption) (by omega) (all_yes (fun i hi => hn i (by omega))) (all_yes (fun i hi => hrun i (by omega))))), hS79.ext⟩
 ·skip
  rw [decide_eq_false hb21] at hA20
  refine c_true hA20 rfl ?_
  refine c_seq ?_
  have hA215 := hA20.as [(5, (Value.int .i64 (checkF R)))] rfl; clear hA20
  refine c_region ?_
  refine st hA215 (op_move rfl (hA215.ev rfl)) rfl rfl (by decide) fun a216 hA217 => ?_; clear hA215 a19
  refine st hA217 (op_assign rfl (hA217.ev rfl)) rfl rfl (by decide) fun a218 hA219 => ?_; clear hA217 a216
  refine wl_nil ?_
  refine then_n ?_
  refine c_ret ?_
  refine then_ret ?_
  refine fin_run hA219 (.inl rfl) (run_results1 hA219 rfl (.tmp rfl)) ?_
  exact ⟨ret_int (Eq.symm (enter_c (by assumption))), hS14.ext⟩
set_option maxHeartbeats 1000000 in
theorem fault_ok (w : World) (R : List (Int × Int)) (vr : Value) (hm : SlAt w vr 2 R.length (pairs R)) (rs : List RunD) (lv : List Value) (vu : Value) (hx : RunsAt w vu lv rs) :
  Calls Try.prog 41 #[(Value.agg #[vr]), vu] w (Ret fun v w' => v = .int .i64 (enterF R rs) ∧ Ext NoB w w') := by
 refine calls_enter Try.func41 rfl fun a0 hA0 => ?_
 replace hA0 : Fr 8 [] [(0, (Value.agg #[vr])), (1, vu)] a0 := hA0
 have hS0 : Sep NoB w w [(sl vr 2 R.length (pairs R)), (runsR false vu lv rs)] := sep_ro ⟨rfl, hm, rfl, hx, trivial⟩
 refine c_seq ?_
 refine c_region ?_
 refine stw hA0 (op_box hS0 rfl (hA0.ev rfl) (cs := [vr]) rfl) rfl rfl (by decide) ?_
 rintro a1 _ w3 ⟨b4, rfl, hS5⟩ hA2; clear hA0 hS0 a0
 refine st hA2 (op_assign rfl (evc _ _)) rfl rfl (by decide) fun a6 hA7 => ?_; clear hA2 a1
 refine wl_nil ?_
 refine then_n ?_
 refine c_seq ?_
 refine c_region ?_
 refine st hA7 (op_loadA rfl ty_24 (hA7.ev rfl) (hS5.bk 0 rfl) (l := [vr]) rfl rfl) rfl rfl (by decide) fun a8 hA9 => ?_; clear hA7 a6
 refine st hA9 (op_move rfl (hA9.ev rfl)) rfl rfl (by decide) fun a10 hA11 => ?_; clear hA9 a8
 refine stw hA11 (op_call rfl en_69 (ev2 (hA11.ev rfl) (hA11.ev rfl)) (Fault_ok _ R _ (hS5.sk 1 rfl) rs _ _ (runs_at (hS5.ok 2 _ rfl)))) rfl rfl (by decide) ?_
 rintro a12 _ w14 ⟨rfl, hE15⟩ hA13; have hS16 := hS5.step hE15; clear hE15 hA11 hS5 a10
 refine st hA13 (op_assign rfl (hA13.ev rfl)) rfl rfl (by decide) fun a17 hA18 => ?_; clear hA13 a12
 refine wl_nil ?_
 refine then_n ?_
 refine c_ret ?_
 refine fin_run hA18 (.inl rfl) (run_results1 hA18 rfl (.tmp rfl)) ?_
 exact ⟨rfl, hS16.ext⟩
set_option maxHeartbeats 1000000 in
theorem rStretch_ok (w : World) (segs : List Seg) (vs : Value) (hv : SlAt w vs 3 segs.length (trips segs)) (hsl : segs.length ≤ 12) (l : List Int) (xl : Value) (hxl : SlAt w xl 1 l.length (ints l)) (n : Nat) (hn : n ≤ 3) (hln : n ≤ l.length) (hr : ∀ i, 0 ≤ l.getD i 0 ∧ l.getD i 0 ≤ 1000) (hs : ∀ i, i < segs.length → SegV n (segs.getD i (0, 0, 0))) :
  Calls Try.prog 34 #[vs, xl] w (Ret fun v w' => v = .agg #[.int .i64 (stLo segs l), .int .i64 (stHi segs l)] ∧ Ext NoB w w') := by
 refine calls_enter Try.func34 rfl fun a0 hA0 => ?_
 replace hA0 : Fr 44 [] [(0, vs), (1, xl)] a0 := hA0
 have hS0 : Sep NoB w w [(sl vs 3 segs.length (trips segs)), (sl xl 1 l.length (ints l))] := sep_ro ⟨rfl, hv, rfl, hxl, trivial⟩
 refine c_seq ?_
 refine c_region ?_
 refine stw hA0 (op_alloc hS0 rfl ze_48 (cs := [(Value.int .i64 0), (Value.int .i64 0)]) rfl) rfl rfl (by decide) ?_
 rintro a1 _ w3 ⟨b4, rfl, hS5⟩ hA2; clear hA0 hS0 a0
 refine wl_nil ?_
 refine then_n ?_
 refine c_seq ?_
 refine c_region ?_
 refine stw hA2 (op_alloc hS5 rfl ze_48 (cs := [(Value.int .i64 0), (Value.int .i64 0)]) rfl) rfl rfl (by decide) ?_
 rintro a6 _ w8 ⟨b9, rfl, hS10⟩ hA7; clear hA2 hS5 a1
 refine wl_nil ?_
 refine then_n ?_
 refine c_seq ?_
 refine c_seq ?_
 refine c_region ?_
 refine st hA7 (op_assign rfl (evc _ _)) rfl rfl (by decide) fun a11 hA12 => ?_; clear hA7 a6
 refine wl_nil ?_
 refine then_n ?_
 refine c_block ?_
 have hA13 := hA12.as [(6, (Value.int .i64 0)), (5, (bptr b9 0)), (4, (bptr b4 0)), (0, vs), (1, xl)] rfl; clear hA12
 refine c_loop (G := Nat) (fun (k : Nat) a_ w_ => Fr 44 [] [(6, (Value.int .i64 (k : Int))), (5, (bptr b9 0)), (4, (bptr b4 0)), (0, vs), (1, xl)] a_ ∧ Sep NoB w w_ [(blk b9 48 [(Value.int .i64 (stU segs l Prod.fst k)), (Value.int .i64 (stU segs l Prod.snd k))]), (blk b4 48 [(Value.int .i64 0), (Value.int .i64 0)]), (sl vs 3 segs.length (trips segs)), (sl xl 1 l.length (ints l))] ∧ (k ≤ segs.length)) (fun k => segs.length - k) 0 ⟨hA13.as _ rfl, hS10, by omega⟩ ?_
 clear hA13 hS10 a11
 rintro k a14 w16 ⟨hA15, hS17, hk⟩
 have hb1 := stU_bd (f := Prod.fst) hr hs (fun p => .inl rfl) k hk; have hb2 := stU_bd (f := Prod.snd) hr hs (fun p => .inr rfl) k hk
 refine c_seq ?_
 refine c_seq ?_
 refine c_region ?_
 refine st hA15 (op_move rfl (hA15.ev rfl)) rfl rfl (by decide) fun a18 hA19 => ?_; clear hA15 a14
 refine st hA19 (op_move rfl (hA19.ev rfl)) rfl rfl (by decide) fun a20 hA21 => ?_; clear hA19 a18
 refine st hA21 (op_lenS rfl un_51 (hA21.ev rfl) (hS17.sk 2 rfl)) rfl rfl (by decide) fun a22 hA23 => ?_; clear hA21 a20
 refine st hA23 (op_lss rfl (hA23.ev rfl) (hA23.ev rfl)) rfl rfl (by decide) fun a24 hA25 => ?_; clear hA23 a22
 refine wl_nil ?_
 refine then_n ?_
 by_cases hb26 : (k : Int) < (segs.length : Int)
 ·skip
  rw [decide_eq_true hb26] at hA25
  have hsk := hs k (by omega); have hsb := hsk.b; have hsh := hsk.h; have hm1 := mul_bd (hr (segs.getD k (0, 0, 0)).1.toNat) (b := (segs.getD k (0, 0, 0)).2.1) (by omega); have hm2 := mul_bd (hr (segs.getD k (0, 0, 0)).1.toNat) (b := (segs.getD k (0, 0, 0)).2.2) (by omega)
  refine c_true hA25 rfl ?_
  refine c_skip ?_
  refine then_n ?_
  refine c_seq ?_
  refine c_block ?_
  refine c_seq ?_
  refine c_region ?_
  refine st hA25 (op_move rfl (hA25.ev rfl)) rfl rfl (by decide) fun a27 hA28 => ?_; clear hA25 a24
  refine st hA28 (op_move rfl (hA28.ev rfl)) rfl rfl (by decide) fun a29 hA30 => ?_; clear hA28 a27
  refine st hA30 (op_indexS rfl un_51 ty_56 (hA30.ev rfl) (i := k) (hA30.ev rfl) (hS17.sk 2 rfl) (by decide) (by omega)) rfl rfl (by decide) fun a31 hA32 => ?_; clear hA30 a29
  refine st hA32 (op_loadAE rfl ty_56 (hA32.ev rfl) (hS17.sk 2 rfl) (trips_all (by omega)) rfl (by decide)) rfl rfl (by decide) fun a33 hA34 => ?_; clear hA32 a31
  refine stw hA34 (op_alloc hS17 rfl ze_56 (cs := [(Value.int .i64 0), (Value.int .i64 0), (Value.int .i64 0)]) rfl) rfl rfl (by decide) ?_
  rintro a35 _ w37 ⟨b38, rfl, hS39⟩ hA36; clear hA34 hS17 a33
  refine sts hA36 (op_store hS39 rfl ty_56 (hA36.ev rfl) (hA36.ev rfl) (i := 0) rfl (vs := [(Value.int .i64 ((segs.getD k (0, 0, 0)).1)), (Value.int .i64 ((segs.getD k (0, 0, 0)).2.1)), (Value.int .i64 ((segs.getD k (0, 0, 0)).2.2))]) rfl rfl rfl (Nat.le_of_ble_eq_true rfl)) rfl rfl ?_
  intro _ w40 hS41 hA42; clear hA36
  have hS43 : Sep NoB w w40 [(blk b38 56 [(Value.int .i64 ((segs.getD k (0, 0, 0)).1)), (Value.int .i64 ((segs.getD k (0, 0, 0)).2.1)), (Value.int .i64 ((segs.getD k (0, 0, 0)).2.2))]), (blk b9 48 [(Value.int .i64 (stU segs l Prod.fst k)), (Value.int .i64 (stU segs l Prod.snd k))]), (blk b4 48 [(Value.int .i64 0), (Value.int .i64 0)]), (sl vs 3 segs.length (trips segs)), (sl xl 1 l.length (ints l))] := hS41; clear hS41 hS39
  refine wl_nil ?_
  refine then_n ?_
  have hA44 := hA42.as [(7, (bptr b38 0)), (6, (Value.int .i64 (k : Int))), (5, (bptr b9 0)), (4, (bptr b4 0)), (0, vs), (1, xl)] rfl; clear hA42
  have hA45 := hA44.as [(7, (bptr b38 0)), (6, (Value.int .i64 (k : Int))), (5, (bptr b9 0)), (4, (bptr b4 0)), (0, vs), (1, xl)] rfl; clear hA44
  refine c_drawV mixed hA45 hS43 24 [[], [0], [], [], [3], [2, 4], [5], [], [7], [8], [6, 9], [1, 10], [], [12], [], [], [15], [14, 16], [17], [], [19], [20], [18, 21], [13, 22]] [(fun (vs46 : Nat → Value) (v_ : Value) (rs_ : List Res) => v_ = (bptr b9 0) ∧ rs_ = []), (fun (vs46 : Nat → Value) (v_ : Value) (rs_ : List Res) => v_ = (Value.int .i64 (stU segs l Prod.fst k)) ∧ rs_ = []), (fun (vs46 : Nat → Value) (v_ : Value) (rs_ : List Res) => v_ = xl ∧ rs_ = []), (fun (vs46 : Nat → Value) (v_ : Value) (rs_ : List Res) => v_ = (bptr b38 0) ∧ rs_ = []), (fun (vs46 : Nat → Value) (v_ : Value) (rs_ : List Res) => v_ = (Value.int .i64 ((segs.getD k (0, 0, 0)).1)) ∧ rs_ = []), (fun (vs46 : Nat → Value) (v_ : Value) (rs_ : List Res) => v_ = (eptr xl (((segs.getD k (0, 0, 0)).1).toNat * 1)) ∧ rs_ = []), (fun (vs46 : Nat → Value) (v_ : Value) (rs_ : List Res) => v_ = (Value.int .i64 (l.getD (((segs.getD k (0, 0, 0)).1).toNat) 0)) ∧ rs_ = []), (fun (vs46 : Nat → Value) (v_ : Value) (rs_ : List Res) => v_ = (bptr b38 1) ∧ rs_ = []), (fun (vs46 : Nat → Value) (v_ : Value) (rs_ : List Res) => v_ = (bptr b38 1) ∧ rs_ = []), (fun (vs46 : Nat → Value) (v_ : Value) (rs_ : List Res) => v_ = (Value.int .i64 ((segs.getD k (0, 0, 0)).2.1)) ∧ rs_ = []), (fun (vs46 : Nat → Value) (v_ : Value) (rs_ : List Res) => v_ = (Value.int .i64 ((l.getD (((segs.getD k (0, 0, 0)).1).toNat) 0) * ((segs.getD k (0, 0, 0)).2.1))) ∧ rs_ = []), (fun (vs46 : Nat → Value) (v_ : Value) (rs_ : List Res) => v_ = (Value.int .i64 ((stU segs l Prod.fst k) + ((l.getD (((segs.getD k (0, 0, 0)).1).toNat) 0) * ((segs.getD k (0, 0, 0)).2.1)))) ∧ rs_ = []), (fun (vs46 : Nat → Value) (v_ : Value) (rs_ : List Res) => v_ = (bptr b9 1) ∧ rs_ = []), (fun (vs46 : Nat → Value) (v_ : Value) (rs_ : List Res) => v_ = (Value.int .i64 (stU segs l Prod.snd k)) ∧ rs_ = []), (fun (vs46 : Nat → Value) (v_ : Value) (rs_ : List Res) => v_ = xl ∧ rs_ = []), (fun (vs46 : Nat → Value) (v_ : Value) (rs_ : List Res) => v_ = (bptr b38 0) ∧ rs_ = []), (fun (vs46 : Nat → Value) (v_ : Value) (rs_ : List Res) => v_ = (Value.int .i64 ((segs.getD k (0, 0, 0)).1)) ∧ rs_ = []), (fun (vs46 : Nat → Value) (v_ : Value) (rs_ : List Res) => v_ = (eptr xl (((segs.getD k (0, 0, 0)).1).toNat * 1)) ∧ rs_ = []), (fun (vs46 : Nat → Value) (v_ : Value) (rs_ : List Res) => v_ = (Value.int .i64 (l.getD (((segs.getD k (0, 0, 0)).1).toNat) 0)) ∧ rs_ = []), (fun (vs46 : Nat → Value) (v_ : Value) (rs_ : List Res) => v_ = (bptr b38 1) ∧ rs_ = []), (fun (vs46 : Nat → Value) (v_ : Value) (rs_ : List Res) => v_ = (bptr b38 2) ∧ rs_ = []), (fun (vs46 : Nat → Value) (v_ : Value) (rs_ : List Res) => v_ = (Value.int .i64 ((segs.getD k (0, 0, 0)).2.2)) ∧ rs_ = []), (fun (vs46 : Nat → Value) (v_ : Value) (rs_ : List Res) => v_ = (Value.int .i64 ((l.getD (((segs.getD k (0, 0, 0)).1).toNat) 0) * ((segs.getD k (0, 0, 0)).2.2))) ∧ rs_ = []), (fun (vs46 : Nat → Value) (v_ : Value) (rs_ : List Res) => v_ = (Value.int .i64 ((stU segs l Prod.snd k) + ((l.getD (((segs.getD k (0, 0, 0)).1).toNat) 0) * ((segs.getD k (0, 0, 0)).2.2)))) ∧ rs_ = [])] (by decide +kernel) (by decide +kernel) rfl rfl ⟨(fun _ _ _ _ _ h_ => h_), (fun _ _ _ _ _ h_ => h_), (fun _ _ _ _ _ h_ => h_), (fun _ _ _ _ _ h_ => h_), (fun _ _ _ _ _ h_ => h_), (fun _ _ _ _ _ h_ => h_), (fun _ _ _ _ _ h_ => h_), (fun _ _ _ _ _ h_ => h_), (fun _ _ _ _ _ h_ => h_), (fun _ _ _ _ _ h_ => h_), (fun _ _ _ _ _ h_ => h_), (fun _ _ _ _ _ h_ => h_), (fun _ _ _ _ _ h_ => h_), (fun _ _ _ _ _ h_ => h_), (fun _ _ _ _ _ h_ => h_), (fun _ _ _ _ _ h_ => h_), (fun _ _ _ _ _ h_ => h_), (fun _ _ _ _ _ h_ => h_), (fun _ _ _ _ _ h_ => h_), (fun _ _ _ _ _ h_ => h_), (fun _ _ _ _ _ h_ => h_), (fun _ _ _ _ _ h_ => h_), (fun _ _ _ _ _ h_ => h_), (fun _ _ _ _ _ h_ => h_), trivial⟩ ?_ ?_
  ·skip
   refine ⟨fun a w vs46 hA hS hd => ?_, ?_⟩
   ·skip
    exact opG_of rfl (vv (op_field rfl fd_48_0 (hA.ev rfl)) (And.intro rfl rfl))
   refine ⟨fun a w vs46 hA hS hd => ?_, ?_⟩
   ·skip
    obtain ⟨e0, rs0, hy0, hp0⟩ := hd 0 (by decide)
    obtain ⟨hv0, hr0⟩ := hy0; subst hr0
    rw [hv0] at e0
    exact opG_of rfl (vv (op_load1 rfl ty_3 (tmp_ev (slot_ev e0 rfl)) (hS.bk 1 rfl) rfl) (And.intro rfl rfl))
   refine ⟨fun a w vs46 hA hS hd => ?_, ?_⟩
   ·skip
    exact opG_of rfl (vv (op_move rfl (hA.ev rfl)) (And.intro rfl rfl))
   refine ⟨fun a w vs46 hA hS hd => ?_, ?_⟩
   ·skip
    exact opG_of rfl (vv (op_field rfl fd_56_0 (hA.ev rfl)) (And.intro rfl rfl))
   refine ⟨fun a w vs46 hA hS hd => ?_, ?_⟩
   ·skip
    obtain ⟨e3, rs3, hy3, hp3⟩ := hd 3 (by decide)
    obtain ⟨hv3, hr3⟩ := hy3; subst hr3
    rw [hv3] at e3
    exact opG_of rfl (vv (op_load1 rfl ty_3 (tmp_ev (slot_ev e3 rfl)) (hS.bk 0 rfl) rfl) (And.intro rfl rfl))
   refine ⟨fun a w vs46 hA hS hd => ?_, ?_⟩
   ·skip
    obtain ⟨e2, rs2, hy2, hp2⟩ := hd 2 (by decide)
    obtain ⟨hv2, hr2⟩ := hy2; subst hr2
    rw [hv2] at e2
    obtain ⟨e4, rs4, hy4, hp4⟩ := hd 4 (by decide)
    obtain ⟨hv4, hr4⟩ := hy4; subst hr4
    rw [hv4] at e4
    exact opG_of rfl (vv (op_indexS rfl un_40 ty_3 (tmp_ev (slot_ev e2 rfl)) (i := ((segs.getD k (0, 0, 0)).1).toNat) ((tmp_ev (slot_ev e4 rfl)).trans (int_nat (by omega))) (hS.sk 4 rfl) (by decide) (by omega)) (And.intro rfl rfl))
   refine ⟨fun a w vs46 hA hS hd => ?_, ?_⟩
   ·skip
    obtain ⟨e5, rs5, hy5, hp5⟩ := hd 5 (by decide)
    obtain ⟨hv5, hr5⟩ := hy5; subst hr5
    rw [hv5] at e5
    exact opG_of rfl (vv (op_load1E rfl ty_3 (tmp_ev (slot_ev e5 rfl)) (hS.sk 4 rfl) (ints_at (by omega))) (And.intro rfl rfl))
   refine ⟨fun a w vs46 hA hS hd => ?_, ?_⟩
   ·skip
    exact opG_of rfl (vv (op_field rfl fd_56_1 (hA.ev rfl)) (And.intro rfl rfl))
   refine ⟨fun a w vs46 hA hS hd => ?_, ?_⟩
   ·skip
    obtain ⟨e7, rs7, hy7, hp7⟩ := hd 7 (by decide)
    obtain ⟨hv7, hr7⟩ := hy7; subst hr7
    rw [hv7] at e7
    exact opG_of rfl (vv (op_field rfl fd_48_0 (tmp_ev (slot_ev e7 rfl))) (And.intro rfl rfl))
   refine ⟨fun a w vs46 hA hS hd => ?_, ?_⟩
   ·skip
    obtain ⟨e8, rs8, hy8, hp8⟩ := hd 8 (by decide)
    obtain ⟨hv8, hr8⟩ := hy8; subst hr8
    rw [hv8] at e8
    exact opG_of rfl (vv (op_load1 rfl ty_3 (tmp_ev (slot_ev e8 rfl)) (hS.bk 0 rfl) rfl) (And.intro rfl rfl))
   refine ⟨fun a w vs46 hA hS hd => ?_, ?_⟩
   ·skip
    obtain ⟨e6, rs6, hy6, hp6⟩ := hd 6 (by decide)
    obtain ⟨hv6, hr6⟩ := hy6; subst hr6
    rw [hv6] at e6
    obtain ⟨e9, rs9, hy9, hp9⟩ := hd 9 (by decide)
    obtain ⟨hv9, hr9⟩ := hy9; subst hr9
    rw [hv9] at e9
    exact opG_of rfl (vv (op_mul rfl (tmp_ev (slot_ev e6 rfl)) (tmp_ev (slot_ev e9 rfl)) (by omega) (by omega)) (And.intro rfl rfl))
   refine ⟨fun a w vs46 hA hS hd => ?_, ?_⟩
   ·skip
    obtain ⟨e1, rs1, hy1, hp1⟩ := hd 1 (by decide)
    obtain ⟨hv1, hr1⟩ := hy1; subst hr1
    rw [hv1] at e1
    obtain ⟨e10, rs10, hy10, hp10⟩ := hd 10 (by decide)
    obtain ⟨hv10, hr10⟩ := hy10; subst hr10
    rw [hv10] at e10
    exact opG_of rfl (vv (op_add rfl (tmp_ev (slot_ev e1 rfl)) (tmp_ev (slot_ev e10 rfl)) (by omega) (by omega)) (And.intro rfl rfl))
   refine ⟨fun a w vs46 hA hS hd => ?_, ?_⟩
   ·skip
    exact opG_of rfl (vv (op_field rfl fd_48_1 (hA.ev rfl)) (And.intro rfl rfl))
   refine ⟨fun a w vs46 hA hS hd => ?_, ?_⟩
   ·skip
    obtain ⟨e12, rs12, hy12, hp12⟩ := hd 12 (by decide)
    obtain ⟨hv12, hr12⟩ := hy12; subst hr12
    rw [hv12] at e12
    exact opG_of rfl (vv (op_load1 rfl ty_3 (tmp_ev (slot_ev e12 rfl)) (hS.bk 1 rfl) rfl) (And.intro rfl rfl))
   refine ⟨fun a w vs46 hA hS hd => ?_, ?_⟩
   ·skip
    exact opG_of rfl (vv (op_move rfl (hA.ev rfl)) (And.intro rfl rfl))
   refine ⟨fun a w vs46 hA hS hd => ?_, ?_⟩
   ·skip
    exact opG_of rfl (vv (op_field rfl fd_56_0 (hA.ev rfl)) (And.intro rfl rfl))
   refine ⟨fun a w vs46 hA hS hd => ?_, ?_⟩
   ·skip
    obtain ⟨e15, rs15, hy15, hp15⟩ := hd 15 (by decide)
    obtain ⟨hv15, hr15⟩ := hy15; subst hr15
    rw [hv15] at e15
    exact opG_of rfl (vv (op_load1 rfl ty_3 (tmp_ev (slot_ev e15 rfl)) (hS.bk 0 rfl) rfl) (And.intro rfl rfl))
   refine ⟨fun a w vs46 hA hS hd => ?_, ?_⟩
   ·skip
    obtain ⟨e14, rs14, hy14, hp14⟩ := hd 14 (by decide)
    obtain ⟨hv14, hr14⟩ := hy14; subst hr14
    rw [hv14] at e14
    obtain ⟨e16, rs16, hy16, hp16⟩ := hd 16 (by decide)
    obtain ⟨hv16, hr16⟩ := hy16; subst hr16
    rw [hv16] at e16
    exact opG_of rfl (vv (op_indexS rfl un_40 ty_3 (tmp_ev (slot_ev e14 rfl)) (i := ((segs.getD k (0, 0, 0)).1).toNat) ((tmp_ev (slot_ev e16 rfl)).trans (int_nat (by omega))) (hS.sk 4 rfl) (by decide) (by omega)) (And.intro rfl rfl))
   refine ⟨fun a w vs46 hA hS hd => ?_, ?_⟩
   ·skip
    obtain ⟨e17, rs17, hy17, hp17⟩ := hd 17 (by decide)
    obtain ⟨hv17, hr17⟩ := hy17; subst hr17
    rw [hv17] at e17
    exact opG_of rfl (vv (op_load1E rfl ty_3 (tmp_ev (slot_ev e17 rfl)) (hS.sk 4 rfl) (ints_at (by omega))) (And.intro rfl rfl))
   refine ⟨fun a w vs46 hA hS hd => ?_, ?_⟩
   ·skip
    exact opG_of rfl (vv (op_field rfl fd_56_1 (hA.ev rfl)) (And.intro rfl rfl))
   refine ⟨fun a w vs46 hA hS hd => ?_, ?_⟩
   ·skip
    obtain ⟨e19, rs19, hy19, hp19⟩ := hd 19 (by decide)
    obtain ⟨hv19, hr19⟩ := hy19; subst hr19
    rw [hv19] at e19
    exact opG_of rfl (vv (op_field rfl fd_48_1 (tmp_ev (slot_ev e19 rfl))) (And.intro rfl rfl))
   refine ⟨fun a w vs46 hA hS hd => ?_, ?_⟩
   ·skip
    obtain ⟨e20, rs20, hy20, hp20⟩ := hd 20 (by decide)
    obtain ⟨hv20, hr20⟩ := hy20; subst hr20
    rw [hv20] at e20
    exact opG_of rfl (vv (op_load1 rfl ty_3 (tmp_ev (slot_ev e20 rfl)) (hS.bk 0 rfl) rfl) (And.intro rfl rfl))
   refine ⟨fun a w vs46 hA hS hd => ?_, ?_⟩
   ·skip
    obtain ⟨e18, rs18, hy18, hp18⟩ := hd 18 (by decide)
    obtain ⟨hv18, hr18⟩ := hy18; subst hr18
    rw [hv18] at e18
    obtain ⟨e21, rs21, hy21, hp21⟩ := hd 21 (by decide)
    obtain ⟨hv21, hr21⟩ := hy21; subst hr21
    rw [hv21] at e21
    exact opG_of rfl (vv (op_mul rfl (tmp_ev (slot_ev e18 rfl)) (tmp_ev (slot_ev e21 rfl)) (by omega) (by omega)) (And.intro rfl rfl))
   refine ⟨fun a w vs46 hA hS hd => ?_, ?_⟩
   ·skip
    obtain ⟨e13, rs13, hy13, hp13⟩ := hd 13 (by decide)
    obtain ⟨hv13, hr13⟩ := hy13; subst hr13
    rw [hv13] at e13
    obtain ⟨e22, rs22, hy22, hp22⟩ := hd 22 (by decide)
    obtain ⟨hv22, hr22⟩ := hy22; subst hr22
    rw [hv22] at e22
    exact opG_of rfl (vv (op_add rfl (tmp_ev (slot_ev e13 rfl)) (tmp_ev (slot_ev e22 rfl)) (by omega) (by omega)) (And.intro rfl rfl))
   trivial
  intro a47 w48 vs46 rsf52 hA49 hH51 hS50; clear hA45 hS43
  obtain ⟨hs_0, hy_0⟩ := hH51 0 (by decide)
  obtain ⟨hv_0, hr_0⟩ := hy_0
  obtain ⟨hs_1, hy_1⟩ := hH51 1 (by decide)
  obtain ⟨hv_1, hr_1⟩ := hy_1
  obtain ⟨hs_2, hy_2⟩ := hH51 2 (by decide)
  obtain ⟨hv_2, hr_2⟩ := hy_2
  obtain ⟨hs_3, hy_3⟩ := hH51 3 (by decide)
  obtain ⟨hv_3, hr_3⟩ := hy_3
  obtain ⟨hs_4, hy_4⟩ := hH51 4 (by decide)
  obtain ⟨hv_4, hr_4⟩ := hy_4
  obtain ⟨hs_5, hy_5⟩ := hH51 5 (by decide)
  obtain ⟨hv_5, hr_5⟩ := hy_5
  obtain ⟨hs_6, hy_6⟩ := hH51 6 (by decide)
  obtain ⟨hv_6, hr_6⟩ := hy_6
  obtain ⟨hs_7, hy_7⟩ := hH51 7 (by decide)
  obtain ⟨hv_7, hr_7⟩ := hy_7
  obtain ⟨hs_8, hy_8⟩ := hH51 8 (by decide)
  obtain ⟨hv_8, hr_8⟩ := hy_8
  obtain ⟨hs_9, hy_9⟩ := hH51 9 (by decide)
  obtain ⟨hv_9, hr_9⟩ := hy_9
  obtain ⟨hs_10, hy_10⟩ := hH51 10 (by decide)
  obtain ⟨hv_10, hr_10⟩ := hy_10
  obtain ⟨hs_11, hy_11⟩ := hH51 11 (by decide)
  obtain ⟨hv_11, hr_11⟩ := hy_11
  obtain ⟨hs_12, hy_12⟩ := hH51 12 (by decide)
  obtain ⟨hv_12, hr_12⟩ := hy_12
  obtain ⟨hs_13, hy_13⟩ := hH51 13 (by decide)
  obtain ⟨hv_13, hr_13⟩ := hy_13
  obtain ⟨hs_14, hy_14⟩ := hH51 14 (by decide)
  obtain ⟨hv_14, hr_14⟩ := hy_14
  obtain ⟨hs_15, hy_15⟩ := hH51 15 (by decide)
  obtain ⟨hv_15, hr_15⟩ := hy_15
  obtain ⟨hs_16, hy_16⟩ := hH51 16 (by decide)
  obtain ⟨hv_16, hr_16⟩ := hy_16
  obtain ⟨hs_17, hy_17⟩ := hH51 17 (by decide)
  obtain ⟨hv_17, hr_17⟩ := hy_17
  obtain ⟨hs_18, hy_18⟩ := hH51 18 (by decide)
  obtain ⟨hv_18, hr_18⟩ := hy_18
  obtain ⟨hs_19, hy_19⟩ := hH51 19 (by decide)
  obtain ⟨hv_19, hr_19⟩ := hy_19
  obtain ⟨hs_20, hy_20⟩ := hH51 20 (by decide)
  obtain ⟨hv_20, hr_20⟩ := hy_20
  obtain ⟨hs_21, hy_21⟩ := hH51 21 (by decide)
  obtain ⟨hv_21, hr_21⟩ := hy_21
  obtain ⟨hs_22, hy_22⟩ := hH51 22 (by decide)
  obtain ⟨hv_22, hr_22⟩ := hy_22
  obtain ⟨hs_23, hy_23⟩ := hH51 23 (by decide)
  obtain ⟨hv_23, hr_23⟩ := hy_23
  have hS53 : Sep NoB w w48 [(blk b38 56 [(Value.int .i64 ((segs.getD k (0, 0, 0)).1)), (Value.int .i64 ((segs.getD k (0, 0, 0)).2.1)), (Value.int .i64 ((segs.getD k (0, 0, 0)).2.2))]), (blk b9 48 [(Value.int .i64 (stU segs l Prod.fst k)), (Value.int .i64 (stU segs l Prod.snd k))]), (blk b4 48 [(Value.int .i64 0), (Value.int .i64 0)]), (sl vs 3 segs.length (trips segs)), (sl xl 1 l.length (ints l))] := by rw [show catR rsf52 0 24 = ([] : List Res) by (try simp only [catR, hr_0, hr_1, hr_2, hr_3, hr_4, hr_5, hr_6, hr_7, hr_8, hr_9, hr_10, hr_11, hr_12, hr_13, hr_14, hr_15, hr_16, hr_17, hr_18, hr_19, hr_20, hr_21, hr_22, hr_23]); (try rfl)] at hS50; exact hS50
  rw [hv_11] at hs_11
  have hA54 : Fr 44 [] [(29, (Value.int .i64 ((stU segs l Prod.fst k) + ((l.getD (((segs.getD k (0, 0, 0)).1).toNat) 0) * ((segs.getD k (0, 0, 0)).2.1))))), (7, (bptr b38 0)), (6, (Value.int .i64 (k : Int))), (5, (bptr b9 0)), (4, (bptr b4 0)), (0, vs), (1, xl)] a47 := hA49.add (slot_ev hs_11 rfl); clear hA49
  rw [hv_23] at hs_23
  have hA55 : Fr 44 [] [(41, (Value.int .i64 ((stU segs l Prod.snd k) + ((l.getD (((segs.getD k (0, 0, 0)).1).toNat) 0) * ((segs.getD k (0, 0, 0)).2.2))))), (29, (Value.int .i64 ((stU segs l Prod.fst k) + ((l.getD (((segs.getD k (0, 0, 0)).1).toNat) 0) * ((segs.getD k (0, 0, 0)).2.1))))), (7, (bptr b38 0)), (6, (Value.int .i64 (k : Int))), (5, (bptr b9 0)), (4, (bptr b4 0)), (0, vs), (1, xl)] a47 := hA54.add (slot_ev hs_23 rfl); clear hA54
  clear hH51 hS50 hs_0 hs_1 hs_2 hs_3 hs_4 hs_5 hs_6 hs_7 hs_8 hs_9 hs_10 hs_11 hs_12 hs_13 hs_14 hs_15 hs_16 hs_17 hs_18 hs_19 hs_20 hs_21 hs_22 hs_23
  clear hr_0
  clear hv_0
  clear hr_1
  clear hv_1
  clear hr_2
  clear hv_2
  clear hr_3
  clear hv_3
  clear hr_4
  clear hv_4
  clear hr_5
  clear hv_5
  clear hr_6
  clear hv_6
  clear hr_7
  clear hv_7
  clear hr_8
  clear hv_8
  clear hr_9
  clear hv_9
  clear hr_10
  clear hv_10
  clear hr_11
  clear hv_11
  clear hr_12
  clear hv_12
  clear hr_13
  clear hv_13
  clear hr_14
  clear hv_14
  clear hr_15
  clear hv_15
  clear hr_16
  clear hv_16
  clear hr_17
  clear hv_17
  clear hr_18
  clear hv_18
  clear hr_19
  clear hv_19
  clear hr_20
  clear hv_20
  clear hr_21
  clear hv_21
  clear hr_22
  clear hv_22
  clear hr_23
  clear hv_23
  refine st hA55 (op_build rfl (pv2 (hA55.ev rfl) (hA55.ev rfl)) (bd_48_0i_1i _ _)) rfl rfl (by decide) fun a56 hA57 => ?_; clear hA55 a47
  refine sts hA57 (op_store hS53 rfl ty_48 (hA57.ev rfl) (hA57.ev rfl) (i := 1) rfl (vs := [(Value.int .i64 ((stU segs l Prod.fst k) + ((l.getD (((segs.getD k (0, 0, 0)).1).toNat) 0) * ((segs.getD k (0, 0, 0)).2.1)))), (Value.int .i64 ((stU segs l Prod.snd k) + ((l.getD (((segs.getD k (0, 0, 0)).1).toNat) 0) * ((segs.getD k (0, 0, 0)).2.2))))]) rfl rfl rfl (Nat.le_of_ble_eq_true rfl)) rfl rfl ?_
  intro _ w58 hS59 hA60; clear hA57
  have hS61 : Sep NoB w w58 [(blk b38 56 [(Value.int .i64 ((segs.getD k (0, 0, 0)).1)), (Value.int .i64 ((segs.getD k (0, 0, 0)).2.1)), (Value.int .i64 ((segs.getD k (0, 0, 0)).2.2))]), (blk b9 48 [(Value.int .i64 ((stU segs l Prod.fst k) + ((l.getD (((segs.getD k (0, 0, 0)).1).toNat) 0) * ((segs.getD k (0, 0, 0)).2.1)))), (Value.int .i64 ((stU segs l Prod.snd k) + ((l.getD (((segs.getD k (0, 0, 0)).1).toNat) 0) * ((segs.getD k (0, 0, 0)).2.2))))]), (blk b4 48 [(Value.int .i64 0), (Value.int .i64 0)]), (sl vs 3 segs.length (trips segs)), (sl xl 1 l.length (ints l))] := hS59; clear hS59 hS53
  refine wl_nil ?_
  refine blk_n ?_
  refine then_n ?_
  refine c_region ?_
  refine st hA60 (op_move rfl (hA60.ev rfl)) rfl rfl (by decide) fun a62 hA63 => ?_; clear hA60 a56
  refine st hA63 (op_add rfl (hA63.ev rfl) (evc _ _) (by omega) (by omega)) rfl rfl (by decide) fun a64 hA65 => ?_; clear hA63 a62
  refine st hA65 (op_assign rfl (hA65.ev rfl)) rfl rfl (by decide) fun a66 hA67 => ?_; clear hA65 a64
  refine wl_nil ?_
  have hS68 : Sep NoB w w58 [(blk b9 48 [(Value.int .i64 ((stU segs l Prod.fst k) + ((l.getD (((segs.getD k (0, 0, 0)).1).toNat) 0) * ((segs.getD k (0, 0, 0)).2.1)))), (Value.int .i64 ((stU segs l Prod.snd k) + ((l.getD (((segs.getD k (0, 0, 0)).1).toNat) 0) * ((segs.getD k (0, 0, 0)).2.2))))]), (blk b4 48 [(Value.int .i64 0), (Value.int .i64 0)]), (sl vs 3 segs.length (trips segs)), (sl xl 1 l.length (ints l))] := hS61.keep [1, 2, 3, 4] (by decide) _ rfl rfl; clear hS61
  exact then_n ⟨k + 1, ⟨hA67.as _ rfl, hS68, by omega⟩, by omega⟩
 ·skip
  rw [decide_eq_false hb26] at hA25
  refine c_false hA25 rfl ?_
  refine c_exit ?_
  refine then_exit ?_
  refine then_exit ?_
  refine blk_hit ?_
  refine then_n ?_
  refine c_seq ?_
  have hA69 := hA25.as [(5, (bptr b9 0)), (4, (bptr b4 0))] rfl; clear hA25
  refine c_region ?_
  refine st hA69 (op_loadA rfl ty_48 (hA69.ev rfl) (hS17.bk 0 rfl) (l := [(Value.int .i64 (stU segs l Prod.fst k)), (Value.int .i64 (stU segs l Prod.snd k))]) rfl rfl) rfl rfl (by decide) fun a70 hA71 => ?_; clear hA69 a24
  refine sts hA71 (op_store hS17 rfl ty_48 (hA71.ev rfl) (hA71.ev rfl) (i := 1) rfl (vs := [(Value.int .i64 (stU segs l Prod.fst k)), (Value.int .i64 (stU segs l Prod.snd k))]) rfl rfl rfl (Nat.le_of_ble_eq_true rfl)) rfl rfl ?_
  intro _ w72 hS73 hA74; clear hA71
  have hS75 : Sep NoB w w72 [(blk b9 48 [(Value.int .i64 (stU segs l Prod.fst k)), (Value.int .i64 (stU segs l Prod.snd k))]), (blk b4 48 [(Value.int .i64 (stU segs l Prod.fst k)), (Value.int .i64 (stU segs l Prod.snd k))]), (sl vs 3 segs.length (trips segs)), (sl xl 1 l.length (ints l))] := hS73; clear hS73 hS17
  refine wl_nil ?_
  refine then_n ?_
  refine c_ret ?_
  refine fin_run hA74 (.inl rfl) (run_results1 hA74 rfl (.cellA rfl ty_48 (hS75.bk 1 rfl) (l := [(Value.int .i64 (stU segs l Prod.fst k)), (Value.int .i64 (stU segs l Prod.snd k))]) rfl rfl)) ?_
  exact ⟨by rw [show k = segs.length by omega, stU_lo, stU_hi], hS75.ext⟩
set_option maxHeartbeats 1000000 in
theorem rAllows_ok (w : World) (rs : List RunD) (lv : List Value) (vu : Value) (hx : RunsAt w vu lv rs) (l : List Int) (xl : Value) (hxl : SlAt w xl 1 l.length (ints l)) (n : Nat) (hn : n ≤ 3) (hln : n ≤ l.length) (hr : ∀ i, 0 ≤ l.getD i 0 ∧ l.getD i 0 ≤ 1000) (hV : RunsV n rs) :
  Calls Try.prog 36 #[vu, xl] w (Ret fun v w' => v = .bool (allowB rs l) ∧ Ext NoB w w') := by
 refine calls_enter Try.func36 rfl fun a0 hA0 => ?_
 replace hA0 : Fr 40 [] [(0, vu), (1, xl)] a0 := hA0
 have hvl := hV.len
 have hS0 : Sep NoB w w [(sl xl 1 l.length (ints l)), (runsR false vu lv rs)] := sep_ro ⟨rfl, hxl, rfl, hx, trivial⟩
 refine c_seq ?_
 refine c_region ?_
 refine st hA0 (op_assign rfl (evc _ _)) rfl rfl (by decide) fun a1 hA2 => ?_; clear hA0 a0
 refine wl_nil ?_
 refine then_n ?_
 refine c_seq ?_
 refine c_seq ?_
 refine c_region ?_
 refine st hA2 (op_assign rfl (evc _ _)) rfl rfl (by decide) fun a3 hA4 => ?_; clear hA2 a1
 refine wl_nil ?_
 refine then_n ?_
 refine c_block ?_
 have hA5 := hA4.as [(5, (Value.int .i64 0)), (0, vu), (1, xl)] rfl; clear hA4
 refine c_loop (G := Nat) (fun (k : Nat) a_ w_ => Fr 40 [] [(5, (Value.int .i64 (k : Int))), (0, vu), (1, xl)] a_ ∧ Sep NoB w w_ [(sl xl 1 l.length (ints l)), (runsR false vu lv rs)] ∧ (k ≤ rs.length) ∧ (∀ i, i < k → allowsB (rs.getD i run0) l = true)) (fun k => rs.length - k) 0 ⟨hA5.as _ rfl, hS0, by omega, (fun _ h => absurd h (Nat.not_lt_zero _))⟩ ?_
 clear hA5 hS0 a3
 rintro k a6 w8 ⟨hA7, hS9, hkk, hal⟩
 refine c_seq ?_
 refine c_seq ?_
 refine c_region ?_
 refine st hA7 (op_move rfl (hA7.ev rfl)) rfl rfl (by decide) fun a10 hA11 => ?_; clear hA7 a6
 refine st hA11 (op_move rfl (hA11.ev rfl)) rfl rfl (by decide) fun a12 hA13 => ?_; clear hA11 a10
 refine st hA13 (op_lenS rfl un_25 (hA13.ev rfl) (runs_at (hS9.ok 1 _ rfl)).runs) rfl rfl (by decide) fun a14 hA15 => ?_; clear hA13 a12
 refine st hA15 (op_lss rfl (hA15.ev rfl) (hA15.ev rfl)) rfl rfl (by decide) fun a16 hA17 => ?_; clear hA15 a14
 refine wl_nil ?_
 refine then_n ?_
 by_cases hb18 : (k : Int) < (rs.length : Int)
 ·skip
  rw [decide_eq_true hb18] at hA17
  have hrk := hV.runs k (by omega); have hs8 := hrk.len
  refine c_true hA17 rfl ?_
  refine c_skip ?_
  refine then_n ?_
  refine c_seq ?_
  refine c_block ?_
  refine c_seq ?_
  refine c_region ?_
  refine st hA17 (op_move rfl (hA17.ev rfl)) rfl rfl (by decide) fun a19 hA20 => ?_; clear hA17 a16
  refine st hA20 (op_move rfl (hA20.ev rfl)) rfl rfl (by decide) fun a21 hA22 => ?_; clear hA20 a19
  refine st hA22 (op_indexS rfl un_25 ty_54 (hA22.ev rfl) (i := k) (hA22.ev rfl) (runs_at (hS9.ok 1 _ rfl)).runs (by decide) (by omega)) rfl rfl (by decide) fun a23 hA24 => ?_; clear hA22 a21
  refine st hA24 (op_fieldS rfl fd_54_0 (hA24.ev rfl) (runs_at (hS9.ok 1 _ rfl)).runs (by rw [((runs_at (hS9.ok 1 _ rfl)).runs).1]; omega)) rfl rfl (by decide) fun a25 hA26 => ?_; clear hA24 a23
  refine st hA26 (op_load1E rfl ty_51 (hA26.ev rfl) (runs_at (hS9.ok 1 _ rfl)).runs (runs_at0 (runs_at (hS9.ok 1 _ rfl)).len (by omega))) rfl rfl (by decide) fun a27 hA28 => ?_; clear hA26 a25
  refine st hA28 (op_move rfl (hA28.ev rfl)) rfl rfl (by decide) fun a29 hA30 => ?_; clear hA28 a27
  refine stw hA30 (op_call rfl en_34 (ev2 (hA30.ev rfl) (hA30.ev rfl)) (rStretch_ok _ ((rs.getD k run0).segs) _ ((runs_at (hS9.ok 1 _ rfl)).segs k (by omega)) (by omega) l _ (hS9.sk 0 rfl) n hn hln hr hrk.segs)) rfl rfl (by decide) ?_
  rintro a31 _ w33 ⟨rfl, hE34⟩ hA32; have hS35 := hS9.step hE34; clear hE34 hA30 hS9 a29
  refine stw hA32 (op_alloc hS35 rfl ze_48 (cs := [(Value.int .i64 0), (Value.int .i64 0)]) rfl) rfl rfl (by decide) ?_
  rintro a36 _ w38 ⟨b39, rfl, hS40⟩ hA37; clear hA32 hS35 a31
  refine sts hA37 (op_store hS40 rfl ty_48 (hA37.ev rfl) (hA37.ev rfl) (i := 0) rfl (vs := [(Value.int .i64 (stLo ((rs.getD k run0).segs) l)), (Value.int .i64 (stHi ((rs.getD k run0).segs) l))]) rfl rfl rfl (Nat.le_of_ble_eq_true rfl)) rfl rfl ?_
  intro _ w41 hS42 hA43; clear hA37
  have hS44 : Sep NoB w w41 [(blk b39 48 [(Value.int .i64 (stLo ((rs.getD k run0).segs) l)), (Value.int .i64 (stHi ((rs.getD k run0).segs) l))]), (sl xl 1 l.length (ints l)), (runsR false vu lv rs)] := hS42; clear hS42 hS40
  refine wl_nil ?_
  refine then_n ?_
  refine c_seq ?_
  have hA45 := hA43.as [(6, (bptr b39 0)), (5, (Value.int .i64 (k : Int))), (0, vu), (1, xl)] rfl; clear hA43
  have hA46 := hA45.as [(6, (bptr b39 0)), (5, (Value.int .i64 (k : Int))), (0, vu), (1, xl)] rfl; clear hA45
  by_cases hb48 : ((rs.getD k run0).hi) < (stLo ((rs.getD k run0).segs) l)
  ·skip
   have hA49 := hA46.as [(6, (bptr b39 0)), (5, (Value.int .i64 (k : Int))), (0, vu), (1, xl)] rfl; clear hA46
   refine c_drawV mixed hA49 hS44 18 [[], [0], [], [], [2, 3], [4], [5], [6], [1, 7], [8], [9], [9, 10], [9], [9], [9, 12, 13], [9, 14], [9, 15], [9, 16]] [(fun (vs50 : Nat → Value) (v_ : Value) (rs_ : List Res) => v_ = (bptr b39 0) ∧ rs_ = []), (fun (vs50 : Nat → Value) (v_ : Value) (rs_ : List Res) => v_ = (Value.int .i64 (stLo ((rs.getD k run0).segs) l)) ∧ rs_ = []), (fun (vs50 : Nat → Value) (v_ : Value) (rs_ : List Res) => v_ = vu ∧ rs_ = []), (fun (vs50 : Nat → Value) (v_ : Value) (rs_ : List Res) => v_ = (Value.int .i64 (k : Int)) ∧ rs_ = []), (fun (vs50 : Nat → Value) (v_ : Value) (rs_ : List Res) => v_ = (eptr vu (k * 3)) ∧ rs_ = []), (fun (vs50 : Nat → Value) (v_ : Value) (rs_ : List Res) => v_ = (eptr vu (k * 3 + 1)) ∧ rs_ = []), (fun (vs50 : Nat → Value) (v_ : Value) (rs_ : List Res) => v_ = (eptr vu (k * 3 + 1 + 1)) ∧ rs_ = []), (fun (vs50 : Nat → Value) (v_ : Value) (rs_ : List Res) => v_ = (Value.int .i64 ((rs.getD k run0).hi)) ∧ rs_ = []), (fun (vs50 : Nat → Value) (v_ : Value) (rs_ : List Res) => v_ = (Value.bool true) ∧ rs_ = []), (fun (vs50 : Nat → Value) (v_ : Value) (rs_ : List Res) => v_ = (Value.bool true) ∧ rs_ = []), (fun (vs50 : Nat → Value) (v_ : Value) (rs_ : List Res) => v_ = undef ∧ rs_ = []), (fun (vs50 : Nat → Value) (v_ : Value) (rs_ : List Res) => v_ = undef ∧ rs_ = []), (fun (vs50 : Nat → Value) (v_ : Value) (rs_ : List Res) => v_ = undef ∧ rs_ = []), (fun (vs50 : Nat → Value) (v_ : Value) (rs_ : List Res) => v_ = undef ∧ rs_ = []), (fun (vs50 : Nat → Value) (v_ : Value) (rs_ : List Res) => v_ = undef ∧ rs_ = []), (fun (vs50 : Nat → Value) (v_ : Value) (rs_ : List Res) => v_ = undef ∧ rs_ = []), (fun (vs50 : Nat → Value) (v_ : Value) (rs_ : List Res) => v_ = undef ∧ rs_ = []), (fun (vs50 : Nat → Value) (v_ : Value) (rs_ : List Res) => v_ = undef ∧ rs_ = [])] (by decide +kernel) (by decide +kernel) rfl rfl ⟨(fun _ _ _ _ _ h_ => h_), (fun _ _ _ _ _ h_ => h_), (fun _ _ _ _ _ h_ => h_), (fun _ _ _ _ _ h_ => h_), (fun _ _ _ _ _ h_ => h_), (fun _ _ _ _ _ h_ => h_), (fun _ _ _ _ _ h_ => h_), (fun _ _ _ _ _ h_ => h_), (fun _ _ _ _ _ h_ => h_), (fun _ _ _ _ _ h_ => h_), (fun _ _ _ _ _ h_ => h_), (fun _ _ _ _ _ h_ => h_), (fun _ _ _ _ _ h_ => h_), (fun _ _ _ _ _ h_ => h_), (fun _ _ _ _ _ h_ => h_), (fun _ _ _ _ _ h_ => h_), (fun _ _ _ _ _ h_ => h_), (fun _ _ _ _ _ h_ => h_), trivial⟩ ?_ ?_
   ·skip
    refine ⟨fun a w vs50 hA hS hd => ?_, ?_⟩
    ·skip
     exact opG_of rfl (vv (op_field rfl fd_48_0 (hA.ev rfl)) (And.intro rfl rfl))
    refine ⟨fun a w vs50 hA hS hd => ?_, ?_⟩
    ·skip
     obtain ⟨e0, rs0, hy0, hp0⟩ := hd 0 (by decide)
     obtain ⟨hv0, hr0⟩ := hy0; subst hr0
     rw [hv0] at e0
     exact opG_of rfl (vv (op_load1 rfl ty_3 (tmp_ev (slot_ev e0 rfl)) (hS.bk 0 rfl) rfl) (And.intro rfl rfl))
    refine ⟨fun a w vs50 hA hS hd => ?_, ?_⟩
    ·skip
     exact opG_of rfl (vv (op_move rfl (hA.ev rfl)) (And.intro rfl rfl))
    refine ⟨fun a w vs50 hA hS hd => ?_, ?_⟩
    ·skip
     exact opG_of rfl (vv (op_move rfl (hA.ev rfl)) (And.intro rfl rfl))
    refine ⟨fun a w vs50 hA hS hd => ?_, ?_⟩
    ·skip
     obtain ⟨e2, rs2, hy2, hp2⟩ := hd 2 (by decide)
     obtain ⟨hv2, hr2⟩ := hy2; subst hr2
     rw [hv2] at e2
     obtain ⟨e3, rs3, hy3, hp3⟩ := hd 3 (by decide)
     obtain ⟨hv3, hr3⟩ := hy3; subst hr3
     rw [hv3] at e3
     exact opG_of rfl (vv (op_indexS rfl un_25 ty_54 (tmp_ev (slot_ev e2 rfl)) (i := k) (tmp_ev (slot_ev e3 rfl)) (runs_at (hS.ok 2 _ rfl)).runs (by decide) (by omega)) (And.intro rfl rfl))
    refine ⟨fun a w vs50 hA hS hd => ?_, ?_⟩
    ·skip
     obtain ⟨e4, rs4, hy4, hp4⟩ := hd 4 (by decide)
     obtain ⟨hv4, hr4⟩ := hy4; subst hr4
     rw [hv4] at e4
     exact opG_of rfl (vv (op_fieldS rfl fd_54_1 (tmp_ev (slot_ev e4 rfl)) (runs_at (hS.ok 2 _ rfl)).runs (by rw [((runs_at (hS.ok 2 _ rfl)).runs).1]; omega)) (And.intro rfl rfl))
    refine ⟨fun a w vs50 hA hS hd => ?_, ?_⟩
    ·skip
     obtain ⟨e5, rs5, hy5, hp5⟩ := hd 5 (by decide)
     obtain ⟨hv5, hr5⟩ := hy5; subst hr5
     rw [hv5] at e5
     exact opG_of rfl (vv (op_fieldS rfl fd_48_1 (tmp_ev (slot_ev e5 rfl)) (runs_at (hS.ok 2 _ rfl)).runs (by rw [((runs_at (hS.ok 2 _ rfl)).runs).1]; omega)) (And.intro rfl rfl))
    refine ⟨fun a w vs50 hA hS hd => ?_, ?_⟩
    ·skip
     obtain ⟨e6, rs6, hy6, hp6⟩ := hd 6 (by decide)
     obtain ⟨hv6, hr6⟩ := hy6; subst hr6
     rw [hv6] at e6
     exact opG_of rfl (vv (op_load1E rfl ty_3 (tmp_ev (slot_ev e6 rfl)) (runs_at (hS.ok 2 _ rfl)).runs (runs_at2 (runs_at (hS.ok 2 _ rfl)).len (by omega))) (And.intro rfl rfl))
    refine ⟨fun a w vs50 hA hS hd => ?_, ?_⟩
    ·skip
     obtain ⟨e1, rs1, hy1, hp1⟩ := hd 1 (by decide)
     obtain ⟨hv1, hr1⟩ := hy1; subst hr1
     rw [hv1] at e1
     obtain ⟨e7, rs7, hy7, hp7⟩ := hd 7 (by decide)
     obtain ⟨hv7, hr7⟩ := hy7; subst hr7
     rw [hv7] at e7
     exact opG_of rfl (vv (op_gtr rfl (tmp_ev (slot_ev e1 rfl)) (tmp_ev (slot_ev e7 rfl))) (And.intro (by show Value.bool _ = _; simp only [decide_eq_true hb48, decide_true, decide_false, Bool.not_true, Bool.not_false]) rfl))
    refine ⟨fun a w vs50 hA hS hd => ?_, ?_⟩
    ·skip
     obtain ⟨e8, rs8, hy8, hp8⟩ := hd 8 (by decide)
     obtain ⟨hv8, hr8⟩ := hy8; subst hr8
     rw [hv8] at e8
     exact opG_of rfl (vv (op_move rfl (tmp_ev (slot_ev e8 rfl))) (And.intro rfl rfl))
    refine ⟨fun a w vs50 hA hS hd => ?_, ?_⟩
    ·skip
     obtain ⟨e9, rs9, hy9, hp9⟩ := hd 9 (by decide)
     obtain ⟨hv9, hr9⟩ := hy9; subst hr9
     rw [hv9] at e9
     exact opG_no rfl rfl (slot_ev e9 rfl) rfl (vskip (And.intro rfl rfl))
    refine ⟨fun a w vs50 hA hS hd => ?_, ?_⟩
    ·skip
     obtain ⟨e9, rs9, hy9, hp9⟩ := hd 9 (by decide)
     obtain ⟨hv9, hr9⟩ := hy9; subst hr9
     rw [hv9] at e9
     obtain ⟨e10, rs10, hy10, hp10⟩ := hd 10 (by decide)
     obtain ⟨hv10, hr10⟩ := hy10; subst hr10
     rw [hv10] at e10
     exact opG_no rfl rfl (slot_ev e9 rfl) rfl (vskip (And.intro rfl rfl))
    refine ⟨fun a w vs50 hA hS hd => ?_, ?_⟩
    ·skip
     obtain ⟨e9, rs9, hy9, hp9⟩ := hd 9 (by decide)
     obtain ⟨hv9, hr9⟩ := hy9; subst hr9
     rw [hv9] at e9
     exact opG_no rfl rfl (slot_ev e9 rfl) rfl (vskip (And.intro rfl rfl))
    refine ⟨fun a w vs50 hA hS hd => ?_, ?_⟩
    ·skip
     obtain ⟨e9, rs9, hy9, hp9⟩ := hd 9 (by decide)
     obtain ⟨hv9, hr9⟩ := hy9; subst hr9
     rw [hv9] at e9
     exact opG_no rfl rfl (slot_ev e9 rfl) rfl (vskip (And.intro rfl rfl))
    refine ⟨fun a w vs50 hA hS hd => ?_, ?_⟩
    ·skip
     obtain ⟨e9, rs9, hy9, hp9⟩ := hd 9 (by decide)
     obtain ⟨hv9, hr9⟩ := hy9; subst hr9
     rw [hv9] at e9
     obtain ⟨e12, rs12, hy12, hp12⟩ := hd 12 (by decide)
     obtain ⟨hv12, hr12⟩ := hy12; subst hr12
     rw [hv12] at e12
     obtain ⟨e13, rs13, hy13, hp13⟩ := hd 13 (by decide)
     obtain ⟨hv13, hr13⟩ := hy13; subst hr13
     rw [hv13] at e13
     exact opG_no rfl rfl (slot_ev e9 rfl) rfl (vskip (And.intro rfl rfl))
    refine ⟨fun a w vs50 hA hS hd => ?_, ?_⟩
    ·skip
     obtain ⟨e9, rs9, hy9, hp9⟩ := hd 9 (by decide)
     obtain ⟨hv9, hr9⟩ := hy9; subst hr9
     rw [hv9] at e9
     obtain ⟨e14, rs14, hy14, hp14⟩ := hd 14 (by decide)
     obtain ⟨hv14, hr14⟩ := hy14; subst hr14
     rw [hv14] at e14
     exact opG_no rfl rfl (slot_ev e9 rfl) rfl (vskip (And.intro rfl rfl))
    refine ⟨fun a w vs50 hA hS hd => ?_, ?_⟩
    ·skip
     obtain ⟨e9, rs9, hy9, hp9⟩ := hd 9 (by decide)
     obtain ⟨hv9, hr9⟩ := hy9; subst hr9
     rw [hv9] at e9
     obtain ⟨e15, rs15, hy15, hp15⟩ := hd 15 (by decide)
     obtain ⟨hv15, hr15⟩ := hy15; subst hr15
     rw [hv15] at e15
     exact opG_no rfl rfl (slot_ev e9 rfl) rfl (vskip (And.intro rfl rfl))
    refine ⟨fun a w vs50 hA hS hd => ?_, ?_⟩
    ·skip
     obtain ⟨e9, rs9, hy9, hp9⟩ := hd 9 (by decide)
     obtain ⟨hv9, hr9⟩ := hy9; subst hr9
     rw [hv9] at e9
     obtain ⟨e16, rs16, hy16, hp16⟩ := hd 16 (by decide)
     obtain ⟨hv16, hr16⟩ := hy16; subst hr16
     rw [hv16] at e16
     exact opG_no rfl rfl (slot_ev e9 rfl) rfl (vskip (And.intro rfl rfl))
    trivial
   intro a51 w52 vs50 rsf56 hA53 hH55 hS54; clear hA49 hS44
   obtain ⟨hs_0, hy_0⟩ := hH55 0 (by decide)
   obtain ⟨hv_0, hr_0⟩ := hy_0
   obtain ⟨hs_1, hy_1⟩ := hH55 1 (by decide)
   obtain ⟨hv_1, hr_1⟩ := hy_1
   obtain ⟨hs_2, hy_2⟩ := hH55 2 (by decide)
   obtain ⟨hv_2, hr_2⟩ := hy_2
   obtain ⟨hs_3, hy_3⟩ := hH55 3 (by decide)
   obtain ⟨hv_3, hr_3⟩ := hy_3
   obtain ⟨hs_4, hy_4⟩ := hH55 4 (by decide)
   obtain ⟨hv_4, hr_4⟩ := hy_4
   obtain ⟨hs_5, hy_5⟩ := hH55 5 (by decide)
   obtain ⟨hv_5, hr_5⟩ := hy_5
   obtain ⟨hs_6, hy_6⟩ := hH55 6 (by decide)
   obtain ⟨hv_6, hr_6⟩ := hy_6
   obtain ⟨hs_7, hy_7⟩ := hH55 7 (by decide)
   obtain ⟨hv_7, hr_7⟩ := hy_7
   obtain ⟨hs_8, hy_8⟩ := hH55 8 (by decide)
   obtain ⟨hv_8, hr_8⟩ := hy_8
   obtain ⟨hs_9, hy_9⟩ := hH55 9 (by decide)
   obtain ⟨hv_9, hr_9⟩ := hy_9
   obtain ⟨hs_10, hy_10⟩ := hH55 10 (by decide)
   obtain ⟨hv_10, hr_10⟩ := hy_10
   obtain ⟨hs_11, hy_11⟩ := hH55 11 (by decide)
   obtain ⟨hv_11, hr_11⟩ := hy_11
   obtain ⟨hs_12, hy_12⟩ := hH55 12 (by decide)
   obtain ⟨hv_12, hr_12⟩ := hy_12
   obtain ⟨hs_13, hy_13⟩ := hH55 13 (by decide)
   obtain ⟨hv_13, hr_13⟩ := hy_13
   obtain ⟨hs_14, hy_14⟩ := hH55 14 (by decide)
   obtain ⟨hv_14, hr_14⟩ := hy_14
   obtain ⟨hs_15, hy_15⟩ := hH55 15 (by decide)
   obtain ⟨hv_15, hr_15⟩ := hy_15
   obtain ⟨hs_16, hy_16⟩ := hH55 16 (by decide)
   obtain ⟨hv_16, hr_16⟩ := hy_16
   obtain ⟨hs_17, hy_17⟩ := hH55 17 (by decide)
   obtain ⟨hv_17, hr_17⟩ := hy_17
   have hS57 : Sep NoB w w52 [(blk b39 48 [(Value.int .i64 (stLo ((rs.getD k run0).segs) l)), (Value.int .i64 (stHi ((rs.getD k run0).segs) l))]), (sl xl 1 l.length (ints l)), (runsR false vu lv rs)] := by rw [show catR rsf56 0 18 = ([] : List Res) by (try simp only [catR, hr_0, hr_1, hr_2, hr_3, hr_4, hr_5, hr_6, hr_7, hr_8, hr_9, hr_10, hr_11, hr_12, hr_13, hr_14, hr_15, hr_16, hr_17]); (try rfl)] at hS54; exact hS54
   rw [hv_9] at hs_9
   have hA58 : Fr 40 [] [(29, (Value.bool true)), (6, (bptr b39 0)), (5, (Value.int .i64 (k : Int))), (0, vu), (1, xl)] a51 := hA53.add (slot_ev hs_9 rfl); clear hA53
   rw [hv_11] at hs_11
   have hA59 : Fr 40 [] [(31, undef), (29, (Value.bool true)), (6, (bptr b39 0)), (5, (Value.int .i64 (k : Int))), (0, vu), (1, xl)] a51 := hA58.add (slot_ev hs_11 rfl); clear hA58
   rw [hv_17] at hs_17
   have hA60 : Fr 40 [] [(37, undef), (31, undef), (29, (Value.bool true)), (6, (bptr b39 0)), (5, (Value.int .i64 (k : Int))), (0, vu), (1, xl)] a51 := hA59.add (slot_ev hs_17 rfl); clear hA59
   clear hH55 hS54 hs_0 hs_1 hs_2 hs_3 hs_4 hs_5 hs_6 hs_7 hs_8 hs_9 hs_10 hs_11 hs_12 hs_13 hs_14 hs_15 hs_16 hs_17
   clear hr_0
   clear hv_0
   clear hr_1
   clear hv_1
   clear hr_2
   clear hv_2
   clear hr_3
   clear hv_3
   clear hr_4
   clear hv_4
   clear hr_5
   clear hv_5
   clear hr_6
   clear hv_6
   clear hr_7
   clear hv_7
   clear hr_8
   clear hv_8
   clear hr_9
   clear hv_9
   clear hr_10
   clear hv_10
   clear hr_11
   clear hv_11
   clear hr_12
   clear hv_12
   clear hr_13
   clear hv_13
   clear hr_14
   clear hv_14
   clear hr_15
   clear hv_15
   clear hr_16
   clear hv_16
   clear hr_17
   clear hv_17
   refine skp hA60 rfl rfl rfl rfl rfl (by decide) fun a61 hA62 => ?_; clear hA60 a51
   refine st hA62 (op_pick_t rfl (hA62.ev rfl) (evc _ _)) rfl rfl (by decide) fun a63 hA64 => ?_; clear hA62 a61
   refine wl_nil ?_
   refine then_n ?_
   refine c_true hA64 rfl ?_
   refine c_seq ?_
   have hA65 := hA64.as [] rfl; clear hA64
   refine c_region ?_
   refine st hA65 (op_assign rfl (evc _ _)) rfl rfl (by decide) fun a66 hA67 => ?_; clear hA65 a63
   refine wl_nil ?_
   refine then_n ?_
   refine c_ret ?_
   refine blk_ret ?_
   refine then_ret ?_
   refine then_ret ?_
   refine blk_ret ?_
   refine then_ret ?_
   refine fin_run hA67 (.inl rfl) (run_results1 hA67 rfl (.tmp rfl)) ?_
   exact ⟨congrArg Value.bool (by first | exact (allow_all (fun i hi => hal i (by omega))).symm | exact (allow_no (k := k) (by omega) (by unfold allowsB; simp only [Bool.and_eq_false_iff, decide_eq_false_iff_not]; omega)).symm), hS57.ext⟩
  ·skip
   have hA68 := hA46.as [(6, (bptr b39 0)), (5, (Value.int .i64 (k : Int))), (0, vu), (1, xl)] rfl; clear hA46
   refine c_drawV mixed hA68 hS44 18 [[], [0], [], [], [2, 3], [4], [5], [6], [1, 7], [8], [9], [9, 10], [9], [9], [9, 12, 13], [9, 14], [9, 15], [9, 16]] [(fun (vs69 : Nat → Value) (v_ : Value) (rs_ : List Res) => v_ = (bptr b39 0) ∧ rs_ = []), (fun (vs69 : Nat → Value) (v_ : Value) (rs_ : List Res) => v_ = (Value.int .i64 (stLo ((rs.getD k run0).segs) l)) ∧ rs_ = []), (fun (vs69 : Nat → Value) (v_ : Value) (rs_ : List Res) => v_ = vu ∧ rs_ = []), (fun (vs69 : Nat → Value) (v_ : Value) (rs_ : List Res) => v_ = (Value.int .i64 (k : Int)) ∧ rs_ = []), (fun (vs69 : Nat → Value) (v_ : Value) (rs_ : List Res) => v_ = (eptr vu (k * 3)) ∧ rs_ = []), (fun (vs69 : Nat → Value) (v_ : Value) (rs_ : List Res) => v_ = (eptr vu (k * 3 + 1)) ∧ rs_ = []), (fun (vs69 : Nat → Value) (v_ : Value) (rs_ : List Res) => v_ = (eptr vu (k * 3 + 1 + 1)) ∧ rs_ = []), (fun (vs69 : Nat → Value) (v_ : Value) (rs_ : List Res) => v_ = (Value.int .i64 ((rs.getD k run0).hi)) ∧ rs_ = []), (fun (vs69 : Nat → Value) (v_ : Value) (rs_ : List Res) => v_ = (Value.bool false) ∧ rs_ = []), (fun (vs69 : Nat → Value) (v_ : Value) (rs_ : List Res) => v_ = (Value.bool false) ∧ rs_ = []), (fun (vs69 : Nat → Value) (v_ : Value) (rs_ : List Res) => v_ = (bptr b39 1) ∧ rs_ = []), (fun (vs69 : Nat → Value) (v_ : Value) (rs_ : List Res) => v_ = (Value.int .i64 (stHi ((rs.getD k run0).segs) l)) ∧ rs_ = []), (fun (vs69 : Nat → Value) (v_ : Value) (rs_ : List Res) => v_ = vu ∧ rs_ = []), (fun (vs69 : Nat → Value) (v_ : Value) (rs_ : List Res) => v_ = (Value.int .i64 (k : Int)) ∧ rs_ = []), (fun (vs69 : Nat → Value) (v_ : Value) (rs_ : List Res) => v_ = (eptr vu (k * 3)) ∧ rs_ = []), (fun (vs69 : Nat → Value) (v_ : Value) (rs_ : List Res) => v_ = (eptr vu (k * 3 + 1)) ∧ rs_ = []), (fun (vs69 : Nat → Value) (v_ : Value) (rs_ : List Res) => v_ = (eptr vu (k * 3 + 1 + 0)) ∧ rs_ = []), (fun (vs69 : Nat → Value) (v_ : Value) (rs_ : List Res) => v_ = (Value.int .i64 ((rs.getD k run0).lo)) ∧ rs_ = [])] (by decide +kernel) (by decide +kernel) rfl rfl ⟨(fun _ _ _ _ _ h_ => h_), (fun _ _ _ _ _ h_ => h_), (fun _ _ _ _ _ h_ => h_), (fun _ _ _ _ _ h_ => h_), (fun _ _ _ _ _ h_ => h_), (fun _ _ _ _ _ h_ => h_), (fun _ _ _ _ _ h_ => h_), (fun _ _ _ _ _ h_ => h_), (fun _ _ _ _ _ h_ => h_), (fun _ _ _ _ _ h_ => h_), (fun _ _ _ _ _ h_ => h_), (fun _ _ _ _ _ h_ => h_), (fun _ _ _ _ _ h_ => h_), (fun _ _ _ _ _ h_ => h_), (fun _ _ _ _ _ h_ => h_), (fun _ _ _ _ _ h_ => h_), (fun _ _ _ _ _ h_ => h_), (fun _ _ _ _ _ h_ => h_), trivial⟩ ?_ ?_
   ·skip
    refine ⟨fun a w vs69 hA hS hd => ?_, ?_⟩
    ·skip
     exact opG_of rfl (vv (op_field rfl fd_48_0 (hA.ev rfl)) (And.intro rfl rfl))
    refine ⟨fun a w vs69 hA hS hd => ?_, ?_⟩
    ·skip
     obtain ⟨e0, rs0, hy0, hp0⟩ := hd 0 (by decide)
     obtain ⟨hv0, hr0⟩ := hy0; subst hr0
     rw [hv0] at e0
     exact opG_of rfl (vv (op_load1 rfl ty_3 (tmp_ev (slot_ev e0 rfl)) (hS.bk 0 rfl) rfl) (And.intro rfl rfl))
    refine ⟨fun a w vs69 hA hS hd => ?_, ?_⟩
    ·skip
     exact opG_of rfl (vv (op_move rfl (hA.ev rfl)) (And.intro rfl rfl))
    refine ⟨fun a w vs69 hA hS hd => ?_, ?_⟩
    ·skip
     exact opG_of rfl (vv (op_move rfl (hA.ev rfl)) (And.intro rfl rfl))
    refine ⟨fun a w vs69 hA hS hd => ?_, ?_⟩
    ·skip
     obtain ⟨e2, rs2, hy2, hp2⟩ := hd 2 (by decide)
     obtain ⟨hv2, hr2⟩ := hy2; subst hr2
     rw [hv2] at e2
     obtain ⟨e3, rs3, hy3, hp3⟩ := hd 3 (by decide)
     obtain ⟨hv3, hr3⟩ := hy3; subst hr3
     rw [hv3] at e3
     exact opG_of rfl (vv (op_indexS rfl un_25 ty_54 (tmp_ev (slot_ev e2 rfl)) (i := k) (tmp_ev (slot_ev e3 rfl)) (runs_at (hS.ok 2 _ rfl)).runs (by decide) (by omega)) (And.intro rfl rfl))
    refine ⟨fun a w vs69 hA hS hd => ?_, ?_⟩
    ·skip
     obtain ⟨e4, rs4, hy4, hp4⟩ := hd 4 (by decide)
     obtain ⟨hv4, hr4⟩ := hy4; subst hr4
     rw [hv4] at e4
     exact opG_of rfl (vv (op_fieldS rfl fd_54_1 (tmp_ev (slot_ev e4 rfl)) (runs_at (hS.ok 2 _ rfl)).runs (by rw [((runs_at (hS.ok 2 _ rfl)).runs).1]; omega)) (And.intro rfl rfl))
    refine ⟨fun a w vs69 hA hS hd => ?_, ?_⟩
    ·skip
     obtain ⟨e5, rs5, hy5, hp5⟩ := hd 5 (by decide)
     obtain ⟨hv5, hr5⟩ := hy5; subst hr5
     rw [hv5] at e5
     exact opG_of rfl (vv (op_fieldS rfl fd_48_1 (tmp_ev (slot_ev e5 rfl)) (runs_at (hS.ok 2 _ rfl)).runs (by rw [((runs_at (hS.ok 2 _ rfl)).runs).1]; omega)) (And.intro rfl rfl))
    refine ⟨fun a w vs69 hA hS hd => ?_, ?_⟩
    ·skip
     obtain ⟨e6, rs6, hy6, hp6⟩ := hd 6 (by decide)
     obtain ⟨hv6, hr6⟩ := hy6; subst hr6
     rw [hv6] at e6
     exact opG_of rfl (vv (op_load1E rfl ty_3 (tmp_ev (slot_ev e6 rfl)) (runs_at (hS.ok 2 _ rfl)).runs (runs_at2 (runs_at (hS.ok 2 _ rfl)).len (by omega))) (And.intro rfl rfl))
    refine ⟨fun a w vs69 hA hS hd => ?_, ?_⟩
    ·skip
     obtain ⟨e1, rs1, hy1, hp1⟩ := hd 1 (by decide)
     obtain ⟨hv1, hr1⟩ := hy1; subst hr1
     rw [hv1] at e1
     obtain ⟨e7, rs7, hy7, hp7⟩ := hd 7 (by decide)
     obtain ⟨hv7, hr7⟩ := hy7; subst hr7
     rw [hv7] at e7
     exact opG_of rfl (vv (op_gtr rfl (tmp_ev (slot_ev e1 rfl)) (tmp_ev (slot_ev e7 rfl))) (And.intro (by show Value.bool _ = _; simp only [decide_eq_false hb48, decide_true, decide_false, Bool.not_true, Bool.not_false]) rfl))
    refine ⟨fun a w vs69 hA hS hd => ?_, ?_⟩
    ·skip
     obtain ⟨e8, rs8, hy8, hp8⟩ := hd 8 (by decide)
     obtain ⟨hv8, hr8⟩ := hy8; subst hr8
     rw [hv8] at e8
     exact opG_of rfl (vv (op_move rfl (tmp_ev (slot_ev e8 rfl))) (And.intro rfl rfl))
    refine ⟨fun a w vs69 hA hS hd => ?_, ?_⟩
    ·skip
     obtain ⟨e9, rs9, hy9, hp9⟩ := hd 9 (by decide)
     obtain ⟨hv9, hr9⟩ := hy9; subst hr9
     rw [hv9] at e9
     exact opG_yes rfl rfl (slot_ev e9 rfl) (vv (op_field rfl fd_48_1 (hA.ev rfl)) (And.intro rfl rfl))
    refine ⟨fun a w vs69 hA hS hd => ?_, ?_⟩
    ·skip
     obtain ⟨e9, rs9, hy9, hp9⟩ := hd 9 (by decide)
     obtain ⟨hv9, hr9⟩ := hy9; subst hr9
     rw [hv9] at e9
     obtain ⟨e10, rs10, hy10, hp10⟩ := hd 10 (by decide)
     obtain ⟨hv10, hr10⟩ := hy10; subst hr10
     rw [hv10] at e10
     exact opG_yes rfl rfl (slot_ev e9 rfl) (vv (op_load1 rfl ty_3 (tmp_ev (slot_ev e10 rfl)) (hS.bk 0 rfl) rfl) (And.intro rfl rfl))
    refine ⟨fun a w vs69 hA hS hd => ?_, ?_⟩
    ·skip
     obtain ⟨e9, rs9, hy9, hp9⟩ := hd 9 (by decide)
     obtain ⟨hv9, hr9⟩ := hy9; subst hr9
     rw [hv9] at e9
     exact opG_yes rfl rfl (slot_ev e9 rfl) (vv (op_move rfl (hA.ev rfl)) (And.intro rfl rfl))
    refine ⟨fun a w vs69 hA hS hd => ?_, ?_⟩
    ·skip
     obtain ⟨e9, rs9, hy9, hp9⟩ := hd 9 (by decide)
     obtain ⟨hv9, hr9⟩ := hy9; subst hr9
     rw [hv9] at e9
     exact opG_yes rfl rfl (slot_ev e9 rfl) (vv (op_move rfl (hA.ev rfl)) (And.intro rfl rfl))
    refine ⟨fun a w vs69 hA hS hd => ?_, ?_⟩
    ·skip
     obtain ⟨e9, rs9, hy9, hp9⟩ := hd 9 (by decide)
     obtain ⟨hv9, hr9⟩ := hy9; subst hr9
     rw [hv9] at e9
     obtain ⟨e12, rs12, hy12, hp12⟩ := hd 12 (by decide)
     obtain ⟨hv12, hr12⟩ := hy12; subst hr12
     rw [hv12] at e12
     obtain ⟨e13, rs13, hy13, hp13⟩ := hd 13 (by decide)
     obtain ⟨hv13, hr13⟩ := hy13; subst hr13
     rw [hv13] at e13
     exact opG_yes rfl rfl (slot_ev e9 rfl) (vv (op_indexS rfl un_25 ty_54 (tmp_ev (slot_ev e12 rfl)) (i := k) (tmp_ev (slot_ev e13 rfl)) (runs_at (hS.ok 2 _ rfl)).runs (by decide) (by omega)) (And.intro rfl rfl))
    refine ⟨fun a w vs69 hA hS hd => ?_, ?_⟩
    ·skip
     obtain ⟨e9, rs9, hy9, hp9⟩ := hd 9 (by decide)
     obtain ⟨hv9, hr9⟩ := hy9; subst hr9
     rw [hv9] at e9
     obtain ⟨e14, rs14, hy14, hp14⟩ := hd 14 (by decide)
     obtain ⟨hv14, hr14⟩ := hy14; subst hr14
     rw [hv14] at e14
     exact opG_yes rfl rfl (slot_ev e9 rfl) (vv (op_fieldS rfl fd_54_1 (tmp_ev (slot_ev e14 rfl)) (runs_at (hS.ok 2 _ rfl)).runs (by rw [((runs_at (hS.ok 2 _ rfl)).runs).1]; omega)) (And.intro rfl rfl))
    refine ⟨fun a w vs69 hA hS hd => ?_, ?_⟩
    ·skip
     obtain ⟨e9, rs9, hy9, hp9⟩ := hd 9 (by decide)
     obtain ⟨hv9, hr9⟩ := hy9; subst hr9
     rw [hv9] at e9
     obtain ⟨e15, rs15, hy15, hp15⟩ := hd 15 (by decide)
     obtain ⟨hv15, hr15⟩ := hy15; subst hr15
     rw [hv15] at e15
     exact opG_yes rfl rfl (slot_ev e9 rfl) (vv (op_fieldS rfl fd_48_0 (tmp_ev (slot_ev e15 rfl)) (runs_at (hS.ok 2 _ rfl)).runs (by rw [((runs_at (hS.ok 2 _ rfl)).runs).1]; omega)) (And.intro rfl rfl))
    refine ⟨fun a w vs69 hA hS hd => ?_, ?_⟩
    ·skip
     obtain ⟨e9, rs9, hy9, hp9⟩ := hd 9 (by decide)
     obtain ⟨hv9, hr9⟩ := hy9; subst hr9
     rw [hv9] at e9
     obtain ⟨e16, rs16, hy16, hp16⟩ := hd 16 (by decide)
     obtain ⟨hv16, hr16⟩ := hy16; subst hr16
     rw [hv16] at e16
     exact opG_yes rfl rfl (slot_ev e9 rfl) (vv (op_load1E rfl ty_3 (tmp_ev (slot_ev e16 rfl)) (runs_at (hS.ok 2 _ rfl)).runs (runs_at1 (runs_at (hS.ok 2 _ rfl)).len (by omega))) (And.intro rfl rfl))
    trivial
   intro a70 w71 vs69 rsf75 hA72 hH74 hS73; clear hA68 hS44
   obtain ⟨hs_0, hy_0⟩ := hH74 0 (by decide)
   obtain ⟨hv_0, hr_0⟩ := hy_0
   obtain ⟨hs_1, hy_1⟩ := hH74 1 (by decide)
   obtain ⟨hv_1, hr_1⟩ := hy_1
   obtain ⟨hs_2, hy_2⟩ := hH74 2 (by decide)
   obtain ⟨hv_2, hr_2⟩ := hy_2
   obtain ⟨hs_3, hy_3⟩ := hH74 3 (by decide)
   obtain ⟨hv_3, hr_3⟩ := hy_3
   obtain ⟨hs_4, hy_4⟩ := hH74 4 (by decide)
   obtain ⟨hv_4, hr_4⟩ := hy_4
   obtain ⟨hs_5, hy_5⟩ := hH74 5 (by decide)
   obtain ⟨hv_5, hr_5⟩ := hy_5
   obtain ⟨hs_6, hy_6⟩ := hH74 6 (by decide)
   obtain ⟨hv_6, hr_6⟩ := hy_6
   obtain ⟨hs_7, hy_7⟩ := hH74 7 (by decide)
   obtain ⟨hv_7, hr_7⟩ := hy_7
   obtain ⟨hs_8, hy_8⟩ := hH74 8 (by decide)
   obtain ⟨hv_8, hr_8⟩ := hy_8
   obtain ⟨hs_9, hy_9⟩ := hH74 9 (by decide)
   obtain ⟨hv_9, hr_9⟩ := hy_9
   obtain ⟨hs_10, hy_10⟩ := hH74 10 (by decide)
   obtain ⟨hv_10, hr_10⟩ := hy_10
   obtain ⟨hs_11, hy_11⟩ := hH74 11 (by decide)
   obtain ⟨hv_11, hr_11⟩ := hy_11
   obtain ⟨hs_12, hy_12⟩ := hH74 12 (by decide)
   obtain ⟨hv_12, hr_12⟩ := hy_12
   obtain ⟨hs_13, hy_13⟩ := hH74 13 (by decide)
   obtain ⟨hv_13, hr_13⟩ := hy_13
   obtain ⟨hs_14, hy_14⟩ := hH74 14 (by decide)
   obtain ⟨hv_14, hr_14⟩ := hy_14
   obtain ⟨hs_15, hy_15⟩ := hH74 15 (by decide)
   obtain ⟨hv_15, hr_15⟩ := hy_15
   obtain ⟨hs_16, hy_16⟩ := hH74 16 (by decide)
   obtain ⟨hv_16, hr_16⟩ := hy_16
   obtain ⟨hs_17, hy_17⟩ := hH74 17 (by decide)
   obtain ⟨hv_17, hr_17⟩ := hy_17
   have hS76 : Sep NoB w w71 [(blk b39 48 [(Value.int .i64 (stLo ((rs.getD k run0).segs) l)), (Value.int .i64 (stHi ((rs.getD k run0).segs) l))]), (sl xl 1 l.length (ints l)), (runsR false vu lv rs)] := by rw [show catR rsf75 0 18 = ([] : List Res) by (try simp only [catR, hr_0, hr_1, hr_2, hr_3, hr_4, hr_5, hr_6, hr_7, hr_8, hr_9, hr_10, hr_11, hr_12, hr_13, hr_14, hr_15, hr_16, hr_17]); (try rfl)] at hS73; exact hS73
   rw [hv_9] at hs_9
   have hA77 : Fr 40 [] [(29, (Value.bool false)), (6, (bptr b39 0)), (5, (Value.int .i64 (k : Int))), (0, vu), (1, xl)] a70 := hA72.add (slot_ev hs_9 rfl); clear hA72
   rw [hv_11] at hs_11
   have hA78 : Fr 40 [] [(31, (Value.int .i64 (stHi ((rs.getD k run0).segs) l))), (29, (Value.bool false)), (6, (bptr b39 0)), (5, (Value.int .i64 (k : Int))), (0, vu), (1, xl)] a70 := hA77.add (slot_ev hs_11 rfl); clear hA77
   rw [hv_17] at hs_17
   have hA79 : Fr 40 [] [(37, (Value.int .i64 ((rs.getD k run0).lo))), (31, (Value.int .i64 (stHi ((rs.getD k run0).segs) l))), (29, (Value.bool false)), (6, (bptr b39 0)), (5, (Value.int .i64 (k : Int))), (0, vu), (1, xl)] a70 := hA78.add (slot_ev hs_17 rfl); clear hA78
   clear hH74 hS73 hs_0 hs_1 hs_2 hs_3 hs_4 hs_5 hs_6 hs_7 hs_8 hs_9 hs_10 hs_11 hs_12 hs_13 hs_14 hs_15 hs_16 hs_17
   clear hr_0
   clear hv_0
   clear hr_1
   clear hv_1
   clear hr_2
   clear hv_2
   clear hr_3
   clear hv_3
   clear hr_4
   clear hv_4
   clear hr_5
   clear hv_5
   clear hr_6
   clear hv_6
   clear hr_7
   clear hv_7
   clear hr_8
   clear hv_8
   clear hr_9
   clear hv_9
   clear hr_10
   clear hv_10
   clear hr_11
   clear hv_11
   clear hr_12
   clear hv_12
   clear hr_13
   clear hv_13
   clear hr_14
   clear hv_14
   clear hr_15
   clear hv_15
   clear hr_16
   clear hv_16
   clear hr_17
   clear hv_17
   refine stg hA79 (op_lss rfl (hA79.ev rfl) (hA79.ev rfl)) rfl rfl rfl rfl (by decide) fun a80 hA81 => ?_; clear hA79 a70
   refine st hA81 (op_pick_f rfl (hA81.ev rfl) (hA81.ev rfl)) rfl rfl (by decide) fun a82 hA83 => ?_; clear hA81 a80
   refine wl_nil ?_
   refine then_n ?_
   by_cases hb84 : (stHi ((rs.getD k run0).segs) l) < ((rs.getD k run0).lo)
   ·skip
    rw [decide_eq_true hb84] at hA83
    refine c_true hA83 rfl ?_
    refine c_seq ?_
    have hA85 := hA83.as [] rfl; clear hA83
    refine c_region ?_
    refine st hA85 (op_assign rfl (evc _ _)) rfl rfl (by decide) fun a86 hA87 => ?_; clear hA85 a82
    refine wl_nil ?_
    refine then_n ?_
    refine c_ret ?_
    refine blk_ret ?_
    refine then_ret ?_
    refine then_ret ?_
    refine blk_ret ?_
    refine then_ret ?_
    refine fin_run hA87 (.inl rfl) (run_results1 hA87 rfl (.tmp rfl)) ?_
    exact ⟨congrArg Value.bool (by first | exact (allow_all (fun i hi => hal i (by omega))).symm | exact (allow_no (k := k) (by omega) (by unfold allowsB; simp only [Bool.and_eq_false_iff, decide_eq_false_iff_not]; omega)).symm), hS76.ext⟩
   ·skip
    rw [decide_eq_false hb84] at hA83
    refine c_false hA83 rfl ?_
    refine c_skip ?_
    refine blk_n ?_
    refine then_n ?_
    have hA88 := hA83.as [(5, (Value.int .i64 (k : Int))), (0, vu), (1, xl)] rfl; clear hA83
    refine c_region ?_
    refine st hA88 (op_move rfl (hA88.ev rfl)) rfl rfl (by decide) fun a89 hA90 => ?_; clear hA88 a82
    refine st hA90 (op_add rfl (hA90.ev rfl) (evc _ _) (by omega) (by omega)) rfl rfl (by decide) fun a91 hA92 => ?_; clear hA90 a89
    refine st hA92 (op_assign rfl (hA92.ev rfl)) rfl rfl (by decide) fun a93 hA94 => ?_; clear hA92 a91
    refine wl_nil ?_
    have hS95 : Sep NoB w w71 [(sl xl 1 l.length (ints l)), (runsR false vu lv rs)] := hS76.keep [1, 2] (by decide) _ rfl rfl; clear hS76
    exact then_n ⟨k + 1, ⟨hA94.as _ rfl, hS95, by omega, (fun i hi => by rcases Nat.lt_succ_iff_lt_or_eq.1 hi with h | h; exact hal i h; subst h; unfold allowsB; simp only [Bool.and_eq_true, decide_eq_true_eq]; omega)⟩, by omega⟩
 ·skip
  rw [decide_eq_false hb18] at hA17
  refine c_false hA17 rfl ?_
  refine c_exit ?_
  refine then_exit ?_
  refine then_exit ?_
  refine blk_hit ?_
  refine then_n ?_
  refine c_seq ?_
  have hA96 := hA17.as [] rfl; clear hA17
  refine c_region ?_
  refine st hA96 (op_assign rfl (evc _ _)) rfl rfl (by decide) fun a97 hA98 => ?_; clear hA96 a16
  refine wl_nil ?_
  refine then_n ?_
  refine c_ret ?_
  refine fin_run hA98 (.inl rfl) (run_results1 hA98 rfl (.tmp rfl)) ?_
  exact ⟨congrArg Value.bool (by first | exact (allow_all (fun i hi => hal i (by omega))).symm | exact (allow_no (k := k) (by omega) (by unfold allowsB; simp only [Bool.and_eq_false_iff, decide_eq_false_iff_not]; omega)).symm), hS9.ext⟩
end Go.Proofs.Ytkkglkdnnfegkaa

namespace Go.Proofs.Ytkkglkdnnfegkaa
open Go.RowKit Go.Eng
theorem take_pair {R : List (Int × Int)} {k : Nat} (h : k < R.length) : R.take k ++ [((R.getD k (0, 0)).1, (R.getD k (0, 0)).2)] = R.take (k + 1) := by
  have e : R[k]? = some R[k] := List.getElem?_eq_getElem h
  rw [List.take_add_one, e]
  simp only [List.getD, e, Option.getD_some]; rfl
theorem take_trip {R : List Seg} {k : Nat} (h : k < R.length) : R.take k ++ [((R.getD k (0, 0, 0)).1, (R.getD k (0, 0, 0)).2.1, (R.getD k (0, 0, 0)).2.2)] = R.take (k + 1) := by
  have e : R[k]? = some R[k] := List.getElem?_eq_getElem h
  rw [List.take_add_one, e]
  simp only [List.getD, e, Option.getD_some]; rfl
theorem take_run {R : List RunD} {k : Nat} (h : k < R.length) : R.take k ++ [R.getD k run0] = R.take (k + 1) := by
  have e : R[k]? = some R[k] := List.getElem?_eq_getElem h
  rw [List.take_add_one, e]
  simp only [List.getD, e, Option.getD_some]; rfl
theorem runs_snoc {lv : List Value} {rs : List RunD} (hl : lv.length = rs.length) (u : Value) (x : RunD) : vtrips (runV lv rs) ++ [u, .int .i64 x.lo, .int .i64 x.hi] = vtrips (runV (lv ++ [u]) (rs ++ [x])) := by
  rw [runV_snoc hl, vtrips_append]; rfl
end Go.Proofs.Ytkkglkdnnfegkaa
namespace Go.Eng
open Go.RowKit Go.Eng
open Go.Proofs.Ytkkglkdnnfegkaa
section
variable {X : Nat → Prop} {w0 w : World} {L : List Res}
theorem Sep.segs_nil (h : Eng.Sep X w0 w L) : Eng.Sep X w0 w (segsR true [] [] :: L) := h.push (Ext.refl _ _) ⟨rfl, fun i hi => by simp at hi⟩ (fun b ⟨i, hi, _⟩ => by simp at hi)
theorem Sep.segs_snoc {u : Value} {e : TypeId} {x : RunD} {lv : List Value} {rs : List RunD} (h : Eng.Sep X w0 w (row u e 3 x.segs.length (trips x.segs) :: segsR true lv rs :: L)) : Eng.Sep X w0 w (segsR true (lv ++ [u]) (rs ++ [x]) :: L) := by
  have h1 : (segsR true lv rs).p w := h.ok 1 _ rfl
  have h0 : SlAt w u 3 x.segs.length (trips x.segs) := SlAt.of_row (h.ok_row 0 rfl)
  have each : ∀ i, i < (rs ++ [x]).length → ((lv ++ [u]).getD i nilS = lv.getD i nilS ∧ (rs ++ [x]).getD i run0 = rs.getD i run0 ∧ i < rs.length) ∨ ((lv ++ [u]).getD i nilS = u ∧ (rs ++ [x]).getD i run0 = x) := fun i hi => by
    simp only [List.length_append, List.length_cons, List.length_nil] at hi
    rw [getD_app, getD_app, h1.1]
    by_cases hl : i < rs.length
    · rw [if_pos hl, if_pos hl]; exact .inl ⟨rfl, rfl, hl⟩
    · rw [if_neg hl, if_neg hl, if_pos (by omega), if_pos (by omega)]; exact .inr ⟨rfl, rfl⟩
  refine h.join ⟨by simp [h1.1], fun i hi => ?_⟩ (fun b ⟨i, hi, hb⟩ => ?_) (fun _ => ⟨rfl, rfl⟩) (fun _ => trivial)
  · rcases each i hi with ⟨e1, e2, e3⟩ | ⟨e1, e2⟩
    · rw [e1, e2]; exact h1.2 i e3
    · rw [e1, e2]; exact h0
  · rcases each i hi with ⟨e1, e2, e3⟩ | ⟨e1, e2⟩
    · rw [e1, e2] at hb; exact .inr ⟨i, e3, hb⟩
    · rw [e1, e2] at hb; exact .inl (slFoot_row hb)
theorem Sep.segs_say {i : Nat} {lv : List Value} {rs rs' : List RunD} (h : Eng.Sep X w0 w L) (hi : L[i]? = some (segsR true lv rs)) (e : rs = rs') : Eng.Sep X w0 w (L.set i (segsR true lv rs')) := by
  subst e; rw [set_same hi]; exact h
end
end Go.Eng
namespace Go.Proofs.Ytkkglkdnnfegkaa
open Go.RowKit Go.Eng
section
variable {X : Nat → Prop} {w0 w : World} {L : List Res}
theorem segs_len (h : Eng.Sep X w0 w L) (i : Nat) {lv : List Value} {rs : List RunD} (hi : L[i]? = some (segsR true lv rs)) : lv.length = rs.length := (h.ok i _ hi : (segsR true lv rs).p w).1
end
end Go.Proofs.Ytkkglkdnnfegkaa
namespace Go.Eng
open Go.RowKit Go.Eng
open Go.Proofs.Ytkkglkdnnfegkaa
section
variable {X : Nat → Prop} {w0 w : World} {L : List Res}
theorem Sep.runs_join {v : Value} {e : TypeId} {n : Nat} {lv : List Value} {rs : List RunD} (h : Eng.Sep X w0 w (row v e 3 n (vtrips (runV lv rs)) :: segsR true lv rs :: L)) (hn : n = rs.length) : Eng.Sep X w0 w (runsR true v lv rs :: L) := by
  subst hn
  have h1 : (segsR true lv rs).p w := h.ok 1 _ rfl
  refine h.join ⟨SlAt.of_row (h.ok_row 0 rfl), h1.1, h1.2⟩ (fun b hb => ?_) (fun _ => ⟨rfl, rfl⟩) (fun _ => trivial)
  rcases hb with hb | hb
  · exact .inl (slFoot_row hb)
  · exact .inr hb
end
end Go.Eng
namespace Go.Proofs.Ytkkglkdnnfegkaa
open Go.RowKit Go.Eng
end Go.Proofs.Ytkkglkdnnfegkaa

namespace Go.Proofs.Ytkkglkdnnfegkaa
open Go.RowKit Go.Shelf Go.Eng
theorem ze_33 : (Try.prog.info? 33).bind (·.zero) = some (Value.agg #[(Value.slice none 0 0)]) := by kernel_rfl
theorem en_25 : ∀ args w, (callFunc 25 args).run Try.prog w = .ok (.enter 25 args) w := enters_of Try.func25 (by kernel_rfl) rfl
theorem bs_42_1_0iia (x0_0 : Int) (x0_1 : Int) : Instr.fill (fun i => some (i * 2, 2)) ((Array.range (1 * 2)).map ((Value.agg #[(Value.int .i64 0), (Value.int .i64 0)]).cells[· % (Value.agg #[(Value.int .i64 0), (Value.int .i64 0)]).cells.size]!)) [(0, .agg #[(.int .i64 x0_0), (.int .i64 x0_1)])] = some (([(.int .i64 x0_0), (.int .i64 x0_1)] : List Value).toArray) := by kernel_rfl
theorem bd_67_0i_1iia (x0_0 : Int) (x1_0 : Int) (x1_1 : Int) (w : World) : (Instr.build 67 #[(0, (.int .i64 x0_0)), (1, .agg #[(.int .i64 x1_0), (.int .i64 x1_1)])]).run Try.prog w = .ok (.agg #[(.int .i64 x0_0), (.int .i64 x1_0), (.int .i64 x1_1)]) w := by kernel_rfl
theorem bs_67_1_0iiia (x0_0 : Int) (x0_1 : Int) (x0_2 : Int) : Instr.fill (fun i => some (i * 3, 3)) ((Array.range (1 * 3)).map ((Value.agg #[(Value.int .i64 0), (Value.int .i64 0), (Value.int .i64 0)]).cells[· % (Value.agg #[(Value.int .i64 0), (Value.int .i64 0), (Value.int .i64 0)]).cells.size]!)) [(0, .agg #[(.int .i64 x0_0), (.int .i64 x0_1), (.int .i64 x0_2)])] = some (([(.int .i64 x0_0), (.int .i64 x0_1), (.int .i64 x0_2)] : List Value).toArray) := by kernel_rfl
theorem el_67 : elK Try.prog 67 = some ((Value.agg #[(Value.int .i64 0), (Value.int .i64 0), (Value.int .i64 0)]), 3, 24) := by kernel_rfl
set_option maxHeartbeats 1000000 in
theorem Material_ok (w : World) (R : List (Int × Int)) (vr : Value) (hm : SlAt w vr 2 R.length (pairs R)) (h6 : R.length ≤ 6) :
  Calls Try.prog 19 #[(Value.agg #[vr])] w (Ret fun v w' => ∃ u, v = .agg #[u] ∧ Sep NoB w w' [row u 42 2 R.length (pairs R)]) := by
 refine calls_enter Try.func19 rfl fun a0 hA0 => ?_
 replace hA0 : Fr 24 [] [(0, (Value.agg #[vr]))] a0 := hA0
 have hS0 : Sep NoB w w [(sl vr 2 R.length (pairs R))] := sep_ro ⟨rfl, hm, trivial⟩
 refine c_seq ?_
 refine c_region ?_
 refine stw hA0 (op_box hS0 rfl (hA0.ev rfl) (cs := [vr]) rfl) rfl rfl (by decide) ?_
 rintro a1 _ w3 ⟨b4, rfl, hS5⟩ hA2; clear hA0 hS0 a0
 refine stw hA2 (op_alloc hS5 rfl ze_33 (cs := [(Value.slice none 0 0)]) rfl) rfl rfl (by decide) ?_
 rintro a6 _ w8 ⟨b9, rfl, hS10⟩ hA7; clear hA2 hS5 a1
 refine wl_nil ?_
 refine then_n ?_
 refine c_seq ?_
 refine c_region ?_
 refine stw hA7 (op_alloc hS10 rfl ze_33 (cs := [(Value.slice none 0 0)]) rfl) rfl rfl (by decide) ?_
 rintro a11 _ w13 ⟨b14, rfl, hS15⟩ hA12; clear hA7 hS10 a6
 refine wl_nil ?_
 refine then_n ?_
 refine c_seq ?_
 refine c_seq ?_
 refine c_region ?_
 refine st hA12 (op_assign rfl (evc _ _)) rfl rfl (by decide) fun a16 hA17 => ?_; clear hA12 a11
 refine wl_nil ?_
 refine then_n ?_
 refine c_block ?_
 have hS18 := hS15.nil_row 42 2; clear hS15
 have hA19 := hA17.as [(4, (Value.int .i64 0)), (3, (bptr b14 0)), (2, (bptr b9 0)), (1, (bptr b4 0))] rfl; clear hA17
 refine c_loop (G := Nat) (fun (k : Nat) a_ w_ => ∃ vo_ : Value, Fr 24 [] [(4, (Value.int .i64 (k : Int))), (3, (bptr b14 0)), (2, (bptr b9 0)), (1, (bptr b4 0))] a_ ∧ Sep NoB w w_ [(row vo_ 42 2 ((R.take k).length) (pairs (R.take k))), (blk b14 33 [vo_]), (blk b9 33 [(Value.slice none 0 0)]), (blk b4 24 [vr]), (sl vr 2 R.length (pairs R))] ∧ (k ≤ R.length)) (fun k => R.length - k) 0 ⟨(Value.slice none 0 0), hA19.as _ rfl, hS18, by omega⟩ ?_
 clear hA19 hS18 a16
 rintro k a20 w22 ⟨vo_, hA21, hS23, hk⟩
 have hlt_ : (R.take k).length ≤ 6 := by simp only [List.length_take]; omega
 refine c_seq ?_
 refine c_seq ?_
 refine c_region ?_
 refine st hA21 (op_move rfl (hA21.ev rfl)) rfl rfl (by decide) fun a24 hA25 => ?_; clear hA21 a20
 refine st hA25 (op_field rfl fd_24_0 (hA25.ev rfl)) rfl rfl (by decide) fun a26 hA27 => ?_; clear hA25 a24
 refine st hA27 (op_load1 rfl ty_22 (hA27.ev rfl) (hS23.bk 3 rfl) rfl) rfl rfl (by decide) fun a28 hA29 => ?_; clear hA27 a26
 refine st hA29 (op_lenS rfl un_22 (hA29.ev rfl) (hS23.sk 4 rfl)) rfl rfl (by decide) fun a30 hA31 => ?_; clear hA29 a28
 refine st hA31 (op_lss rfl (hA31.ev rfl) (hA31.ev rfl)) rfl rfl (by decide) fun a32 hA33 => ?_; clear hA31 a30
 refine wl_nil ?_
 refine then_n ?_
 by_cases hb34 : (k : Int) < (R.length : Int)
 ·skip
  rw [decide_eq_true hb34] at hA33
  refine c_true hA33 rfl ?_
  refine c_skip ?_
  refine then_n ?_
  refine c_seq ?_
  refine c_block ?_
  have hA35 := hA33.as [(4, (Value.int .i64 (k : Int))), (3, (bptr b14 0)), (2, (bptr b9 0)), (1, (bptr b4 0))] rfl; clear hA33
  refine c_drawV mixed hA35 hS23 9 [[], [0], [], [2], [], [3, 4], [5], [6], [7]] [(fun (vs36 : Nat → Value) (v_ : Value) (rs_ : List Res) => v_ = (bptr b14 0) ∧ rs_ = []), (fun (vs36 : Nat → Value) (v_ : Value) (rs_ : List Res) => v_ = vo_ ∧ rs_ = []), (fun (vs36 : Nat → Value) (v_ : Value) (rs_ : List Res) => v_ = (bptr b4 0) ∧ rs_ = []), (fun (vs36 : Nat → Value) (v_ : Value) (rs_ : List Res) => v_ = vr ∧ rs_ = []), (fun (vs36 : Nat → Value) (v_ : Value) (rs_ : List Res) => v_ = (Value.int .i64 (k : Int)) ∧ rs_ = []), (fun (vs36 : Nat → Value) (v_ : Value) (rs_ : List Res) => v_ = (eptr vr (k * 2)) ∧ rs_ = []), (fun (vs36 : Nat → Value) (v_ : Value) (rs_ : List Res) => v_ = (Value.agg #[(Value.int .i64 ((R.getD k (0, 0)).1)), (Value.int .i64 ((R.getD k (0, 0)).2))]) ∧ rs_ = []), (fun (vs36 : Nat → Value) (v_ : Value) (rs_ : List Res) => v_ = (Value.agg #[(Value.int .i64 ((R.getD k (0, 0)).1)), (Value.int .i64 ((R.getD k (0, 0)).2))]) ∧ rs_ = []), (fun (vs36 : Nat → Value) (v_ : Value) (rs_ : List Res) => True ∧ rs_ = [(row v_ 42 2 1 [(Value.int .i64 ((R.getD k (0, 0)).1)), (Value.int .i64 ((R.getD k (0, 0)).2))])])] (by decide +kernel) (by decide +kernel) rfl rfl ⟨(fun _ _ _ _ _ h_ => h_), (fun _ _ _ _ _ h_ => h_), (fun _ _ _ _ _ h_ => h_), (fun _ _ _ _ _ h_ => h_), (fun _ _ _ _ _ h_ => h_), (fun _ _ _ _ _ h_ => h_), (fun _ _ _ _ _ h_ => h_), (fun _ _ _ _ _ h_ => h_), (fun _ _ _ _ _ h_ => h_), trivial⟩ ?_ ?_
  ·skip
   refine ⟨fun a w vs36 hA hS hd => ?_, ?_⟩
   ·skip
    exact opG_of rfl (vv (op_field rfl fd_33_0 (hA.ev rfl)) (And.intro rfl rfl))
   refine ⟨fun a w vs36 hA hS hd => ?_, ?_⟩
   ·skip
    obtain ⟨e0, rs0, hy0, hp0⟩ := hd 0 (by decide)
    obtain ⟨hv0, hr0⟩ := hy0; subst hr0
    rw [hv0] at e0
    exact opG_of rfl (vv (op_load1 rfl ty_28 (tmp_ev (slot_ev e0 rfl)) (hS.bk 1 rfl) rfl) (And.intro rfl rfl))
   refine ⟨fun a w vs36 hA hS hd => ?_, ?_⟩
   ·skip
    exact opG_of rfl (vv (op_field rfl fd_24_0 (hA.ev rfl)) (And.intro rfl rfl))
   refine ⟨fun a w vs36 hA hS hd => ?_, ?_⟩
   ·skip
    obtain ⟨e2, rs2, hy2, hp2⟩ := hd 2 (by decide)
    obtain ⟨hv2, hr2⟩ := hy2; subst hr2
    rw [hv2] at e2
    exact opG_of rfl (vv (op_load1 rfl ty_22 (tmp_ev (slot_ev e2 rfl)) (hS.bk 3 rfl) rfl) (And.intro rfl rfl))
   refine ⟨fun a w vs36 hA hS hd => ?_, ?_⟩
   ·skip
    exact opG_of rfl (vv (op_move rfl (hA.ev rfl)) (And.intro rfl rfl))
   refine ⟨fun a w vs36 hA hS hd => ?_, ?_⟩
   ·skip
    obtain ⟨e3, rs3, hy3, hp3⟩ := hd 3 (by decide)
    obtain ⟨hv3, hr3⟩ := hy3; subst hr3
    rw [hv3] at e3
    obtain ⟨e4, rs4, hy4, hp4⟩ := hd 4 (by decide)
    obtain ⟨hv4, hr4⟩ := hy4; subst hr4
    rw [hv4] at e4
    exact opG_of rfl (vv (op_indexS rfl un_22 ty_48 (tmp_ev (slot_ev e3 rfl)) (i := k) (tmp_ev (slot_ev e4 rfl)) (hS.sk 4 rfl) (by decide) (by omega)) (And.intro rfl rfl))
   refine ⟨fun a w vs36 hA hS hd => ?_, ?_⟩
   ·skip
    obtain ⟨e5, rs5, hy5, hp5⟩ := hd 5 (by decide)
    obtain ⟨hv5, hr5⟩ := hy5; subst hr5
    rw [hv5] at e5
    exact opG_of rfl (vv (op_loadAE rfl ty_48 (tmp_ev (slot_ev e5 rfl)) (hS.sk 4 rfl) (pairs_all (by omega)) rfl (by decide)) (And.intro rfl rfl))
   refine ⟨fun a w vs36 hA hS hd => ?_, ?_⟩
   ·skip
    obtain ⟨e6, rs6, hy6, hp6⟩ := hd 6 (by decide)
    obtain ⟨hv6, hr6⟩ := hy6; subst hr6
    rw [hv6] at e6
    exact opG_of rfl (vx (op_call rfl en_25 (ev1 (tmp_ev (slot_ev e6 rfl))) (to_ok _ _ _)) (And.intro rfl rfl))
   refine ⟨fun a w vs36 hA hS hd => ?_, ?_⟩
   ·skip
    obtain ⟨e7, rs7, hy7, hp7⟩ := hd 7 (by decide)
    obtain ⟨hv7, hr7⟩ := hy7; subst hr7
    rw [hv7] at e7
    exact opG_of rfl (vblt rfl (pv1 (tmp_ev (slot_ev e7 rfl))) un_28 ty_42 ze_42 (by decide) (cs := [(Value.int .i64 ((R.getD k (0, 0)).1)), (Value.int .i64 ((R.getD k (0, 0)).2))]) (bs_42_1_0iia _ _) rfl (by decide) (fun _ => And.intro trivial rfl))
   trivial
  intro a37 w38 vs36 rsf42 hA39 hH41 hS40; clear hA35 hS23
  obtain ⟨hs_0, hy_0⟩ := hH41 0 (by decide)
  obtain ⟨hv_0, hr_0⟩ := hy_0
  obtain ⟨hs_1, hy_1⟩ := hH41 1 (by decide)
  obtain ⟨hv_1, hr_1⟩ := hy_1
  obtain ⟨hs_2, hy_2⟩ := hH41 2 (by decide)
  obtain ⟨hv_2, hr_2⟩ := hy_2
  obtain ⟨hs_3, hy_3⟩ := hH41 3 (by decide)
  obtain ⟨hv_3, hr_3⟩ := hy_3
  obtain ⟨hs_4, hy_4⟩ := hH41 4 (by decide)
  obtain ⟨hv_4, hr_4⟩ := hy_4
  obtain ⟨hs_5, hy_5⟩ := hH41 5 (by decide)
  obtain ⟨hv_5, hr_5⟩ := hy_5
  obtain ⟨hs_6, hy_6⟩ := hH41 6 (by decide)
  obtain ⟨hv_6, hr_6⟩ := hy_6
  obtain ⟨hs_7, hy_7⟩ := hH41 7 (by decide)
  obtain ⟨hv_7, hr_7⟩ := hy_7
  obtain ⟨hs_8, hy_8⟩ := hH41 8 (by decide)
  obtain ⟨hv_8, hr_8⟩ := hy_8
  have hS43 : Sep NoB w w38 [(row (vs36 8) 42 2 1 [(Value.int .i64 ((R.getD k (0, 0)).1)), (Value.int .i64 ((R.getD k (0, 0)).2))]), (row vo_ 42 2 ((R.take k).length) (pairs (R.take k))), (blk b14 33 [vo_]), (blk b9 33 [(Value.slice none 0 0)]), (blk b4 24 [vr]), (sl vr 2 R.length (pairs R))] := by rw [show catR rsf42 0 9 = ([(row (vs36 8) 42 2 1 [(Value.int .i64 ((R.getD k (0, 0)).1)), (Value.int .i64 ((R.getD k (0, 0)).2))])] : List Res) by (try simp only [catR, hr_0, hr_1, hr_2, hr_3, hr_4, hr_5, hr_6, hr_7, hr_8]); (try rfl)] at hS40; exact hS40
  rw [hv_1] at hs_1
  have hA44 : Fr 24 [] [(13, vo_), (4, (Value.int .i64 (k : Int))), (3, (bptr b14 0)), (2, (bptr b9 0)), (1, (bptr b4 0))] a37 := hA39.add (slot_ev hs_1 rfl); clear hA39
  have hA45 : Fr 24 [] [(20, (vs36 8)), (13, vo_), (4, (Value.int .i64 (k : Int))), (3, (bptr b14 0)), (2, (bptr b9 0)), (1, (bptr b4 0))] a37 := hA44.add (slot_ev hs_8 rfl); clear hA44
  clear hH41 hS40 hs_0 hs_1 hs_2 hs_3 hs_4 hs_5 hs_6 hs_7 hs_8
  clear hr_0
  clear hv_0
  clear hr_1
  clear hv_1
  clear hr_2
  clear hv_2
  clear hr_3
  clear hv_3
  clear hr_4
  clear hv_4
  clear hr_5
  clear hv_5
  clear hr_6
  clear hv_6
  clear hr_7
  clear hv_7
  clear hr_8
  clear hv_8
  refine stw hA45 (op_append hS43 rfl un_28 el_42 (hA45.ev rfl) (hA45.ev rfl) (i := 1) rfl (SlAt.of_row (hS43.ok_row 0 rfl)) rfl (by simp only [maxLen]; omega) (by omega)) rfl rfl (by decide) ?_
  intro a46 v49 w48 hS50 hA47
  have hS51 := hS50.row_say (i := 1) rfl (n' := ((R.take k) ++ [((R.getD k (0, 0)).1, (R.getD k (0, 0)).2)]).length) (xs' := (pairs ((R.take k) ++ [((R.getD k (0, 0)).1, (R.getD k (0, 0)).2)]))) (by simp) (by simp [pairs]); clear hS50 hA45 hS43 a37
  refine st hA47 (op_field rfl fd_33_0 (hA47.ev rfl)) rfl rfl (by decide) fun a52 hA53 => ?_; clear hA47 a46
  refine sts hA53 (op_store hS51 rfl ty_28 (hA53.ev rfl) (hA53.ev rfl) (i := 2) rfl (vs := [v49]) (isSl_cells (SlAt.isSl (SlAt.of_row (hS51.ok_row 1 rfl)))) rfl (all_c (SlAt.one (SlAt.of_row (hS51.ok_row 1 rfl))) all_n) (Nat.le_of_ble_eq_true rfl)) rfl rfl ?_
  intro _ w54 hS55 hA56; clear hA53
  have hS57 : Sep NoB w w54 [(row (vs36 8) 42 2 1 [(Value.int .i64 ((R.getD k (0, 0)).1)), (Value.int .i64 ((R.getD k (0, 0)).2))]), (row v49 42 2 (((R.take k) ++ [((R.getD k (0, 0)).1, (R.getD k (0, 0)).2)]).length) (pairs ((R.take k) ++ [((R.getD k (0, 0)).1, (R.getD k (0, 0)).2)]))), (blk b14 33 [v49]), (blk b9 33 [(Value.slice none 0 0)]), (blk b4 24 [vr]), (sl vr 2 R.length (pairs R))] := hS55; clear hS55 hS51
  refine wl_nil ?_
  refine blk_n ?_
  refine then_n ?_
  refine c_region ?_
  refine st hA56 (op_move rfl (hA56.ev rfl)) rfl rfl (by decide) fun a58 hA59 => ?_; clear hA56 a52
  refine st hA59 (op_add rfl (hA59.ev rfl) (evc _ _) (by omega) (by omega)) rfl rfl (by decide) fun a60 hA61 => ?_; clear hA59 a58
  refine st hA61 (op_assign rfl (hA61.ev rfl)) rfl rfl (by decide) fun a62 hA63 => ?_; clear hA61 a60
  refine wl_nil ?_
  have hS64 : Sep NoB w w54 [(row v49 42 2 (((R.take k) ++ [((R.getD k (0, 0)).1, (R.getD k (0, 0)).2)]).length) (pairs ((R.take k) ++ [((R.getD k (0, 0)).1, (R.getD k (0, 0)).2)]))), (blk b14 33 [v49]), (blk b9 33 [(Value.slice none 0 0)]), (blk b4 24 [vr]), (sl vr 2 R.length (pairs R))] := hS57.keep [1, 2, 3, 4, 5] (by decide) _ rfl rfl; clear hS57
  exact then_n ⟨k + 1, ⟨v49, hA63.as _ rfl, (hS64.row_say (i := 0) rfl (by rw [take_pair (by omega)]) (by rw [take_pair (by omega)])), by omega⟩, by omega⟩
 ·skip
  rw [decide_eq_false hb34] at hA33
  refine c_false hA33 rfl ?_
  refine c_exit ?_
  refine then_exit ?_
  refine then_exit ?_
  refine blk_hit ?_
  refine then_n ?_
  refine c_seq ?_
  have hA65 := hA33.as [(3, (bptr b14 0)), (2, (bptr b9 0))] rfl; clear hA33
  refine c_region ?_
  refine st hA65 (op_loadA rfl ty_33 (hA65.ev rfl) (hS23.bk 1 rfl) (l := [vo_]) rfl rfl) rfl rfl (by decide) fun a66 hA67 => ?_; clear hA65 a32
  refine sts hA67 (op_store hS23 rfl ty_33 (hA67.ev rfl) (hA67.ev rfl) (i := 2) rfl (vs := [vo_]) rfl rfl (all_c (SlAt.one (SlAt.of_row (hS23.ok_row 0 rfl))) all_n) (Nat.le_of_ble_eq_true rfl)) rfl rfl ?_
  intro _ w68 hS69 hA70; clear hA67
  have hS71 : Sep NoB w w68 [(row vo_ 42 2 ((R.take k).length) (pairs (R.take k))), (blk b14 33 [vo_]), (blk b9 33 [vo_]), (blk b4 24 [vr]), (sl vr 2 R.length (pairs R))] := hS69; clear hS69 hS23
  refine wl_nil ?_
  refine then_n ?_
  refine c_ret ?_
  refine fin_run hA70 (.inl rfl) (run_results1 hA70 rfl (.cellA rfl ty_33 (hS71.bk 2 rfl) (l := [vo_]) rfl rfl)) ?_
  exact ⟨_, rfl, (hS71.row_say (i := 0) rfl (n' := R.length) (xs' := pairs R) (by rw [show k = R.length by omega, List.take_length]) (by rw [show k = R.length by omega, List.take_length])).keep [0] (by decide) _ rfl rfl⟩
set_option maxHeartbeats 1000000 in
theorem Plan_ok (w : World) (plan : List Seg) (vp : Value) (hp : SlAt w vp 3 plan.length (trips plan)) (h12 : plan.length ≤ 12) :
  Calls Try.prog 29 #[vp] w (Ret fun v w' => Ext NoB w w' ∧ w'.ownsRow w.heap.size 67 3 v plan.length (trips plan)) := by
 refine calls_enter Try.func29 rfl fun a0 hA0 => ?_
 replace hA0 : Fr 27 [] [(0, vp)] a0 := hA0
 have hS0 : Sep NoB w w [(sl vp 3 plan.length (trips plan))] := sep_ro ⟨rfl, hp, trivial⟩
 refine c_seq ?_
 refine c_region ?_
 refine st hA0 (op_assign rfl (evc _ _)) rfl rfl (by decide) fun a1 hA2 => ?_; clear hA0 a0
 refine wl_nil ?_
 refine then_n ?_
 refine c_seq ?_
 refine c_region ?_
 refine st hA2 (op_assign rfl (evc _ _)) rfl rfl (by decide) fun a3 hA4 => ?_; clear hA2 a1
 have hS5 := hS0.nil_row 67 3; clear hS0
 refine wl_nil ?_
 refine then_n ?_
 refine c_seq ?_
 refine c_seq ?_
 refine c_region ?_
 refine st hA4 (op_assign rfl (evc _ _)) rfl rfl (by decide) fun a6 hA7 => ?_; clear hA4 a3
 refine wl_nil ?_
 refine then_n ?_
 refine c_block ?_
 have hA8 := hA7.as [(4, (Value.int .i64 0)), (3, (Value.slice none 0 0)), (0, vp)] rfl; clear hA7
 refine c_loop (G := Nat) (fun (k : Nat) a_ w_ => ∃ v3_ : Value, Fr 27 [] [(4, (Value.int .i64 (k : Int))), (3, v3_), (0, vp)] a_ ∧ Sep NoB w w_ [(row v3_ 67 3 ((plan.take k).length) (trips (plan.take k))), (sl vp 3 plan.length (trips plan))] ∧ (k ≤ plan.length)) (fun k => plan.length - k) 0 ⟨(Value.slice none 0 0), hA8.as _ rfl, hS5, by omega⟩ ?_
 clear hA8 hS5 a6
 rintro k a9 w11 ⟨v3_, hA10, hS12, hk⟩
 have hlt_ : (plan.take k).length ≤ 12 := by simp only [List.length_take]; omega
 refine c_seq ?_
 refine c_seq ?_
 refine c_region ?_
 refine st hA10 (op_move rfl (hA10.ev rfl)) rfl rfl (by decide) fun a13 hA14 => ?_; clear hA10 a9
 refine st hA14 (op_move rfl (hA14.ev rfl)) rfl rfl (by decide) fun a15 hA16 => ?_; clear hA14 a13
 refine st hA16 (op_lenS rfl un_51 (hA16.ev rfl) (hS12.sk 1 rfl)) rfl rfl (by decide) fun a17 hA18 => ?_; clear hA16 a15
 refine st hA18 (op_lss rfl (hA18.ev rfl) (hA18.ev rfl)) rfl rfl (by decide) fun a19 hA20 => ?_; clear hA18 a17
 refine wl_nil ?_
 refine then_n ?_
 by_cases hb21 : (k : Int) < (plan.length : Int)
 ·skip
  rw [decide_eq_true hb21] at hA20
  refine c_true hA20 rfl ?_
  refine c_skip ?_
  refine then_n ?_
  refine c_seq ?_
  refine c_block ?_
  have hA22 := hA20.as [(4, (Value.int .i64 (k : Int))), (3, v3_), (0, vp)] rfl; clear hA20
  refine c_drawV mixed hA22 hS12 14 [[], [], [], [1, 2], [3], [4], [], [], [6, 7], [8], [9], [10], [5, 11], [12]] [(fun (vs23 : Nat → Value) (v_ : Value) (rs_ : List Res) => v_ = v3_ ∧ rs_ = []), (fun (vs23 : Nat → Value) (v_ : Value) (rs_ : List Res) => v_ = vp ∧ rs_ = []), (fun (vs23 : Nat → Value) (v_ : Value) (rs_ : List Res) => v_ = (Value.int .i64 (k : Int)) ∧ rs_ = []), (fun (vs23 : Nat → Value) (v_ : Value) (rs_ : List Res) => v_ = (eptr vp (k * 3)) ∧ rs_ = []), (fun (vs23 : Nat → Value) (v_ : Value) (rs_ : List Res) => v_ = (eptr vp (k * 3 + 0)) ∧ rs_ = []), (fun (vs23 : Nat → Value) (v_ : Value) (rs_ : List Res) => v_ = (Value.int .i64 ((plan.getD k (0, 0, 0)).1)) ∧ rs_ = []), (fun (vs23 : Nat → Value) (v_ : Value) (rs_ : List Res) => v_ = vp ∧ rs_ = []), (fun (vs23 : Nat → Value) (v_ : Value) (rs_ : List Res) => v_ = (Value.int .i64 (k : Int)) ∧ rs_ = []), (fun (vs23 : Nat → Value) (v_ : Value) (rs_ : List Res) => v_ = (eptr vp (k * 3)) ∧ rs_ = []), (fun (vs23 : Nat → Value) (v_ : Value) (rs_ : List Res) => v_ = (eptr vp (k * 3 + 1)) ∧ rs_ = []), (fun (vs23 : Nat → Value) (v_ : Value) (rs_ : List Res) => v_ = (Value.agg #[(Value.int .i64 ((plan.getD k (0, 0, 0)).2.1)), (Value.int .i64 ((plan.getD k (0, 0, 0)).2.2))]) ∧ rs_ = []), (fun (vs23 : Nat → Value) (v_ : Value) (rs_ : List Res) => v_ = (Value.agg #[(Value.int .i64 ((plan.getD k (0, 0, 0)).2.1)), (Value.int .i64 ((plan.getD k (0, 0, 0)).2.2))]) ∧ rs_ = []), (fun (vs23 : Nat → Value) (v_ : Value) (rs_ : List Res) => v_ = (Value.agg #[(Value.int .i64 ((plan.getD k (0, 0, 0)).1)), (Value.int .i64 ((plan.getD k (0, 0, 0)).2.1)), (Value.int .i64 ((plan.getD k (0, 0, 0)).2.2))]) ∧ rs_ = []), (fun (vs23 : Nat → Value) (v_ : Value) (rs_ : List Res) => True ∧ rs_ = [(row v_ 67 3 1 [(Value.int .i64 ((plan.getD k (0, 0, 0)).1)), (Value.int .i64 ((plan.getD k (0, 0, 0)).2.1)), (Value.int .i64 ((plan.getD k (0, 0, 0)).2.2))])])] (by decide +kernel) (by decide +kernel) rfl rfl ⟨(fun _ _ _ _ _ h_ => h_), (fun _ _ _ _ _ h_ => h_), (fun _ _ _ _ _ h_ => h_), (fun _ _ _ _ _ h_ => h_), (fun _ _ _ _ _ h_ => h_), (fun _ _ _ _ _ h_ => h_), (fun _ _ _ _ _ h_ => h_), (fun _ _ _ _ _ h_ => h_), (fun _ _ _ _ _ h_ => h_), (fun _ _ _ _ _ h_ => h_), (fun _ _ _ _ _ h_ => h_), (fun _ _ _ _ _ h_ => h_), (fun _ _ _ _ _ h_ => h_), (fun _ _ _ _ _ h_ => h_), trivial⟩ ?_ ?_
  ·skip
   refine ⟨fun a w vs23 hA hS hd => ?_, ?_⟩
   ·skip
    exact opG_of rfl (vv (op_move rfl (hA.ev rfl)) (And.intro rfl rfl))
   refine ⟨fun a w vs23 hA hS hd => ?_, ?_⟩
   ·skip
    exact opG_of rfl (vv (op_move rfl (hA.ev rfl)) (And.intro rfl rfl))
   refine ⟨fun a w vs23 hA hS hd => ?_, ?_⟩
   ·skip
    exact opG_of rfl (vv (op_move rfl (hA.ev rfl)) (And.intro rfl rfl))
   refine ⟨fun a w vs23 hA hS hd => ?_, ?_⟩
   ·skip
    obtain ⟨e1, rs1, hy1, hp1⟩ := hd 1 (by decide)
    obtain ⟨hv1, hr1⟩ := hy1; subst hr1
    rw [hv1] at e1
    obtain ⟨e2, rs2, hy2, hp2⟩ := hd 2 (by decide)
    obtain ⟨hv2, hr2⟩ := hy2; subst hr2
    rw [hv2] at e2
    exact opG_of rfl (vv (op_indexS rfl un_51 ty_56 (tmp_ev (slot_ev e1 rfl)) (i := k) (tmp_ev (slot_ev e2 rfl)) (hS.sk 1 rfl) (by decide) (by omega)) (And.intro rfl rfl))
   refine ⟨fun a w vs23 hA hS hd => ?_, ?_⟩
   ·skip
    obtain ⟨e3, rs3, hy3, hp3⟩ := hd 3 (by decide)
    obtain ⟨hv3, hr3⟩ := hy3; subst hr3
    rw [hv3] at e3
    exact opG_of rfl (vv (op_fieldS rfl fd_56_0 (tmp_ev (slot_ev e3 rfl)) (hS.sk 1 rfl) (by rw [((hS.sk 1 rfl)).1]; omega)) (And.intro rfl rfl))
   refine ⟨fun a w vs23 hA hS hd => ?_, ?_⟩
   ·skip
    obtain ⟨e4, rs4, hy4, hp4⟩ := hd 4 (by decide)
    obtain ⟨hv4, hr4⟩ := hy4; subst hr4
    rw [hv4] at e4
    exact opG_of rfl (vv (op_load1E rfl ty_3 (tmp_ev (slot_ev e4 rfl)) (hS.sk 1 rfl) (trips_at0 (by omega))) (And.intro rfl rfl))
   refine ⟨fun a w vs23 hA hS hd => ?_, ?_⟩
   ·skip
    exact opG_of rfl (vv (op_move rfl (hA.ev rfl)) (And.intro rfl rfl))
   refine ⟨fun a w vs23 hA hS hd => ?_, ?_⟩
   ·skip
    exact opG_of rfl (vv (op_move rfl (hA.ev rfl)) (And.intro rfl rfl))
   refine ⟨fun a w vs23 hA hS hd => ?_, ?_⟩
   ·skip
    obtain ⟨e6, rs6, hy6, hp6⟩ := hd 6 (by decide)
    obtain ⟨hv6, hr6⟩ := hy6; subst hr6
    rw [hv6] at e6
    obtain ⟨e7, rs7, hy7, hp7⟩ := hd 7 (by decide)
    obtain ⟨hv7, hr7⟩ := hy7; subst hr7
    rw [hv7] at e7
    exact opG_of rfl (vv (op_indexS rfl un_51 ty_56 (tmp_ev (slot_ev e6 rfl)) (i := k) (tmp_ev (slot_ev e7 rfl)) (hS.sk 1 rfl) (by decide) (by omega)) (And.intro rfl rfl))
   refine ⟨fun a w vs23 hA hS hd => ?_, ?_⟩
   ·skip
    obtain ⟨e8, rs8, hy8, hp8⟩ := hd 8 (by decide)
    obtain ⟨hv8, hr8⟩ := hy8; subst hr8
    rw [hv8] at e8
    exact opG_of rfl (vv (op_fieldS rfl fd_56_1 (tmp_ev (slot_ev e8 rfl)) (hS.sk 1 rfl) (by rw [((hS.sk 1 rfl)).1]; omega)) (And.intro rfl rfl))
   refine ⟨fun a w vs23 hA hS hd => ?_, ?_⟩
   ·skip
    obtain ⟨e9, rs9, hy9, hp9⟩ := hd 9 (by decide)
    obtain ⟨hv9, hr9⟩ := hy9; subst hr9
    rw [hv9] at e9
    exact opG_of rfl (vv (op_loadAE rfl ty_48 (tmp_ev (slot_ev e9 rfl)) (hS.sk 1 rfl) (trips_sub (by omega)) rfl (by decide)) (And.intro rfl rfl))
   refine ⟨fun a w vs23 hA hS hd => ?_, ?_⟩
   ·skip
    obtain ⟨e10, rs10, hy10, hp10⟩ := hd 10 (by decide)
    obtain ⟨hv10, hr10⟩ := hy10; subst hr10
    rw [hv10] at e10
    exact opG_of rfl (vx (op_call rfl en_25 (ev1 (tmp_ev (slot_ev e10 rfl))) (to_ok _ _ _)) (And.intro rfl rfl))
   refine ⟨fun a w vs23 hA hS hd => ?_, ?_⟩
   ·skip
    obtain ⟨e5, rs5, hy5, hp5⟩ := hd 5 (by decide)
    obtain ⟨hv5, hr5⟩ := hy5; subst hr5
    rw [hv5] at e5
    obtain ⟨e11, rs11, hy11, hp11⟩ := hd 11 (by decide)
    obtain ⟨hv11, hr11⟩ := hy11; subst hr11
    rw [hv11] at e11
    exact opG_of rfl (vv (op_build rfl (pv2 (tmp_ev (slot_ev e5 rfl)) (tmp_ev (slot_ev e11 rfl))) (bd_67_0i_1iia _ _ _)) (And.intro rfl rfl))
   refine ⟨fun a w vs23 hA hS hd => ?_, ?_⟩
   ·skip
    obtain ⟨e12, rs12, hy12, hp12⟩ := hd 12 (by decide)
    obtain ⟨hv12, hr12⟩ := hy12; subst hr12
    rw [hv12] at e12
    exact opG_of rfl (vblt rfl (pv1 (tmp_ev (slot_ev e12 rfl))) un_58 ty_67 ze_67 (by decide) (cs := [(Value.int .i64 ((plan.getD k (0, 0, 0)).1)), (Value.int .i64 ((plan.getD k (0, 0, 0)).2.1)), (Value.int .i64 ((plan.getD k (0, 0, 0)).2.2))]) (bs_67_1_0iiia _ _ _) rfl (by decide) (fun _ => And.intro trivial rfl))
   trivial
  intro a24 w25 vs23 rsf29 hA26 hH28 hS27; clear hA22 hS12
  obtain ⟨hs_0, hy_0⟩ := hH28 0 (by decide)
  obtain ⟨hv_0, hr_0⟩ := hy_0
  obtain ⟨hs_1, hy_1⟩ := hH28 1 (by decide)
  obtain ⟨hv_1, hr_1⟩ := hy_1
  obtain ⟨hs_2, hy_2⟩ := hH28 2 (by decide)
  obtain ⟨hv_2, hr_2⟩ := hy_2
  obtain ⟨hs_3, hy_3⟩ := hH28 3 (by decide)
  obtain ⟨hv_3, hr_3⟩ := hy_3
  obtain ⟨hs_4, hy_4⟩ := hH28 4 (by decide)
  obtain ⟨hv_4, hr_4⟩ := hy_4
  obtain ⟨hs_5, hy_5⟩ := hH28 5 (by decide)
  obtain ⟨hv_5, hr_5⟩ := hy_5
  obtain ⟨hs_6, hy_6⟩ := hH28 6 (by decide)
  obtain ⟨hv_6, hr_6⟩ := hy_6
  obtain ⟨hs_7, hy_7⟩ := hH28 7 (by decide)
  obtain ⟨hv_7, hr_7⟩ := hy_7
  obtain ⟨hs_8, hy_8⟩ := hH28 8 (by decide)
  obtain ⟨hv_8, hr_8⟩ := hy_8
  obtain ⟨hs_9, hy_9⟩ := hH28 9 (by decide)
  obtain ⟨hv_9, hr_9⟩ := hy_9
  obtain ⟨hs_10, hy_10⟩ := hH28 10 (by decide)
  obtain ⟨hv_10, hr_10⟩ := hy_10
  obtain ⟨hs_11, hy_11⟩ := hH28 11 (by decide)
  obtain ⟨hv_11, hr_11⟩ := hy_11
  obtain ⟨hs_12, hy_12⟩ := hH28 12 (by decide)
  obtain ⟨hv_12, hr_12⟩ := hy_12
  obtain ⟨hs_13, hy_13⟩ := hH28 13 (by decide)
  obtain ⟨hv_13, hr_13⟩ := hy_13
  have hS30 : Sep NoB w w25 [(row (vs23 13) 67 3 1 [(Value.int .i64 ((plan.getD k (0, 0, 0)).1)), (Value.int .i64 ((plan.getD k (0, 0, 0)).2.1)), (Value.int .i64 ((plan.getD k (0, 0, 0)).2.2))]), (row v3_ 67 3 ((plan.take k).length) (trips (plan.take k))), (sl vp 3 plan.length (trips plan))] := by rw [show catR rsf29 0 14 = ([(row (vs23 13) 67 3 1 [(Value.int .i64 ((plan.getD k (0, 0, 0)).1)), (Value.int .i64 ((plan.getD k (0, 0, 0)).2.1)), (Value.int .i64 ((plan.getD k (0, 0, 0)).2.2))])] : List Res) by (try simp only [catR, hr_0, hr_1, hr_2, hr_3, hr_4, hr_5, hr_6, hr_7, hr_8, hr_9, hr_10, hr_11, hr_12, hr_13]); (try rfl)] at hS27; exact hS27
  rw [hv_0] at hs_0
  have hA31 : Fr 27 [] [(11, v3_), (4, (Value.int .i64 (k : Int))), (3, v3_), (0, vp)] a24 := hA26.add (slot_ev hs_0 rfl); clear hA26
  have hA32 : Fr 27 [] [(24, (vs23 13)), (11, v3_), (4, (Value.int .i64 (k : Int))), (3, v3_), (0, vp)] a24 := hA31.add (slot_ev hs_13 rfl); clear hA31
  clear hH28 hS27 hs_0 hs_1 hs_2 hs_3 hs_4 hs_5 hs_6 hs_7 hs_8 hs_9 hs_10 hs_11 hs_12 hs_13
  clear hr_0
  clear hv_0
  clear hr_1
  clear hv_1
  clear hr_2
  clear hv_2
  clear hr_3
  clear hv_3
  clear hr_4
  clear hv_4
  clear hr_5
  clear hv_5
  clear hr_6
  clear hv_6
  clear hr_7
  clear hv_7
  clear hr_8
  clear hv_8
  clear hr_9
  clear hv_9
  clear hr_10
  clear hv_10
  clear hr_11
  clear hv_11
  clear hr_12
  clear hv_12
  clear hr_13
  clear hv_13
  refine stw hA32 (op_append hS30 rfl un_58 el_67 (hA32.ev rfl) (hA32.ev rfl) (i := 1) rfl (SlAt.of_row (hS30.ok_row 0 rfl)) rfl (by simp only [maxLen]; omega) (by omega)) rfl rfl (by decide) ?_
  intro a33 v36 w35 hS37 hA34
  have hS38 := hS37.row_say (i := 1) rfl (n' := ((plan.take k) ++ [((plan.getD k (0, 0, 0)).1, (plan.getD k (0, 0, 0)).2.1, (plan.getD k (0, 0, 0)).2.2)]).length) (xs' := (trips ((plan.take k) ++ [((plan.getD k (0, 0, 0)).1, (plan.getD k (0, 0, 0)).2.1, (plan.getD k (0, 0, 0)).2.2)]))) (by simp) (by simp [trips]); clear hS37 hA32 hS30 a24
  refine st hA34 (op_assign rfl (hA34.ev rfl)) rfl rfl (by decide) fun a39 hA40 => ?_; clear hA34 a33
  refine wl_nil ?_
  refine blk_n ?_
  refine then_n ?_
  refine c_region ?_
  refine st hA40 (op_move rfl (hA40.ev rfl)) rfl rfl (by decide) fun a41 hA42 => ?_; clear hA40 a39
  refine st hA42 (op_add rfl (hA42.ev rfl) (evc _ _) (by omega) (by omega)) rfl rfl (by decide) fun a43 hA44 => ?_; clear hA42 a41
  refine st hA44 (op_assign rfl (hA44.ev rfl)) rfl rfl (by decide) fun a45 hA46 => ?_; clear hA44 a43
  refine wl_nil ?_
  have hS47 : Sep NoB w w35 [(row v36 67 3 (((plan.take k) ++ [((plan.getD k (0, 0, 0)).1, (plan.getD k (0, 0, 0)).2.1, (plan.getD k (0, 0, 0)).2.2)]).length) (trips ((plan.take k) ++ [((plan.getD k (0, 0, 0)).1, (plan.getD k (0, 0, 0)).2.1, (plan.getD k (0, 0, 0)).2.2)]))), (sl vp 3 plan.length (trips plan))] := hS38.keep [1, 2] (by decide) _ rfl rfl; clear hS38
  exact then_n ⟨k + 1, ⟨v36, hA46.as _ rfl, (hS47.row_say (i := 0) rfl (by rw [take_trip (by omega)]) (by rw [take_trip (by omega)])), by omega⟩, by omega⟩
 ·skip
  rw [decide_eq_false hb21] at hA20
  refine c_false hA20 rfl ?_
  refine c_exit ?_
  refine then_exit ?_
  refine then_exit ?_
  refine blk_hit ?_
  refine then_n ?_
  refine c_seq ?_
  have hA48 := hA20.as [(3, v3_)] rfl; clear hA20
  refine c_region ?_
  refine st hA48 (op_move rfl (hA48.ev rfl)) rfl rfl (by decide) fun a49 hA50 => ?_; clear hA48 a19
  refine st hA50 (op_assign rfl (hA50.ev rfl)) rfl rfl (by decide) fun a51 hA52 => ?_; clear hA50 a49
  refine wl_nil ?_
  refine then_n ?_
  refine c_ret ?_
  refine fin_run hA52 (.inl rfl) (run_results1 hA52 rfl (.tmp rfl)) ?_
  have hz := hS12.row_say (i := 0) rfl (n' := plan.length) (xs' := trips plan) (by rw [show k = plan.length by omega, List.take_length]) (by rw [show k = plan.length by omega, List.take_length])
  exact ⟨hz.ext, hz.row_new (i := 0) rfl⟩
end Go.Proofs.Ytkkglkdnnfegkaa
