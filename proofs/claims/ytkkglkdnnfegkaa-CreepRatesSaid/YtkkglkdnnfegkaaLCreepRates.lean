/-
  Walks through the functions of the seat, printed by a program of ours (gowalk), a theorem a function: what the call returns and what it leaves in memory.
-/
import Derived.Test.YtkkglkdnnfegkaaFe
import Derived.Test.YtkkglkdnnfegkaaPlain
set_option linter.unusedSimpArgs false
set_option linter.unusedVariables false
namespace Go.Proofs.Ytkkglkdnnfegkaa
open Go.RowKit Go.Shelf Go.Eng
theorem en_16 : ∀ args w, (callFunc 16 args).run Try.prog w = .ok (.enter 16 args) w := enters_of Try.func16 (by kernel_rfl) rfl
theorem en_17 : ∀ args w, (callFunc 17 args).run Try.prog w = .ok (.enter 17 args) w := enters_of Try.func17 (by kernel_rfl) rfl
theorem en_19 : ∀ args w, (callFunc 19 args).run Try.prog w = .ok (.enter 19 args) w := enters_of Try.func19 (by kernel_rfl) rfl
theorem en_20 : ∀ args w, (callFunc 20 args).run Try.prog w = .ok (.enter 20 args) w := enters_of Try.func20 (by kernel_rfl) rfl
theorem en_21 : ∀ args w, (callFunc 21 args).run Try.prog w = .ok (.enter 21 args) w := enters_of Try.func21 (by kernel_rfl) rfl
set_option maxHeartbeats 4000000 in
theorem CreepRates_a (w : World) (R : List (Int × Int)) (vr : Value) (hm : SlAt w vr 2 R.length (pairs R)) (rs : List RunD) (lv : List Value) (vu : Value) (hx : RunsAt w vu lv rs) (hf : thinB R rs 0 = false) :
    Calls Try.prog 3 #[(Value.agg #[vr]), vu] w (Ret fun v w' => v = .bool true ∧ Ext NoB w w') := by
  refine calls_enter Try.func3 rfl fun a0 hA0 => ?_
  replace hA0 : Fr 119 [] [(0, (Value.agg #[vr])), (1, vu)] a0 := hA0
  have hS0 : Sep NoB w w [(sl vr 2 R.length (pairs R)), (runsR false vu lv rs)] := sep_ro ⟨rfl, hm, rfl, hx, trivial⟩
  refine c_seq ?_
  refine c_region ?_
  refine stw hA0 (op_box hS0 rfl (hA0.ev rfl) (cs := [vr]) rfl) rfl rfl (by decide) ?_
  rintro a1 _ w3 ⟨b4, rfl, hS5⟩ hA2; clear hA0 hS0 a0
  refine st hA2 (op_assign rfl (evc _ _)) rfl rfl (by decide) fun a6 hA7 => ?_; clear hA2 a1
  refine wl_nil ?_
  refine then_n ?_
  refine c_seq ?_
  refine c_seq ?_
  refine c_region ?_
  refine st hA7 (op_loadA rfl ty_24 (hA7.ev rfl) (hS5.bk 0 rfl) (l := [vr]) rfl rfl) rfl rfl (by decide) fun a8 hA9 => ?_; clear hA7 a6
  refine st hA9 (op_move rfl (hA9.ev rfl)) rfl rfl (by decide) fun a10 hA11 => ?_; clear hA9 a8
  refine stw hA11 (op_call rfl en_16 (ev3 (hA11.ev rfl) (hA11.ev rfl) (evc _ _)) (callsB (Thin_ok _ R _ (hS5.sk 1 rfl) rs _ _ (runs_at (hS5.ok 2 _ rfl)) ([]) _ (slAt_nil _ 3)) (thinB R rs 0) rfl)) rfl rfl (by decide) ?_
  rintro a12 _ w14 ⟨rfl, hE15⟩ hA13; have hS16 := hS5.step hE15; clear hE15 hA11 hS5 a10
  rw [hf] at hA13
  refine st hA13 (op_not rfl (hA13.ev rfl)) rfl rfl (by decide) fun a17 hA18 => ?_; clear hA13 a12
  refine wl_nil ?_
  refine then_n ?_
  refine c_true hA18 rfl ?_
  refine c_seq ?_
  have hA19 := hA18.as [] rfl; clear hA18
  refine c_region ?_
  refine stw hA19 (op_call rfl en_17 ev0 (awake_ok _)) rfl rfl (by decide) ?_
  rintro a20 _ w22 ⟨rfl, hE23⟩ hA21; have hS24 := hS16.step hE23; clear hE23 hA19 hS16 a17
  refine st hA21 (op_assign rfl (hA21.ev rfl)) rfl rfl (by decide) fun a25 hA26 => ?_; clear hA21 a20
  refine wl_nil ?_
  refine then_n ?_
  refine c_ret ?_
  refine then_ret ?_
  refine fin_run hA26 (.inl rfl) (run_results1 hA26 rfl (.tmp rfl)) ?_
  exact ⟨rfl, hS24.ext⟩

set_option maxHeartbeats 4000000 in
theorem CreepRates_b (w : World) (R : List (Int × Int)) (vr : Value) (hm : SlAt w vr 2 R.length (pairs R)) (rs : List RunD) (lv : List Value) (vu : Value) (hx : RunsAt w vu lv rs) (hf : thinB R rs 0 = true) (hc : possF R rs ≠ 0) :
    Calls Try.prog 3 #[(Value.agg #[vr]), vu] w (Ret fun v w' => v = .bool true ∧ Ext NoB w w') := by
  refine calls_enter Try.func3 rfl fun a0 hA0 => ?_
  replace hA0 : Fr 119 [] [(0, (Value.agg #[vr])), (1, vu)] a0 := hA0
  have hth := thin_of hf; have h6 := hth.mat; have h9 := hth.runs
  have hS0 : Sep NoB w w [(sl vr 2 R.length (pairs R)), (runsR false vu lv rs)] := sep_ro ⟨rfl, hm, rfl, hx, trivial⟩
  refine c_seq ?_
  refine c_region ?_
  refine stw hA0 (op_box hS0 rfl (hA0.ev rfl) (cs := [vr]) rfl) rfl rfl (by decide) ?_
  rintro a1 _ w3 ⟨b4, rfl, hS5⟩ hA2; clear hA0 hS0 a0
  refine st hA2 (op_assign rfl (evc _ _)) rfl rfl (by decide) fun a6 hA7 => ?_; clear hA2 a1
  refine wl_nil ?_
  refine then_n ?_
  refine c_seq ?_
  refine c_seq ?_
  refine c_region ?_
  refine st hA7 (op_loadA rfl ty_24 (hA7.ev rfl) (hS5.bk 0 rfl) (l := [vr]) rfl rfl) rfl rfl (by decide) fun a8 hA9 => ?_; clear hA7 a6
  refine st hA9 (op_move rfl (hA9.ev rfl)) rfl rfl (by decide) fun a10 hA11 => ?_; clear hA9 a8
  refine stw hA11 (op_call rfl en_16 (ev3 (hA11.ev rfl) (hA11.ev rfl) (evc _ _)) (callsB (Thin_ok _ R _ (hS5.sk 1 rfl) rs _ _ (runs_at (hS5.ok 2 _ rfl)) ([]) _ (slAt_nil _ 3)) (thinB R rs 0) rfl)) rfl rfl (by decide) ?_
  rintro a12 _ w14 ⟨rfl, hE15⟩ hA13; have hS16 := hS5.step hE15; clear hE15 hA11 hS5 a10
  rw [hf] at hA13
  refine st hA13 (op_not rfl (hA13.ev rfl)) rfl rfl (by decide) fun a17 hA18 => ?_; clear hA13 a12
  refine wl_nil ?_
  refine then_n ?_
  refine c_false hA18 rfl ?_
  refine c_skip ?_
  refine then_n ?_
  refine c_seq ?_
  have hA19 := hA18.as [(2, (bptr b4 0)), (1, vu)] rfl; clear hA18
  refine c_region ?_
  refine st hA19 (op_loadA rfl ty_24 (hA19.ev rfl) (hS16.bk 0 rfl) (l := [vr]) rfl rfl) rfl rfl (by decide) fun a20 hA21 => ?_; clear hA19 a17
  refine stw hA21 (op_call rfl en_19 (ev1 (hA21.ev rfl)) (Material_ok _ R _ (hS16.sk 1 rfl) hth.mat)) rfl rfl (by decide) ?_
  rintro a22 _ w24 ⟨u27, rfl, hT25⟩ hA23; have hS26 := hS16.callS hT25 rfl; clear hT25 hA21 hS16 a20
  refine st hA23 (op_move rfl (hA23.ev rfl)) rfl rfl (by decide) fun a28 hA29 => ?_; clear hA23 a22
  refine stw hA29 (op_call rfl en_20 (ev1 (hA29.ev rfl)) (Runs_ok _ rs _ _ (runs_at (hS26.ok 3 _ rfl)) hth.runs hth.segs)) rfl rfl (by decide) ?_
  rintro a30 v35 w32 ⟨lv36, hT33⟩ hA31; have hS34 := hS26.callS hT33 rfl; clear hT33 hA29 hS26 a28
  refine stw hA31 (op_call rfl en_18 (ev2 (hA31.ev rfl) (hA31.ev rfl)) (rates_bad R rs lv36 u27 v35 _ (SlAt.of_row (hS34.ok_row 1 rfl)) (runs_at (hS34.ok 0 _ rfl)) (by omega) (by omega) hc)) rfl rfl (by decide) ?_
  rintro a37 _ w39 ⟨rfl, hE40⟩ hA38; have hS41 := hS34.step hE40; clear hE40 hA31 hS34 a30
  refine st hA38 (op_move rfl (hA38.ev rfl)) rfl rfl (by decide) fun a42 hA43 => ?_; clear hA38 a37
  refine st hA43 (op_extract rfl (hA43.ev rfl) rfl) rfl rfl (by decide) fun a44 hA45 => ?_; clear hA43 a42
  refine st hA45 (op_extract rfl (hA45.ev rfl) rfl) rfl rfl (by decide) fun a46 hA47 => ?_; clear hA45 a44
  refine st hA47 (op_extract rfl (hA47.ev rfl) rfl) rfl rfl (by decide) fun a48 hA49 => ?_; clear hA47 a46
  refine st hA49 (op_assign rfl (hA49.ev rfl)) rfl rfl (by decide) fun a50 hA51 => ?_; clear hA49 a48
  refine st hA51 (op_assign rfl (hA51.ev rfl)) rfl rfl (by decide) fun a52 hA53 => ?_; clear hA51 a50
  refine st hA53 (op_assign rfl (hA53.ev rfl)) rfl rfl (by decide) fun a54 hA55 => ?_; clear hA53 a52
  refine wl_nil ?_
  refine then_n ?_
  refine c_seq ?_
  refine c_seq ?_
  have hA56 := hA55.as [(7, (Value.int .i64 (possF R rs))), (6, (Value.int .i64 0)), (5, (Value.slice none 0 0)), (2, (bptr b4 0)), (1, vu)] rfl; clear hA55
  refine c_region ?_
  refine st hA56 (op_loadA rfl ty_24 (hA56.ev rfl) (hS41.bk 2 rfl) (l := [vr]) rfl rfl) rfl rfl (by decide) fun a57 hA58 => ?_; clear hA56 a54
  refine st hA58 (op_move rfl (hA58.ev rfl)) rfl rfl (by decide) fun a59 hA60 => ?_; clear hA58 a57
  refine stw hA60 (op_call rfl en_21 (ev2 (hA60.ev rfl) (hA60.ev rfl)) (asked_ok _ R _ (hS41.sk 3 rfl) rs _ _ (runs_at (hS41.ok 4 _ rfl)))) rfl rfl (by decide) ?_
  rintro a61 _ w63 ⟨rfl, hE64⟩ hA62; have hS65 := hS41.step hE64; clear hE64 hA60 hS41 a59
  refine st hA62 (op_assign rfl (hA62.ev rfl)) rfl rfl (by decide) fun a66 hA67 => ?_; clear hA62 a61
  refine wl_nil ?_
  refine then_n ?_
  refine c_seq ?_
  refine c_region ?_
  refine st hA67 (op_move rfl (hA67.ev rfl)) rfl rfl (by decide) fun a68 hA69 => ?_; clear hA67 a66
  refine st hA69 (op_neq rfl (hA69.ev rfl) (evc _ _)) rfl rfl (by decide) fun a70 hA71 => ?_; clear hA69 a68
  have hd72 : ¬ ((possF R rs) = 0) := hc
  rw [decide_eq_false hd72] at hA71
  refine wl_nil ?_
  refine then_n ?_
  refine c_true hA71 rfl ?_
  refine c_seq ?_
  have hA73 := hA71.as [(8, (Value.int .i64 (possF R rs))), (7, (Value.int .i64 (possF R rs))), (6, (Value.int .i64 0)), (5, (Value.slice none 0 0))] rfl; clear hA71
  refine c_region ?_
  refine st hA73 (op_move rfl (hA73.ev rfl)) rfl rfl (by decide) fun a74 hA75 => ?_; clear hA73 a70
  refine st hA75 (op_move rfl (hA75.ev rfl)) rfl rfl (by decide) fun a76 hA77 => ?_; clear hA75 a74
  refine st hA77 (op_eql rfl (hA77.ev rfl) (hA77.ev rfl)) rfl rfl (by decide) fun a78 hA79 => ?_; clear hA77 a76
  have hd80 : (possF R rs) = (possF R rs) := rfl
  rw [decide_eq_true hd80] at hA79
  refine st hA79 (op_move rfl (hA79.ev rfl)) rfl rfl (by decide) fun a81 hA82 => ?_; clear hA79 a78
  refine stg hA82 (op_move rfl (hA82.ev rfl)) rfl rfl rfl rfl (by decide) fun a83 hA84 => ?_; clear hA82 a81
  refine stg hA84 (op_len rfl un_28 (hA84.ev rfl)) rfl rfl rfl rfl (by decide) fun a85 hA86 => ?_; clear hA84 a83
  refine stg hA86 (op_eql rfl (hA86.ev rfl) (evc _ _)) rfl rfl rfl rfl (by decide) fun a87 hA88 => ?_; clear hA86 a85
  have hd89 : ((0 : Nat) : Int) = 0 := rfl
  rw [decide_eq_true hd89] at hA88
  refine st hA88 (op_pick_t rfl (hA88.ev rfl) (hA88.ev rfl)) rfl rfl (by decide) fun a90 hA91 => ?_; clear hA88 a87
  refine st hA91 (op_move rfl (hA91.ev rfl)) rfl rfl (by decide) fun a92 hA93 => ?_; clear hA91 a90
  refine stg hA93 (op_move rfl (hA93.ev rfl)) rfl rfl rfl rfl (by decide) fun a94 hA95 => ?_; clear hA93 a92
  refine stg hA95 (op_eql rfl (hA95.ev rfl) (evc _ _)) rfl rfl rfl rfl (by decide) fun a96 hA97 => ?_; clear hA95 a94
  refine st hA97 (op_pick_t rfl (hA97.ev rfl) (hA97.ev rfl)) rfl rfl (by decide) fun a98 hA99 => ?_; clear hA97 a96
  refine st hA99 (op_move rfl (hA99.ev rfl)) rfl rfl (by decide) fun a100 hA101 => ?_; clear hA99 a98
  refine stwg hA101 (op_call rfl en_17 ev0 (awake_ok _)) rfl rfl rfl rfl (by decide) ?_
  rintro a102 _ w104 ⟨rfl, hE105⟩ hA103; have hS106 := hS65.step hE105; clear hE105 hA101 hS65 a100
  refine st hA103 (op_pick_t rfl (hA103.ev rfl) (hA103.ev rfl)) rfl rfl (by decide) fun a107 hA108 => ?_; clear hA103 a102
  refine st hA108 (op_assign rfl (hA108.ev rfl)) rfl rfl (by decide) fun a109 hA110 => ?_; clear hA108 a107
  refine wl_nil ?_
  refine then_n ?_
  refine c_ret ?_
  refine then_ret ?_
  refine fin_run hA110 (.inl rfl) (run_results1 hA110 rfl (.tmp rfl)) ?_
  exact ⟨rfl, hS106.ext⟩

set_option maxHeartbeats 4000000 in
theorem CreepRates_c (w : World) (R : List (Int × Int)) (vr : Value) (hm : SlAt w vr 2 R.length (pairs R)) (rs : List RunD) (lv : List Value) (vu : Value) (hx : RunsAt w vu lv rs) (hf : thinB R rs 0 = true) (hc : possF R rs = 0) :
    Calls Try.prog 3 #[(Value.agg #[vr]), vu] w (Ret fun v w' => v = .bool true ∧ Ext NoB w w') := by
  refine calls_enter Try.func3 rfl fun a0 hA0 => ?_
  replace hA0 : Fr 119 [] [(0, (Value.agg #[vr])), (1, vu)] a0 := hA0
  have hth := thin_of hf; have h6 := hth.mat; have h9 := hth.runs; have hpi := poss_is hc; have hal := hpi.2; have hcm := check_mat (enter_mat hpi.1); have hR := hcm.1; have hR1 := hcm.2.1; have hV := enter_runs hpi.1; have hrl := rallow_len hR hV; have hra := rallow_len1 hR hV; have hrt := ratesF_len R rs; have hle := allowed_le (rs := rs) hR; have hr0 := hra 0 (by omega)
  have hS0 : Sep NoB w w [(sl vr 2 R.length (pairs R)), (runsR false vu lv rs)] := sep_ro ⟨rfl, hm, rfl, hx, trivial⟩
  refine c_seq ?_
  refine c_region ?_
  refine stw hA0 (op_box hS0 rfl (hA0.ev rfl) (cs := [vr]) rfl) rfl rfl (by decide) ?_
  rintro a1 _ w3 ⟨b4, rfl, hS5⟩ hA2; clear hA0 hS0 a0
  refine st hA2 (op_assign rfl (evc _ _)) rfl rfl (by decide) fun a6 hA7 => ?_; clear hA2 a1
  refine wl_nil ?_
  refine then_n ?_
  refine c_seq ?_
  refine c_seq ?_
  refine c_region ?_
  refine st hA7 (op_loadA rfl ty_24 (hA7.ev rfl) (hS5.bk 0 rfl) (l := [vr]) rfl rfl) rfl rfl (by decide) fun a8 hA9 => ?_; clear hA7 a6
  refine st hA9 (op_move rfl (hA9.ev rfl)) rfl rfl (by decide) fun a10 hA11 => ?_; clear hA9 a8
  refine stw hA11 (op_call rfl en_16 (ev3 (hA11.ev rfl) (hA11.ev rfl) (evc _ _)) (callsB (Thin_ok _ R _ (hS5.sk 1 rfl) rs _ _ (runs_at (hS5.ok 2 _ rfl)) ([]) _ (slAt_nil _ 3)) (thinB R rs 0) rfl)) rfl rfl (by decide) ?_
  rintro a12 _ w14 ⟨rfl, hE15⟩ hA13; have hS16 := hS5.step hE15; clear hE15 hA11 hS5 a10
  rw [hf] at hA13
  refine st hA13 (op_not rfl (hA13.ev rfl)) rfl rfl (by decide) fun a17 hA18 => ?_; clear hA13 a12
  refine wl_nil ?_
  refine then_n ?_
  refine c_false hA18 rfl ?_
  refine c_skip ?_
  refine then_n ?_
  refine c_seq ?_
  have hA19 := hA18.as [(2, (bptr b4 0)), (1, vu)] rfl; clear hA18
  refine c_region ?_
  refine st hA19 (op_loadA rfl ty_24 (hA19.ev rfl) (hS16.bk 0 rfl) (l := [vr]) rfl rfl) rfl rfl (by decide) fun a20 hA21 => ?_; clear hA19 a17
  refine stw hA21 (op_call rfl en_19 (ev1 (hA21.ev rfl)) (Material_ok _ R _ (hS16.sk 1 rfl) hth.mat)) rfl rfl (by decide) ?_
  rintro a22 _ w24 ⟨u27, rfl, hT25⟩ hA23; have hS26 := hS16.callS hT25 rfl; clear hT25 hA21 hS16 a20
  refine st hA23 (op_move rfl (hA23.ev rfl)) rfl rfl (by decide) fun a28 hA29 => ?_; clear hA23 a22
  refine stw hA29 (op_call rfl en_20 (ev1 (hA29.ev rfl)) (Runs_ok _ rs _ _ (runs_at (hS26.ok 3 _ rfl)) hth.runs hth.segs)) rfl rfl (by decide) ?_
  rintro a30 v35 w32 ⟨lv36, hT33⟩ hA31; have hS34 := hS26.callS hT33 rfl; clear hT33 hA29 hS26 a28
  refine stw hA31 (op_call rfl en_18 (ev2 (hA31.ev rfl) (hA31.ev rfl)) (rates_ok R rs lv36 u27 v35 _ (SlAt.of_row (hS34.ok_row 1 rfl)) (runs_at (hS34.ok 0 _ rfl)) (by omega) (by omega) hc)) rfl rfl (by decide) ?_
  rintro a37 _ w39 ⟨u42, rfl, hT40⟩ hA38
  have hS41 : Sep NoB w w39 [(row u42 42 2 R.length (pairs (ratesF R rs))), (runsR true v35 lv36 rs), (row u27 42 2 R.length (pairs R)), (blk b4 24 [vr]), (sl vr 2 R.length (pairs R)), (runsR false vu lv rs)] := hS34.callS hT40 rfl; clear hT40 hA31 hS34 a30
  refine st hA38 (op_move rfl (hA38.ev rfl)) rfl rfl (by decide) fun a43 hA44 => ?_; clear hA38 a37
  refine st hA44 (op_extract rfl (hA44.ev rfl) rfl) rfl rfl (by decide) fun a45 hA46 => ?_; clear hA44 a43
  refine st hA46 (op_extract rfl (hA46.ev rfl) rfl) rfl rfl (by decide) fun a47 hA48 => ?_; clear hA46 a45
  refine st hA48 (op_extract rfl (hA48.ev rfl) rfl) rfl rfl (by decide) fun a49 hA50 => ?_; clear hA48 a47
  refine st hA50 (op_assign rfl (hA50.ev rfl)) rfl rfl (by decide) fun a51 hA52 => ?_; clear hA50 a49
  refine st hA52 (op_assign rfl (hA52.ev rfl)) rfl rfl (by decide) fun a53 hA54 => ?_; clear hA52 a51
  refine st hA54 (op_assign rfl (hA54.ev rfl)) rfl rfl (by decide) fun a55 hA56 => ?_; clear hA54 a53
  refine wl_nil ?_
  refine then_n ?_
  refine c_seq ?_
  refine c_seq ?_
  have hA57 := hA56.as [(7, (Value.int .i64 0)), (6, (Value.int .i64 (((allowedF R rs).length : Nat) : Int))), (5, u42), (2, (bptr b4 0)), (1, vu)] rfl; clear hA56
  refine c_region ?_
  refine st hA57 (op_loadA rfl ty_24 (hA57.ev rfl) (hS41.bk 3 rfl) (l := [vr]) rfl rfl) rfl rfl (by decide) fun a58 hA59 => ?_; clear hA57 a55
  refine st hA59 (op_move rfl (hA59.ev rfl)) rfl rfl (by decide) fun a60 hA61 => ?_; clear hA59 a58
  refine stw hA61 (op_call rfl en_21 (ev2 (hA61.ev rfl) (hA61.ev rfl)) (asked_ok _ R _ (hS41.sk 4 rfl) rs _ _ (runs_at (hS41.ok 5 _ rfl)))) rfl rfl (by decide) ?_
  rintro a62 _ w64 ⟨rfl, hE65⟩ hA63; have hS66 := hS41.step hE65; clear hE65 hA61 hS41 a60
  refine st hA63 (op_assign rfl (hA63.ev rfl)) rfl rfl (by decide) fun a67 hA68 => ?_; clear hA63 a62
  refine wl_nil ?_
  refine then_n ?_
  refine c_seq ?_
  refine c_region ?_
  refine st hA68 (op_move rfl (hA68.ev rfl)) rfl rfl (by decide) fun a69 hA70 => ?_; clear hA68 a67
  refine st hA70 (op_neq rfl (hA70.ev rfl) (evc _ _)) rfl rfl (by decide) fun a71 hA72 => ?_; clear hA70 a69
  have hd73 : (possF R rs) = 0 := hc
  rw [decide_eq_true hd73] at hA72
  refine wl_nil ?_
  refine then_n ?_
  refine c_false hA72 rfl ?_
  refine c_skip ?_
  refine then_n ?_
  refine c_seq ?_
  have hA74 := hA72.as [(7, (Value.int .i64 0)), (6, (Value.int .i64 (((allowedF R rs).length : Nat) : Int))), (5, u42), (2, (bptr b4 0)), (1, vu)] rfl; clear hA72
  refine c_region ?_
  refine st hA74 (op_loadA rfl ty_24 (hA74.ev rfl) (hS66.bk 3 rfl) (l := [vr]) rfl rfl) rfl rfl (by decide) fun a75 hA76 => ?_; clear hA74 a71
  refine st hA76 (op_move rfl (hA76.ev rfl)) rfl rfl (by decide) fun a77 hA78 => ?_; clear hA76 a75
  refine stw hA78 (op_call rfl en_22 (ev2 (hA78.ev rfl) (hA78.ev rfl)) (rAllowed_ok _ R _ (hS66.sk 4 rfl) rs _ _ (runs_at (hS66.ok 5 _ rfl)) hR hR1 hV)) rfl rfl (by decide) ?_
  rintro a79 v82 w81 ⟨ov83, hT84⟩ hA80; have hS85 : Sep NoB w w81 [(row v82 40 1 ov83.length ov83), (lstR ov83 (rallowF R rs)), (row u42 42 2 R.length (pairs (ratesF R rs))), (runsR true v35 lv36 rs), (row u27 42 2 R.length (pairs R)), (blk b4 24 [vr]), (sl vr 2 R.length (pairs R)), (runsR false vu lv rs)] := hS66.callS hT84 rfl; clear hT84 hA78 hS66 a77
  have hol_ral : ov83.length = (rallowF R rs).length := hS85.lst_len 1 rfl
  refine st hA80 (op_assign rfl (hA80.ev rfl)) rfl rfl (by decide) fun a86 hA87 => ?_; clear hA80 a79
  refine wl_nil ?_
  refine then_n ?_
  refine c_seq ?_
  refine c_seq ?_
  refine c_region ?_
  refine st hA87 (op_move rfl (hA87.ev rfl)) rfl rfl (by decide) fun a88 hA89 => ?_; clear hA87 a86
  refine st hA89 (op_neq rfl (hA89.ev rfl) (evc _ _)) rfl rfl (by decide) fun a90 hA91 => ?_; clear hA89 a88
  refine st hA91 (op_move rfl (hA91.ev rfl)) rfl rfl (by decide) fun a92 hA93 => ?_; clear hA91 a90
  refine stg hA93 (op_move rfl (hA93.ev rfl)) rfl rfl rfl rfl (by decide) fun a94 hA95 => ?_; clear hA93 a92
  refine stg hA95 (op_move rfl (hA95.ev rfl)) rfl rfl rfl rfl (by decide) fun a96 hA97 => ?_; clear hA95 a94
  refine stg hA97 (op_lenS rfl un_38 (hA97.ev rfl) (SlAt.of_row (hS85.ok_row 0 rfl))) rfl rfl rfl rfl (by decide) fun a98 hA99 => ?_; clear hA97 a96
  refine stg hA99 (op_neq rfl (hA99.ev rfl) (hA99.ev rfl)) rfl rfl rfl rfl (by decide) fun a100 hA101 => ?_; clear hA99 a98
  have hd102 : (((allowedF R rs).length : Nat) : Int) = (ov83.length : Int) := (by omega)
  rw [decide_eq_true hd102] at hA101
  refine st hA101 (op_pick_f rfl (hA101.ev rfl) (hA101.ev rfl)) rfl rfl (by decide) fun a103 hA104 => ?_; clear hA101 a100
  refine st hA104 (op_move rfl (hA104.ev rfl)) rfl rfl (by decide) fun a105 hA106 => ?_; clear hA104 a103
  refine stg hA106 (op_move rfl (hA106.ev rfl)) rfl rfl rfl rfl (by decide) fun a107 hA108 => ?_; clear hA106 a105
  refine stg hA108 (op_lenS rfl un_28 (hA108.ev rfl) (SlAt.of_row (hS85.ok_row 2 rfl))) rfl rfl rfl rfl (by decide) fun a109 hA110 => ?_; clear hA108 a107
  refine stg hA110 (op_field rfl fd_24_0 (hA110.ev rfl)) rfl rfl rfl rfl (by decide) fun a111 hA112 => ?_; clear hA110 a109
  refine stg hA112 (op_load1 rfl ty_22 (hA112.ev rfl) (hS85.bk 5 rfl) rfl) rfl rfl rfl rfl (by decide) fun a113 hA114 => ?_; clear hA112 a111
  refine stg hA114 (op_lenS rfl un_22 (hA114.ev rfl) (hS85.sk 6 rfl)) rfl rfl rfl rfl (by decide) fun a115 hA116 => ?_; clear hA114 a113
  refine stg hA116 (op_neq rfl (hA116.ev rfl) (hA116.ev rfl)) rfl rfl rfl rfl (by decide) fun a117 hA118 => ?_; clear hA116 a115
  have hd119 : (R.length : Int) = (R.length : Int) := rfl
  rw [decide_eq_true hd119] at hA118
  refine st hA118 (op_pick_f rfl (hA118.ev rfl) (hA118.ev rfl)) rfl rfl (by decide) fun a120 hA121 => ?_; clear hA118 a117
  refine wl_nil ?_
  refine then_n ?_
  refine c_false hA121 rfl ?_
  refine c_skip ?_
  refine then_n ?_
  refine c_seq ?_
  refine c_seq ?_
  have hA122 := hA121.as [(9, v82), (5, u42)] rfl; clear hA121
  refine c_region ?_
  refine st hA122 (op_assign rfl (evc _ _)) rfl rfl (by decide) fun a123 hA124 => ?_; clear hA122 a120
  refine wl_nil ?_
  refine then_n ?_
  refine c_block ?_
  have hA125 := hA124.as [(10, (Value.int .i64 0)), (9, v82), (5, u42)] rfl; clear hA124
  refine c_loop (G := Nat) (fun (k : Nat) a_ w_ => Fr 119 [] [(10, (Value.int .i64 (k : Int))), (9, v82), (5, u42)] a_ ∧ Sep NoB w w_ [(row v82 40 1 ov83.length ov83), (lstR ov83 (rallowF R rs)), (row u42 42 2 R.length (pairs (ratesF R rs))), (runsR true v35 lv36 rs), (row u27 42 2 R.length (pairs R)), (blk b4 24 [vr]), (sl vr 2 R.length (pairs R)), (runsR false vu lv rs)] ∧ (k ≤ R.length)) (fun k => R.length - k) 0 ⟨hA125.as _ rfl, hS85, by omega⟩ ?_
  clear hA125 hS85 a123
  rintro k a126 w128 ⟨hA127, hS129, hkk⟩
  refine c_seq ?_
  refine c_seq ?_
  refine c_region ?_
  refine st hA127 (op_move rfl (hA127.ev rfl)) rfl rfl (by decide) fun a130 hA131 => ?_; clear hA127 a126
  refine st hA131 (op_move rfl (hA131.ev rfl)) rfl rfl (by decide) fun a132 hA133 => ?_; clear hA131 a130
  refine st hA133 (op_lenS rfl un_28 (hA133.ev rfl) (SlAt.of_row (hS129.ok_row 2 rfl))) rfl rfl (by decide) fun a134 hA135 => ?_; clear hA133 a132
  refine st hA135 (op_lss rfl (hA135.ev rfl) (hA135.ev rfl)) rfl rfl (by decide) fun a136 hA137 => ?_; clear hA135 a134
  refine wl_nil ?_
  refine then_n ?_
  by_cases hb138 : (k : Int) < (R.length : Int)
  · skip
    rw [decide_eq_true hb138] at hA137
    refine c_true hA137 rfl ?_
    refine c_skip ?_
    refine then_n ?_
    refine c_seq ?_
    refine c_block ?_
    refine c_seq ?_
    have hA139 := hA137.as [(10, (Value.int .i64 (k : Int))), (9, v82), (5, u42)] rfl; clear hA137
    refine c_drawV mixed hA139 hS129 14 [[], [0], [1], [], [2, 3], [4], [], [6], [7], [], [8, 9], [10], [5, 11], []] [(fun (vs140 : Nat → Value) (v_ : Value) (rs_ : List Res) => v_ = v82 ∧ rs_ = []), (fun (vs140 : Nat → Value) (v_ : Value) (rs_ : List Res) => v_ = (eptr v82 (0 * 1)) ∧ rs_ = []), (fun (vs140 : Nat → Value) (v_ : Value) (rs_ : List Res) => v_ = (ov83.getD 0 nilS) ∧ rs_ = []), (fun (vs140 : Nat → Value) (v_ : Value) (rs_ : List Res) => v_ = (Value.int .i64 (k : Int)) ∧ rs_ = []), (fun (vs140 : Nat → Value) (v_ : Value) (rs_ : List Res) => v_ = (eptr (ov83.getD 0 nilS) (k * 1)) ∧ rs_ = []), (fun (vs140 : Nat → Value) (v_ : Value) (rs_ : List Res) => v_ = (Value.int .i64 (((rallowF R rs).getD 0 []).getD k 0)) ∧ rs_ = []), (fun (vs140 : Nat → Value) (v_ : Value) (rs_ : List Res) => v_ = v82 ∧ rs_ = []), (fun (vs140 : Nat → Value) (v_ : Value) (rs_ : List Res) => v_ = (eptr v82 (0 * 1)) ∧ rs_ = []), (fun (vs140 : Nat → Value) (v_ : Value) (rs_ : List Res) => v_ = (ov83.getD 0 nilS) ∧ rs_ = []), (fun (vs140 : Nat → Value) (v_ : Value) (rs_ : List Res) => v_ = (Value.int .i64 (k : Int)) ∧ rs_ = []), (fun (vs140 : Nat → Value) (v_ : Value) (rs_ : List Res) => v_ = (eptr (ov83.getD 0 nilS) (k * 1)) ∧ rs_ = []), (fun (vs140 : Nat → Value) (v_ : Value) (rs_ : List Res) => v_ = (Value.int .i64 (((rallowF R rs).getD 0 []).getD k 0)) ∧ rs_ = []), (fun (vs140 : Nat → Value) (v_ : Value) (rs_ : List Res) => v_ = (Value.agg #[(Value.int .i64 (((rallowF R rs).getD 0 []).getD k 0)), (Value.int .i64 (((rallowF R rs).getD 0 []).getD k 0))]) ∧ rs_ = []), (fun (vs140 : Nat → Value) (v_ : Value) (rs_ : List Res) => ∃ (b13_ : Nat), v_ = (bptr b13_ 0) ∧ rs_ = [(blk b13_ 42 [(Value.int .i64 0), (Value.int .i64 0)])])] (by decide +kernel) (by decide +kernel) rfl rfl ⟨(fun _ _ _ _ _ h_ => h_), (fun _ _ _ _ _ h_ => h_), (fun _ _ _ _ _ h_ => h_), (fun _ _ _ _ _ h_ => h_), (fun _ _ _ _ _ h_ => h_), (fun _ _ _ _ _ h_ => h_), (fun _ _ _ _ _ h_ => h_), (fun _ _ _ _ _ h_ => h_), (fun _ _ _ _ _ h_ => h_), (fun _ _ _ _ _ h_ => h_), (fun _ _ _ _ _ h_ => h_), (fun _ _ _ _ _ h_ => h_), (fun _ _ _ _ _ h_ => h_), (fun _ _ _ _ _ h_ => h_), trivial⟩ ?_ ?_
    · skip
      refine ⟨fun a w vs140 hA hS hd => ?_, ?_⟩
      · skip
        exact opG_of rfl (vv (op_move rfl (hA.ev rfl)) (And.intro rfl rfl))
      refine ⟨fun a w vs140 hA hS hd => ?_, ?_⟩
      · skip
        obtain ⟨e0, rs0, hy0, hp0⟩ := hd 0 (by decide)
        obtain ⟨hv0, hr0⟩ := hy0; subst hr0
        rw [hv0] at e0
        exact opG_of rfl (vv (op_indexS rfl un_38 ty_40 (tmp_ev (slot_ev e0 rfl)) (i := 0) (show _ = Value.int .i64 ((0 : Nat) : Int) from (evc _ _)) (SlAt.of_row (hS.ok_row 0 rfl)) (by decide) (by omega)) (And.intro rfl rfl))
      refine ⟨fun a w vs140 hA hS hd => ?_, ?_⟩
      · skip
        obtain ⟨e1, rs1, hy1, hp1⟩ := hd 1 (by decide)
        obtain ⟨hv1, hr1⟩ := hy1; subst hr1
        rw [hv1] at e1
        exact opG_of rfl (vv (op_load1E rfl ty_40 (tmp_ev (slot_ev e1 rfl)) (SlAt.of_row (hS.ok_row 0 rfl)) (vals_at (by omega))) (And.intro rfl rfl))
      refine ⟨fun a w vs140 hA hS hd => ?_, ?_⟩
      · skip
        exact opG_of rfl (vv (op_move rfl (hA.ev rfl)) (And.intro rfl rfl))
      refine ⟨fun a w vs140 hA hS hd => ?_, ?_⟩
      · skip
        obtain ⟨e2, rs2, hy2, hp2⟩ := hd 2 (by decide)
        obtain ⟨hv2, hr2⟩ := hy2; subst hr2
        rw [hv2] at e2
        obtain ⟨e3, rs3, hy3, hp3⟩ := hd 3 (by decide)
        obtain ⟨hv3, hr3⟩ := hy3; subst hr3
        rw [hv3] at e3
        exact opG_of rfl (vv (op_indexS rfl un_40 ty_3 (tmp_ev (slot_ev e2 rfl)) (i := k) (tmp_ev (slot_ev e3 rfl)) ((hS.ok 1 _ rfl).2 0 (by omega)) (by decide) (by omega)) (And.intro rfl rfl))
      refine ⟨fun a w vs140 hA hS hd => ?_, ?_⟩
      · skip
        obtain ⟨e4, rs4, hy4, hp4⟩ := hd 4 (by decide)
        obtain ⟨hv4, hr4⟩ := hy4; subst hr4
        rw [hv4] at e4
        exact opG_of rfl (vv (op_load1E rfl ty_3 (tmp_ev (slot_ev e4 rfl)) ((hS.ok 1 _ rfl).2 0 (by omega)) (ints_at (by omega))) (And.intro rfl rfl))
      refine ⟨fun a w vs140 hA hS hd => ?_, ?_⟩
      · skip
        exact opG_of rfl (vv (op_move rfl (hA.ev rfl)) (And.intro rfl rfl))
      refine ⟨fun a w vs140 hA hS hd => ?_, ?_⟩
      · skip
        obtain ⟨e6, rs6, hy6, hp6⟩ := hd 6 (by decide)
        obtain ⟨hv6, hr6⟩ := hy6; subst hr6
        rw [hv6] at e6
        exact opG_of rfl (vv (op_indexS rfl un_38 ty_40 (tmp_ev (slot_ev e6 rfl)) (i := 0) (show _ = Value.int .i64 ((0 : Nat) : Int) from (evc _ _)) (SlAt.of_row (hS.ok_row 0 rfl)) (by decide) (by omega)) (And.intro rfl rfl))
      refine ⟨fun a w vs140 hA hS hd => ?_, ?_⟩
      · skip
        obtain ⟨e7, rs7, hy7, hp7⟩ := hd 7 (by decide)
        obtain ⟨hv7, hr7⟩ := hy7; subst hr7
        rw [hv7] at e7
        exact opG_of rfl (vv (op_load1E rfl ty_40 (tmp_ev (slot_ev e7 rfl)) (SlAt.of_row (hS.ok_row 0 rfl)) (vals_at (by omega))) (And.intro rfl rfl))
      refine ⟨fun a w vs140 hA hS hd => ?_, ?_⟩
      · skip
        exact opG_of rfl (vv (op_move rfl (hA.ev rfl)) (And.intro rfl rfl))
      refine ⟨fun a w vs140 hA hS hd => ?_, ?_⟩
      · skip
        obtain ⟨e8, rs8, hy8, hp8⟩ := hd 8 (by decide)
        obtain ⟨hv8, hr8⟩ := hy8; subst hr8
        rw [hv8] at e8
        obtain ⟨e9, rs9, hy9, hp9⟩ := hd 9 (by decide)
        obtain ⟨hv9, hr9⟩ := hy9; subst hr9
        rw [hv9] at e9
        exact opG_of rfl (vv (op_indexS rfl un_40 ty_3 (tmp_ev (slot_ev e8 rfl)) (i := k) (tmp_ev (slot_ev e9 rfl)) ((hS.ok 1 _ rfl).2 0 (by omega)) (by decide) (by omega)) (And.intro rfl rfl))
      refine ⟨fun a w vs140 hA hS hd => ?_, ?_⟩
      · skip
        obtain ⟨e10, rs10, hy10, hp10⟩ := hd 10 (by decide)
        obtain ⟨hv10, hr10⟩ := hy10; subst hr10
        rw [hv10] at e10
        exact opG_of rfl (vv (op_load1E rfl ty_3 (tmp_ev (slot_ev e10 rfl)) ((hS.ok 1 _ rfl).2 0 (by omega)) (ints_at (by omega))) (And.intro rfl rfl))
      refine ⟨fun a w vs140 hA hS hd => ?_, ?_⟩
      · skip
        obtain ⟨e5, rs5, hy5, hp5⟩ := hd 5 (by decide)
        obtain ⟨hv5, hr5⟩ := hy5; subst hr5
        rw [hv5] at e5
        obtain ⟨e11, rs11, hy11, hp11⟩ := hd 11 (by decide)
        obtain ⟨hv11, hr11⟩ := hy11; subst hr11
        rw [hv11] at e11
        exact opG_of rfl (vv (op_build rfl (pv2 (tmp_ev (slot_ev e5 rfl)) (tmp_ev (slot_ev e11 rfl))) (bd_42_0i_1i _ _)) (And.intro rfl rfl))
      refine ⟨fun a w vs140 hA hS hd => ?_, ?_⟩
      · skip
        exact opG_of rfl (valloc rfl ze_42 (cs := [(Value.int .i64 0), (Value.int .i64 0)]) rfl (fun b_ => ⟨b_, rfl, rfl⟩))
      trivial
    intro a141 w142 vs140 rsf146 hA143 hH145 hS144; clear hA139 hS129
    obtain ⟨hs_0, hy_0⟩ := hH145 0 (by decide)
    obtain ⟨hv_0, hr_0⟩ := hy_0
    obtain ⟨hs_1, hy_1⟩ := hH145 1 (by decide)
    obtain ⟨hv_1, hr_1⟩ := hy_1
    obtain ⟨hs_2, hy_2⟩ := hH145 2 (by decide)
    obtain ⟨hv_2, hr_2⟩ := hy_2
    obtain ⟨hs_3, hy_3⟩ := hH145 3 (by decide)
    obtain ⟨hv_3, hr_3⟩ := hy_3
    obtain ⟨hs_4, hy_4⟩ := hH145 4 (by decide)
    obtain ⟨hv_4, hr_4⟩ := hy_4
    obtain ⟨hs_5, hy_5⟩ := hH145 5 (by decide)
    obtain ⟨hv_5, hr_5⟩ := hy_5
    obtain ⟨hs_6, hy_6⟩ := hH145 6 (by decide)
    obtain ⟨hv_6, hr_6⟩ := hy_6
    obtain ⟨hs_7, hy_7⟩ := hH145 7 (by decide)
    obtain ⟨hv_7, hr_7⟩ := hy_7
    obtain ⟨hs_8, hy_8⟩ := hH145 8 (by decide)
    obtain ⟨hv_8, hr_8⟩ := hy_8
    obtain ⟨hs_9, hy_9⟩ := hH145 9 (by decide)
    obtain ⟨hv_9, hr_9⟩ := hy_9
    obtain ⟨hs_10, hy_10⟩ := hH145 10 (by decide)
    obtain ⟨hv_10, hr_10⟩ := hy_10
    obtain ⟨hs_11, hy_11⟩ := hH145 11 (by decide)
    obtain ⟨hv_11, hr_11⟩ := hy_11
    obtain ⟨hs_12, hy_12⟩ := hH145 12 (by decide)
    obtain ⟨hv_12, hr_12⟩ := hy_12
    obtain ⟨hs_13, hy_13⟩ := hH145 13 (by decide)
    obtain ⟨b13_, hv_13, hr_13⟩ := hy_13
    have hS147 : Sep NoB w w142 [(blk b13_ 42 [(Value.int .i64 0), (Value.int .i64 0)]), (row v82 40 1 ov83.length ov83), (lstR ov83 (rallowF R rs)), (row u42 42 2 R.length (pairs (ratesF R rs))), (runsR true v35 lv36 rs), (row u27 42 2 R.length (pairs R)), (blk b4 24 [vr]), (sl vr 2 R.length (pairs R)), (runsR false vu lv rs)] := by rw [show catR rsf146 0 14 = ([(blk b13_ 42 [(Value.int .i64 0), (Value.int .i64 0)])] : List Res) by (try simp only [catR, hr_0, hr_1, hr_2, hr_3, hr_4, hr_5, hr_6, hr_7, hr_8, hr_9, hr_10, hr_11, hr_12, hr_13]); (try rfl)] at hS144; exact hS144
    rw [hv_12] at hs_12
    have hA148 : Fr 119 [] [(84, (Value.agg #[(Value.int .i64 (((rallowF R rs).getD 0 []).getD k 0)), (Value.int .i64 (((rallowF R rs).getD 0 []).getD k 0))])), (10, (Value.int .i64 (k : Int))), (9, v82), (5, u42)] a141 := hA143.add (slot_ev hs_12 rfl); clear hA143
    rw [hv_13] at hs_13
    have hA149 : Fr 119 [] [(11, (bptr b13_ 0)), (84, (Value.agg #[(Value.int .i64 (((rallowF R rs).getD 0 []).getD k 0)), (Value.int .i64 (((rallowF R rs).getD 0 []).getD k 0))])), (10, (Value.int .i64 (k : Int))), (9, v82), (5, u42)] a141 := hA148.add (slot_ev hs_13 rfl); clear hA148
    clear hH145 hS144 hs_0 hs_1 hs_2 hs_3 hs_4 hs_5 hs_6 hs_7 hs_8 hs_9 hs_10 hs_11 hs_12 hs_13
    clear hr_0
    clear hv_0
    clear hr_1
    clear hv_1
    clear hr_2
    clear hv_2
    clear hr_3
    clear hv_3
    clear hr_4
    clear hv_4
    clear hr_5
    clear hv_5
    clear hr_6
    clear hv_6
    clear hr_7
    clear hv_7
    clear hr_8
    clear hv_8
    clear hr_9
    clear hv_9
    clear hr_10
    clear hv_10
    clear hr_11
    clear hv_11
    clear hr_12
    clear hv_12
    clear hr_13
    clear hv_13
    refine sts hA149 (op_store hS147 rfl ty_42 (hA149.ev rfl) (hA149.ev rfl) (i := 0) rfl (vs := [(Value.int .i64 (((rallowF R rs).getD 0 []).getD k 0)), (Value.int .i64 (((rallowF R rs).getD 0 []).getD k 0))]) rfl rfl rfl (Nat.le_of_ble_eq_true rfl)) rfl rfl ?_
    intro _ w150 hS151 hA152; clear hA149
    have hS153 : Sep NoB w w150 [(blk b13_ 42 [(Value.int .i64 (((rallowF R rs).getD 0 []).getD k 0)), (Value.int .i64 (((rallowF R rs).getD 0 []).getD k 0))]), (row v82 40 1 ov83.length ov83), (lstR ov83 (rallowF R rs)), (row u42 42 2 R.length (pairs (ratesF R rs))), (runsR true v35 lv36 rs), (row u27 42 2 R.length (pairs R)), (blk b4 24 [vr]), (sl vr 2 R.length (pairs R)), (runsR false vu lv rs)] := hS151; clear hS151 hS147
    refine wl_nil ?_
    refine then_n ?_
    refine c_seq ?_
    refine c_seq ?_
    refine c_region ?_
    refine st hA152 (op_assign rfl (evc _ _)) rfl rfl (by decide) fun a154 hA155 => ?_; clear hA152 a141
    refine wl_nil ?_
    refine then_n ?_
    refine c_block ?_
    have hA156 := hA155.as [(12, (Value.int .i64 0)), (11, (bptr b13_ 0)), (10, (Value.int .i64 (k : Int))), (9, v82), (5, u42)] rfl; clear hA155
    refine c_loop (G := Nat) (fun (k2 : Nat) a_ w_ => Fr 119 [] [(12, (Value.int .i64 (k2 : Int))), (11, (bptr b13_ 0)), (10, (Value.int .i64 (k : Int))), (9, v82), (5, u42)] a_ ∧ Sep NoB w w_ [(blk b13_ 42 [(Value.int .i64 ((rngU (rallowF R rs) k k2).1)), (Value.int .i64 ((rngU (rallowF R rs) k k2).2))]), (row v82 40 1 ov83.length ov83), (lstR ov83 (rallowF R rs)), (row u42 42 2 R.length (pairs (ratesF R rs))), (runsR true v35 lv36 rs), (row u27 42 2 R.length (pairs R)), (blk b4 24 [vr]), (sl vr 2 R.length (pairs R)), (runsR false vu lv rs)] ∧ (k2 ≤ (rallowF R rs).length)) (fun k2 => (rallowF R rs).length - k2) 0 ⟨hA156.as _ rfl, hS153, by omega⟩ ?_
    clear hA156 hS153 a154
    rintro k2 a157 w159 ⟨hA158, hS160, hk2⟩
    refine c_seq ?_
    refine c_seq ?_
    refine c_region ?_
    refine st hA158 (op_move rfl (hA158.ev rfl)) rfl rfl (by decide) fun a161 hA162 => ?_; clear hA158 a157
    refine st hA162 (op_move rfl (hA162.ev rfl)) rfl rfl (by decide) fun a163 hA164 => ?_; clear hA162 a161
    refine st hA164 (op_lenS rfl un_38 (hA164.ev rfl) (SlAt.of_row (hS160.ok_row 1 rfl))) rfl rfl (by decide) fun a165 hA166 => ?_; clear hA164 a163
    refine st hA166 (op_lss rfl (hA166.ev rfl) (hA166.ev rfl)) rfl rfl (by decide) fun a167 hA168 => ?_; clear hA166 a165
    refine wl_nil ?_
    refine then_n ?_
    by_cases hb169 : (k2 : Int) < (ov83.length : Int)
    · skip
      rw [decide_eq_true hb169] at hA168
      have hil := hra k2 (by omega)
      refine c_true hA168 rfl ?_
      refine c_skip ?_
      refine then_n ?_
      refine c_seq ?_
      refine c_block ?_
      have hA170 := hA168.as [(12, (Value.int .i64 (k2 : Int))), (11, (bptr b13_ 0)), (10, (Value.int .i64 (k : Int))), (9, v82), (5, u42)] rfl; clear hA168
      refine c_drawV mixed hA170 hS160 20 [[], [0], [], [], [2, 3], [4], [], [5, 6], [7], [1, 8], [], [10], [], [], [12, 13], [14], [], [15, 16], [17], [11, 18]] [(fun (vs171 : Nat → Value) (v_ : Value) (rs_ : List Res) => v_ = (bptr b13_ 0) ∧ rs_ = []), (fun (vs171 : Nat → Value) (v_ : Value) (rs_ : List Res) => v_ = (Value.int .i64 ((rngU (rallowF R rs) k k2).1)) ∧ rs_ = []), (fun (vs171 : Nat → Value) (v_ : Value) (rs_ : List Res) => v_ = v82 ∧ rs_ = []), (fun (vs171 : Nat → Value) (v_ : Value) (rs_ : List Res) => v_ = (Value.int .i64 (k2 : Int)) ∧ rs_ = []), (fun (vs171 : Nat → Value) (v_ : Value) (rs_ : List Res) => v_ = (eptr v82 (k2 * 1)) ∧ rs_ = []), (fun (vs171 : Nat → Value) (v_ : Value) (rs_ : List Res) => v_ = (ov83.getD k2 nilS) ∧ rs_ = []), (fun (vs171 : Nat → Value) (v_ : Value) (rs_ : List Res) => v_ = (Value.int .i64 (k : Int)) ∧ rs_ = []), (fun (vs171 : Nat → Value) (v_ : Value) (rs_ : List Res) => v_ = (eptr (ov83.getD k2 nilS) (k * 1)) ∧ rs_ = []), (fun (vs171 : Nat → Value) (v_ : Value) (rs_ : List Res) => v_ = (Value.int .i64 (((rallowF R rs).getD k2 []).getD k 0)) ∧ rs_ = []), (fun (vs171 : Nat → Value) (v_ : Value) (rs_ : List Res) => v_ = (Value.int .i64 (min ((rngU (rallowF R rs) k k2).1) (((rallowF R rs).getD k2 []).getD k 0))) ∧ rs_ = []), (fun (vs171 : Nat → Value) (v_ : Value) (rs_ : List Res) => v_ = (bptr b13_ 1) ∧ rs_ = []), (fun (vs171 : Nat → Value) (v_ : Value) (rs_ : List Res) => v_ = (Value.int .i64 ((rngU (rallowF R rs) k k2).2)) ∧ rs_ = []), (fun (vs171 : Nat → Value) (v_ : Value) (rs_ : List Res) => v_ = v82 ∧ rs_ = []), (fun (vs171 : Nat → Value) (v_ : Value) (rs_ : List Res) => v_ = (Value.int .i64 (k2 : Int)) ∧ rs_ = []), (fun (vs171 : Nat → Value) (v_ : Value) (rs_ : List Res) => v_ = (eptr v82 (k2 * 1)) ∧ rs_ = []), (fun (vs171 : Nat → Value) (v_ : Value) (rs_ : List Res) => v_ = (ov83.getD k2 nilS) ∧ rs_ = []), (fun (vs171 : Nat → Value) (v_ : Value) (rs_ : List Res) => v_ = (Value.int .i64 (k : Int)) ∧ rs_ = []), (fun (vs171 : Nat → Value) (v_ : Value) (rs_ : List Res) => v_ = (eptr (ov83.getD k2 nilS) (k * 1)) ∧ rs_ = []), (fun (vs171 : Nat → Value) (v_ : Value) (rs_ : List Res) => v_ = (Value.int .i64 (((rallowF R rs).getD k2 []).getD k 0)) ∧ rs_ = []), (fun (vs171 : Nat → Value) (v_ : Value) (rs_ : List Res) => v_ = (Value.int .i64 (max ((rngU (rallowF R rs) k k2).2) (((rallowF R rs).getD k2 []).getD k 0))) ∧ rs_ = [])] (by decide +kernel) (by decide +kernel) rfl rfl ⟨(fun _ _ _ _ _ h_ => h_), (fun _ _ _ _ _ h_ => h_), (fun _ _ _ _ _ h_ => h_), (fun _ _ _ _ _ h_ => h_), (fun _ _ _ _ _ h_ => h_), (fun _ _ _ _ _ h_ => h_), (fun _ _ _ _ _ h_ => h_), (fun _ _ _ _ _ h_ => h_), (fun _ _ _ _ _ h_ => h_), (fun _ _ _ _ _ h_ => h_), (fun _ _ _ _ _ h_ => h_), (fun _ _ _ _ _ h_ => h_), (fun _ _ _ _ _ h_ => h_), (fun _ _ _ _ _ h_ => h_), (fun _ _ _ _ _ h_ => h_), (fun _ _ _ _ _ h_ => h_), (fun _ _ _ _ _ h_ => h_), (fun _ _ _ _ _ h_ => h_), (fun _ _ _ _ _ h_ => h_), (fun _ _ _ _ _ h_ => h_), trivial⟩ ?_ ?_
      · skip
        refine ⟨fun a w vs171 hA hS hd => ?_, ?_⟩
        · skip
          exact opG_of rfl (vv (op_field rfl fd_42_0 (hA.ev rfl)) (And.intro rfl rfl))
        refine ⟨fun a w vs171 hA hS hd => ?_, ?_⟩
        · skip
          obtain ⟨e0, rs0, hy0, hp0⟩ := hd 0 (by decide)
          obtain ⟨hv0, hr0⟩ := hy0; subst hr0
          rw [hv0] at e0
          exact opG_of rfl (vv (op_load1 rfl ty_3 (tmp_ev (slot_ev e0 rfl)) (hS.bk 0 rfl) rfl) (And.intro rfl rfl))
        refine ⟨fun a w vs171 hA hS hd => ?_, ?_⟩
        · skip
          exact opG_of rfl (vv (op_move rfl (hA.ev rfl)) (And.intro rfl rfl))
        refine ⟨fun a w vs171 hA hS hd => ?_, ?_⟩
        · skip
          exact opG_of rfl (vv (op_move rfl (hA.ev rfl)) (And.intro rfl rfl))
        refine ⟨fun a w vs171 hA hS hd => ?_, ?_⟩
        · skip
          obtain ⟨e2, rs2, hy2, hp2⟩ := hd 2 (by decide)
          obtain ⟨hv2, hr2⟩ := hy2; subst hr2
          rw [hv2] at e2
          obtain ⟨e3, rs3, hy3, hp3⟩ := hd 3 (by decide)
          obtain ⟨hv3, hr3⟩ := hy3; subst hr3
          rw [hv3] at e3
          exact opG_of rfl (vv (op_indexS rfl un_38 ty_40 (tmp_ev (slot_ev e2 rfl)) (i := k2) (tmp_ev (slot_ev e3 rfl)) (SlAt.of_row (hS.ok_row 1 rfl)) (by decide) (by omega)) (And.intro rfl rfl))
        refine ⟨fun a w vs171 hA hS hd => ?_, ?_⟩
        · skip
          obtain ⟨e4, rs4, hy4, hp4⟩ := hd 4 (by decide)
          obtain ⟨hv4, hr4⟩ := hy4; subst hr4
          rw [hv4] at e4
          exact opG_of rfl (vv (op_load1E rfl ty_40 (tmp_ev (slot_ev e4 rfl)) (SlAt.of_row (hS.ok_row 1 rfl)) (vals_at (by omega))) (And.intro rfl rfl))
        refine ⟨fun a w vs171 hA hS hd => ?_, ?_⟩
        · skip
          exact opG_of rfl (vv (op_move rfl (hA.ev rfl)) (And.intro rfl rfl))
        refine ⟨fun a w vs171 hA hS hd => ?_, ?_⟩
        · skip
          obtain ⟨e5, rs5, hy5, hp5⟩ := hd 5 (by decide)
          obtain ⟨hv5, hr5⟩ := hy5; subst hr5
          rw [hv5] at e5
          obtain ⟨e6, rs6, hy6, hp6⟩ := hd 6 (by decide)
          obtain ⟨hv6, hr6⟩ := hy6; subst hr6
          rw [hv6] at e6
          exact opG_of rfl (vv (op_indexS rfl un_40 ty_3 (tmp_ev (slot_ev e5 rfl)) (i := k) (tmp_ev (slot_ev e6 rfl)) ((hS.ok 2 _ rfl).2 k2 (by omega)) (by decide) (by omega)) (And.intro rfl rfl))
        refine ⟨fun a w vs171 hA hS hd => ?_, ?_⟩
        · skip
          obtain ⟨e7, rs7, hy7, hp7⟩ := hd 7 (by decide)
          obtain ⟨hv7, hr7⟩ := hy7; subst hr7
          rw [hv7] at e7
          exact opG_of rfl (vv (op_load1E rfl ty_3 (tmp_ev (slot_ev e7 rfl)) ((hS.ok 2 _ rfl).2 k2 (by omega)) (ints_at (by omega))) (And.intro rfl rfl))
        refine ⟨fun a w vs171 hA hS hd => ?_, ?_⟩
        · skip
          obtain ⟨e1, rs1, hy1, hp1⟩ := hd 1 (by decide)
          obtain ⟨hv1, hr1⟩ := hy1; subst hr1
          rw [hv1] at e1
          obtain ⟨e8, rs8, hy8, hp8⟩ := hd 8 (by decide)
          obtain ⟨hv8, hr8⟩ := hy8; subst hr8
          rw [hv8] at e8
          exact opG_of rfl (vv (op_min rfl (tmp_ev (slot_ev e1 rfl)) (tmp_ev (slot_ev e8 rfl))) (And.intro rfl rfl))
        refine ⟨fun a w vs171 hA hS hd => ?_, ?_⟩
        · skip
          exact opG_of rfl (vv (op_field rfl fd_42_1 (hA.ev rfl)) (And.intro rfl rfl))
        refine ⟨fun a w vs171 hA hS hd => ?_, ?_⟩
        · skip
          obtain ⟨e10, rs10, hy10, hp10⟩ := hd 10 (by decide)
          obtain ⟨hv10, hr10⟩ := hy10; subst hr10
          rw [hv10] at e10
          exact opG_of rfl (vv (op_load1 rfl ty_3 (tmp_ev (slot_ev e10 rfl)) (hS.bk 0 rfl) rfl) (And.intro rfl rfl))
        refine ⟨fun a w vs171 hA hS hd => ?_, ?_⟩
        · skip
          exact opG_of rfl (vv (op_move rfl (hA.ev rfl)) (And.intro rfl rfl))
        refine ⟨fun a w vs171 hA hS hd => ?_, ?_⟩
        · skip
          exact opG_of rfl (vv (op_move rfl (hA.ev rfl)) (And.intro rfl rfl))
        refine ⟨fun a w vs171 hA hS hd => ?_, ?_⟩
        · skip
          obtain ⟨e12, rs12, hy12, hp12⟩ := hd 12 (by decide)
          obtain ⟨hv12, hr12⟩ := hy12; subst hr12
          rw [hv12] at e12
          obtain ⟨e13, rs13, hy13, hp13⟩ := hd 13 (by decide)
          obtain ⟨hv13, hr13⟩ := hy13; subst hr13
          rw [hv13] at e13
          exact opG_of rfl (vv (op_indexS rfl un_38 ty_40 (tmp_ev (slot_ev e12 rfl)) (i := k2) (tmp_ev (slot_ev e13 rfl)) (SlAt.of_row (hS.ok_row 1 rfl)) (by decide) (by omega)) (And.intro rfl rfl))
        refine ⟨fun a w vs171 hA hS hd => ?_, ?_⟩
        · skip
          obtain ⟨e14, rs14, hy14, hp14⟩ := hd 14 (by decide)
          obtain ⟨hv14, hr14⟩ := hy14; subst hr14
          rw [hv14] at e14
          exact opG_of rfl (vv (op_load1E rfl ty_40 (tmp_ev (slot_ev e14 rfl)) (SlAt.of_row (hS.ok_row 1 rfl)) (vals_at (by omega))) (And.intro rfl rfl))
        refine ⟨fun a w vs171 hA hS hd => ?_, ?_⟩
        · skip
          exact opG_of rfl (vv (op_move rfl (hA.ev rfl)) (And.intro rfl rfl))
        refine ⟨fun a w vs171 hA hS hd => ?_, ?_⟩
        · skip
          obtain ⟨e15, rs15, hy15, hp15⟩ := hd 15 (by decide)
          obtain ⟨hv15, hr15⟩ := hy15; subst hr15
          rw [hv15] at e15
          obtain ⟨e16, rs16, hy16, hp16⟩ := hd 16 (by decide)
          obtain ⟨hv16, hr16⟩ := hy16; subst hr16
          rw [hv16] at e16
          exact opG_of rfl (vv (op_indexS rfl un_40 ty_3 (tmp_ev (slot_ev e15 rfl)) (i := k) (tmp_ev (slot_ev e16 rfl)) ((hS.ok 2 _ rfl).2 k2 (by omega)) (by decide) (by omega)) (And.intro rfl rfl))
        refine ⟨fun a w vs171 hA hS hd => ?_, ?_⟩
        · skip
          obtain ⟨e17, rs17, hy17, hp17⟩ := hd 17 (by decide)
          obtain ⟨hv17, hr17⟩ := hy17; subst hr17
          rw [hv17] at e17
          exact opG_of rfl (vv (op_load1E rfl ty_3 (tmp_ev (slot_ev e17 rfl)) ((hS.ok 2 _ rfl).2 k2 (by omega)) (ints_at (by omega))) (And.intro rfl rfl))
        refine ⟨fun a w vs171 hA hS hd => ?_, ?_⟩
        · skip
          obtain ⟨e11, rs11, hy11, hp11⟩ := hd 11 (by decide)
          obtain ⟨hv11, hr11⟩ := hy11; subst hr11
          rw [hv11] at e11
          obtain ⟨e18, rs18, hy18, hp18⟩ := hd 18 (by decide)
          obtain ⟨hv18, hr18⟩ := hy18; subst hr18
          rw [hv18] at e18
          exact opG_of rfl (vv (op_max rfl (tmp_ev (slot_ev e11 rfl)) (tmp_ev (slot_ev e18 rfl))) (And.intro rfl rfl))
        trivial
      intro a172 w173 vs171 rsf177 hA174 hH176 hS175; clear hA170 hS160
      obtain ⟨hs_0, hy_0⟩ := hH176 0 (by decide)
      obtain ⟨hv_0, hr_0⟩ := hy_0
      obtain ⟨hs_1, hy_1⟩ := hH176 1 (by decide)
      obtain ⟨hv_1, hr_1⟩ := hy_1
      obtain ⟨hs_2, hy_2⟩ := hH176 2 (by decide)
      obtain ⟨hv_2, hr_2⟩ := hy_2
      obtain ⟨hs_3, hy_3⟩ := hH176 3 (by decide)
      obtain ⟨hv_3, hr_3⟩ := hy_3
      obtain ⟨hs_4, hy_4⟩ := hH176 4 (by decide)
      obtain ⟨hv_4, hr_4⟩ := hy_4
      obtain ⟨hs_5, hy_5⟩ := hH176 5 (by decide)
      obtain ⟨hv_5, hr_5⟩ := hy_5
      obtain ⟨hs_6, hy_6⟩ := hH176 6 (by decide)
      obtain ⟨hv_6, hr_6⟩ := hy_6
      obtain ⟨hs_7, hy_7⟩ := hH176 7 (by decide)
      obtain ⟨hv_7, hr_7⟩ := hy_7
      obtain ⟨hs_8, hy_8⟩ := hH176 8 (by decide)
      obtain ⟨hv_8, hr_8⟩ := hy_8
      obtain ⟨hs_9, hy_9⟩ := hH176 9 (by decide)
      obtain ⟨hv_9, hr_9⟩ := hy_9
      obtain ⟨hs_10, hy_10⟩ := hH176 10 (by decide)
      obtain ⟨hv_10, hr_10⟩ := hy_10
      obtain ⟨hs_11, hy_11⟩ := hH176 11 (by decide)
      obtain ⟨hv_11, hr_11⟩ := hy_11
      obtain ⟨hs_12, hy_12⟩ := hH176 12 (by decide)
      obtain ⟨hv_12, hr_12⟩ := hy_12
      obtain ⟨hs_13, hy_13⟩ := hH176 13 (by decide)
      obtain ⟨hv_13, hr_13⟩ := hy_13
      obtain ⟨hs_14, hy_14⟩ := hH176 14 (by decide)
      obtain ⟨hv_14, hr_14⟩ := hy_14
      obtain ⟨hs_15, hy_15⟩ := hH176 15 (by decide)
      obtain ⟨hv_15, hr_15⟩ := hy_15
      obtain ⟨hs_16, hy_16⟩ := hH176 16 (by decide)
      obtain ⟨hv_16, hr_16⟩ := hy_16
      obtain ⟨hs_17, hy_17⟩ := hH176 17 (by decide)
      obtain ⟨hv_17, hr_17⟩ := hy_17
      obtain ⟨hs_18, hy_18⟩ := hH176 18 (by decide)
      obtain ⟨hv_18, hr_18⟩ := hy_18
      obtain ⟨hs_19, hy_19⟩ := hH176 19 (by decide)
      obtain ⟨hv_19, hr_19⟩ := hy_19
      have hS178 : Sep NoB w w173 [(blk b13_ 42 [(Value.int .i64 ((rngU (rallowF R rs) k k2).1)), (Value.int .i64 ((rngU (rallowF R rs) k k2).2))]), (row v82 40 1 ov83.length ov83), (lstR ov83 (rallowF R rs)), (row u42 42 2 R.length (pairs (ratesF R rs))), (runsR true v35 lv36 rs), (row u27 42 2 R.length (pairs R)), (blk b4 24 [vr]), (sl vr 2 R.length (pairs R)), (runsR false vu lv rs)] := by rw [show catR rsf177 0 20 = ([] : List Res) by (try simp only [catR, hr_0, hr_1, hr_2, hr_3, hr_4, hr_5, hr_6, hr_7, hr_8, hr_9, hr_10, hr_11, hr_12, hr_13, hr_14, hr_15, hr_16, hr_17, hr_18, hr_19]); (try rfl)] at hS175; exact hS175
      rw [hv_9] at hs_9
      have hA179 : Fr 119 [] [(100, (Value.int .i64 (min ((rngU (rallowF R rs) k k2).1) (((rallowF R rs).getD k2 []).getD k 0)))), (12, (Value.int .i64 (k2 : Int))), (11, (bptr b13_ 0)), (10, (Value.int .i64 (k : Int))), (9, v82), (5, u42)] a172 := hA174.add (slot_ev hs_9 rfl); clear hA174
      rw [hv_19] at hs_19
      have hA180 : Fr 119 [] [(110, (Value.int .i64 (max ((rngU (rallowF R rs) k k2).2) (((rallowF R rs).getD k2 []).getD k 0)))), (100, (Value.int .i64 (min ((rngU (rallowF R rs) k k2).1) (((rallowF R rs).getD k2 []).getD k 0)))), (12, (Value.int .i64 (k2 : Int))), (11, (bptr b13_ 0)), (10, (Value.int .i64 (k : Int))), (9, v82), (5, u42)] a172 := hA179.add (slot_ev hs_19 rfl); clear hA179
      clear hH176 hS175 hs_0 hs_1 hs_2 hs_3 hs_4 hs_5 hs_6 hs_7 hs_8 hs_9 hs_10 hs_11 hs_12 hs_13 hs_14 hs_15 hs_16 hs_17 hs_18 hs_19
      clear hr_0
      clear hv_0
      clear hr_1
      clear hv_1
      clear hr_2
      clear hv_2
      clear hr_3
      clear hv_3
      clear hr_4
      clear hv_4
      clear hr_5
      clear hv_5
      clear hr_6
      clear hv_6
      clear hr_7
      clear hv_7
      clear hr_8
      clear hv_8
      clear hr_9
      clear hv_9
      clear hr_10
      clear hv_10
      clear hr_11
      clear hv_11
      clear hr_12
      clear hv_12
      clear hr_13
      clear hv_13
      clear hr_14
      clear hv_14
      clear hr_15
      clear hv_15
      clear hr_16
      clear hv_16
      clear hr_17
      clear hv_17
      clear hr_18
      clear hv_18
      clear hr_19
      clear hv_19
      refine st hA180 (op_build rfl (pv2 (hA180.ev rfl) (hA180.ev rfl)) (bd_42_0i_1i _ _)) rfl rfl (by decide) fun a181 hA182 => ?_; clear hA180 a172
      refine sts hA182 (op_store hS178 rfl ty_42 (hA182.ev rfl) (hA182.ev rfl) (i := 0) rfl (vs := [(Value.int .i64 (min ((rngU (rallowF R rs) k k2).1) (((rallowF R rs).getD k2 []).getD k 0))), (Value.int .i64 (max ((rngU (rallowF R rs) k k2).2) (((rallowF R rs).getD k2 []).getD k 0)))]) rfl rfl rfl (Nat.le_of_ble_eq_true rfl)) rfl rfl ?_
      intro _ w183 hS184 hA185; clear hA182
      have hS186 : Sep NoB w w183 [(blk b13_ 42 [(Value.int .i64 (min ((rngU (rallowF R rs) k k2).1) (((rallowF R rs).getD k2 []).getD k 0))), (Value.int .i64 (max ((rngU (rallowF R rs) k k2).2) (((rallowF R rs).getD k2 []).getD k 0)))]), (row v82 40 1 ov83.length ov83), (lstR ov83 (rallowF R rs)), (row u42 42 2 R.length (pairs (ratesF R rs))), (runsR true v35 lv36 rs), (row u27 42 2 R.length (pairs R)), (blk b4 24 [vr]), (sl vr 2 R.length (pairs R)), (runsR false vu lv rs)] := hS184; clear hS184 hS178
      refine wl_nil ?_
      refine blk_n ?_
      refine then_n ?_
      refine c_region ?_
      refine st hA185 (op_move rfl (hA185.ev rfl)) rfl rfl (by decide) fun a187 hA188 => ?_; clear hA185 a181
      refine st hA188 (op_add rfl (hA188.ev rfl) (evc _ _) (by omega) (by omega)) rfl rfl (by decide) fun a189 hA190 => ?_; clear hA188 a187
      refine st hA190 (op_assign rfl (hA190.ev rfl)) rfl rfl (by decide) fun a191 hA192 => ?_; clear hA190 a189
      refine wl_nil ?_
      exact then_n ⟨k2 + 1, ⟨hA192.as _ rfl, hS186, by omega⟩, by omega⟩
    · skip
      rw [decide_eq_false hb169] at hA168
      refine c_false hA168 rfl ?_
      refine c_exit ?_
      refine then_exit ?_
      refine then_exit ?_
      refine blk_hit ?_
      refine then_n ?_
      refine c_seq ?_
      have hA193 := hA168.as [(11, (bptr b13_ 0)), (10, (Value.int .i64 (k : Int))), (9, v82), (5, u42)] rfl; clear hA168
      refine c_drawV mixed hA193 hS160 5 [[], [], [0, 1], [2], []] [(fun (vs194 : Nat → Value) (v_ : Value) (rs_ : List Res) => v_ = u42 ∧ rs_ = []), (fun (vs194 : Nat → Value) (v_ : Value) (rs_ : List Res) => v_ = (Value.int .i64 (k : Int)) ∧ rs_ = []), (fun (vs194 : Nat → Value) (v_ : Value) (rs_ : List Res) => v_ = (eptr u42 (k * 2)) ∧ rs_ = []), (fun (vs194 : Nat → Value) (v_ : Value) (rs_ : List Res) => v_ = (Value.agg #[(Value.int .i64 (((ratesF R rs).getD k (0, 0)).1)), (Value.int .i64 (((ratesF R rs).getD k (0, 0)).2))]) ∧ rs_ = []), (fun (vs194 : Nat → Value) (v_ : Value) (rs_ : List Res) => v_ = (Value.agg #[(Value.int .i64 ((rngU (rallowF R rs) k k2).1)), (Value.int .i64 ((rngU (rallowF R rs) k k2).2))]) ∧ rs_ = [])] (by decide +kernel) (by decide +kernel) rfl rfl ⟨(fun _ _ _ _ _ h_ => h_), (fun _ _ _ _ _ h_ => h_), (fun _ _ _ _ _ h_ => h_), (fun _ _ _ _ _ h_ => h_), (fun _ _ _ _ _ h_ => h_), trivial⟩ ?_ ?_
      · skip
        refine ⟨fun a w vs194 hA hS hd => ?_, ?_⟩
        · skip
          exact opG_of rfl (vv (op_move rfl (hA.ev rfl)) (And.intro rfl rfl))
        refine ⟨fun a w vs194 hA hS hd => ?_, ?_⟩
        · skip
          exact opG_of rfl (vv (op_move rfl (hA.ev rfl)) (And.intro rfl rfl))
        refine ⟨fun a w vs194 hA hS hd => ?_, ?_⟩
        · skip
          obtain ⟨e0, rs0, hy0, hp0⟩ := hd 0 (by decide)
          obtain ⟨hv0, hr0⟩ := hy0; subst hr0
          rw [hv0] at e0
          obtain ⟨e1, rs1, hy1, hp1⟩ := hd 1 (by decide)
          obtain ⟨hv1, hr1⟩ := hy1; subst hr1
          rw [hv1] at e1
          exact opG_of rfl (vv (op_indexS rfl un_28 ty_42 (tmp_ev (slot_ev e0 rfl)) (i := k) (tmp_ev (slot_ev e1 rfl)) (SlAt.of_row (hS.ok_row 3 rfl)) (by decide) (by omega)) (And.intro rfl rfl))
        refine ⟨fun a w vs194 hA hS hd => ?_, ?_⟩
        · skip
          obtain ⟨e2, rs2, hy2, hp2⟩ := hd 2 (by decide)
          obtain ⟨hv2, hr2⟩ := hy2; subst hr2
          rw [hv2] at e2
          exact opG_of rfl (vv (op_loadAE rfl ty_42 (tmp_ev (slot_ev e2 rfl)) (SlAt.of_row (hS.ok_row 3 rfl)) (pairs_all (by omega)) rfl (by decide)) (And.intro rfl rfl))
        refine ⟨fun a w vs194 hA hS hd => ?_, ?_⟩
        · skip
          exact opG_of rfl (vv (op_loadA rfl ty_42 (hA.ev rfl) (hS.bk 0 rfl) (l := [(Value.int .i64 ((rngU (rallowF R rs) k k2).1)), (Value.int .i64 ((rngU (rallowF R rs) k k2).2))]) rfl rfl) (And.intro rfl rfl))
        trivial
      intro a195 w196 vs194 rsf200 hA197 hH199 hS198; clear hA193 hS160
      obtain ⟨hs_0, hy_0⟩ := hH199 0 (by decide)
      obtain ⟨hv_0, hr_0⟩ := hy_0
      obtain ⟨hs_1, hy_1⟩ := hH199 1 (by decide)
      obtain ⟨hv_1, hr_1⟩ := hy_1
      obtain ⟨hs_2, hy_2⟩ := hH199 2 (by decide)
      obtain ⟨hv_2, hr_2⟩ := hy_2
      obtain ⟨hs_3, hy_3⟩ := hH199 3 (by decide)
      obtain ⟨hv_3, hr_3⟩ := hy_3
      obtain ⟨hs_4, hy_4⟩ := hH199 4 (by decide)
      obtain ⟨hv_4, hr_4⟩ := hy_4
      have hS201 : Sep NoB w w196 [(blk b13_ 42 [(Value.int .i64 ((rngU (rallowF R rs) k k2).1)), (Value.int .i64 ((rngU (rallowF R rs) k k2).2))]), (row v82 40 1 ov83.length ov83), (lstR ov83 (rallowF R rs)), (row u42 42 2 R.length (pairs (ratesF R rs))), (runsR true v35 lv36 rs), (row u27 42 2 R.length (pairs R)), (blk b4 24 [vr]), (sl vr 2 R.length (pairs R)), (runsR false vu lv rs)] := by rw [show catR rsf200 0 5 = ([] : List Res) by (try simp only [catR, hr_0, hr_1, hr_2, hr_3, hr_4]); (try rfl)] at hS198; exact hS198
      rw [hv_3] at hs_3
      have hA202 : Fr 119 [] [(115, (Value.agg #[(Value.int .i64 (((ratesF R rs).getD k (0, 0)).1)), (Value.int .i64 (((ratesF R rs).getD k (0, 0)).2))])), (11, (bptr b13_ 0)), (10, (Value.int .i64 (k : Int))), (9, v82), (5, u42)] a195 := hA197.add (slot_ev hs_3 rfl); clear hA197
      rw [hv_4] at hs_4
      have hA203 : Fr 119 [] [(116, (Value.agg #[(Value.int .i64 ((rngU (rallowF R rs) k k2).1)), (Value.int .i64 ((rngU (rallowF R rs) k k2).2))])), (115, (Value.agg #[(Value.int .i64 (((ratesF R rs).getD k (0, 0)).1)), (Value.int .i64 (((ratesF R rs).getD k (0, 0)).2))])), (11, (bptr b13_ 0)), (10, (Value.int .i64 (k : Int))), (9, v82), (5, u42)] a195 := hA202.add (slot_ev hs_4 rfl); clear hA202
      clear hH199 hS198 hs_0 hs_1 hs_2 hs_3 hs_4
      clear hr_0
      clear hv_0
      clear hr_1
      clear hv_1
      clear hr_2
      clear hv_2
      clear hr_3
      clear hv_3
      clear hr_4
      clear hv_4
      refine st hA203 (op_neqP tw_42 rfl (hA203.ev rfl) (hA203.ev rfl)) rfl rfl (by decide) fun a204 hA205 => ?_; clear hA203 a195
      have hd206 : (decide (((((ratesF R rs).getD k (0, 0)).1) : Int) = ((rngU (rallowF R rs) k k2).1)) && decide (((((ratesF R rs).getD k (0, 0)).2) : Int) = ((rngU (rallowF R rs) k k2).2))) = true := (rates_eq hR hV hal (by omega) (by omega))
      rw [hd206] at hA205
      have hq207 := hd206; simp only [Bool.and_eq_true, Bool.and_eq_false_iff, decide_eq_true_eq, decide_eq_false_iff_not] at hq207
      refine wl_nil ?_
      refine then_n ?_
      refine c_false hA205 rfl ?_
      refine c_skip ?_
      refine blk_n ?_
      refine then_n ?_
      refine c_region ?_
      refine st hA205 (op_move rfl (hA205.ev rfl)) rfl rfl (by decide) fun a208 hA209 => ?_; clear hA205 a204
      refine st hA209 (op_add rfl (hA209.ev rfl) (evc _ _) (by omega) (by omega)) rfl rfl (by decide) fun a210 hA211 => ?_; clear hA209 a208
      refine st hA211 (op_assign rfl (hA211.ev rfl)) rfl rfl (by decide) fun a212 hA213 => ?_; clear hA211 a210
      refine wl_nil ?_
      have hS214 : Sep NoB w w196 [(row v82 40 1 ov83.length ov83), (lstR ov83 (rallowF R rs)), (row u42 42 2 R.length (pairs (ratesF R rs))), (runsR true v35 lv36 rs), (row u27 42 2 R.length (pairs R)), (blk b4 24 [vr]), (sl vr 2 R.length (pairs R)), (runsR false vu lv rs)] := hS201.keep [1, 2, 3, 4, 5, 6, 7, 8] (by decide) _ rfl rfl; clear hS201
      exact then_n ⟨k + 1, ⟨hA213.as _ rfl, hS214, by omega⟩, by omega⟩
  · skip
    rw [decide_eq_false hb138] at hA137
    refine c_false hA137 rfl ?_
    refine c_exit ?_
    refine then_exit ?_
    refine then_exit ?_
    refine blk_hit ?_
    refine then_n ?_
    refine c_seq ?_
    have hA215 := hA137.as [] rfl; clear hA137
    refine c_region ?_
    refine stw hA215 (op_call rfl en_17 ev0 (awake_ok _)) rfl rfl (by decide) ?_
    rintro a216 _ w218 ⟨rfl, hE219⟩ hA217; have hS220 := hS129.step hE219; clear hE219 hA215 hS129 a136
    refine st hA217 (op_assign rfl (hA217.ev rfl)) rfl rfl (by decide) fun a221 hA222 => ?_; clear hA217 a216
    refine wl_nil ?_
    refine then_n ?_
    refine c_ret ?_
    refine fin_run hA222 (.inl rfl) (run_results1 hA222 rfl (.tmp rfl)) ?_
    exact ⟨rfl, hS220.ext⟩

theorem CreepRates_ok (w : World) (R : List (Int × Int)) (vr : Value) (hm : SlAt w vr 2 R.length (pairs R)) (rs : List RunD) (lv : List Value) (vu : Value) (hx : RunsAt w vu lv rs) : Calls Try.prog 3 #[.agg #[vr], vu] w (Ret fun v w' => v = .bool true ∧ Ext NoB w w') := by
  rcases Bool.eq_false_or_eq_true (thinB R rs 0) with hf | hf
  · by_cases hc : possF R rs = 0
    · exact CreepRates_c w R vr hm rs lv vu hx hf hc
    · exact CreepRates_b w R vr hm rs lv vu hx hf hc
  · exact CreepRates_a w R vr hm rs lv vu hx hf

end Go.Proofs.Ytkkglkdnnfegkaa
