/-
  Walks through the functions of the seat, printed by a program of ours (gowalk), a theorem a function: what the call returns and what it leaves in memory.
-/
import Derived.Test.YtfhmigoddaaljaaFf
import Derived.Test.YtfhmigoddaaljaaPlain
set_option linter.unusedSimpArgs false
set_option linter.unusedVariables false
namespace Go.Proofs.Ytfhmigoddaaljaa
open Go.RowKit Go.Shelf Go.Eng
set_option maxHeartbeats 4000000 in
theorem RoundShifts_a (rl rs rb : Value) (rlv : List Value) (d : RD) (w : World) (hR : RoundAt w rl rs rb rlv d) (lab other : Int) (hf : fewB d = false) :
  Calls Try.prog 6 #[(Value.agg #[rl, rs, (Value.int .i64 d.spread), rb]), (Value.int .i64 lab), (Value.int .i64 other)] w (Ret fun v w' => v = .bool true ∧ Ext NoB w w') := by
 refine calls_enter Try.func6 rfl fun a0 hA0 => ?_
 replace hA0 : Fr 157 [] [(0, (Value.agg #[rl, rs, (Value.int .i64 d.spread), rb])), (1, (Value.int .i64 lab)), (2, (Value.int .i64 other))] a0 := hA0
 have hS0 : Sep NoB w w [(rndR false rl rs rb rlv d)] := sep_ro ⟨rfl, hR, trivial⟩
 refine c_seq ?_
 refine c_region ?_
 refine stw hA0 (op_box hS0 rfl (hA0.ev rfl) (cs := [rl, rs, (Value.int .i64 d.spread), rb]) rfl) rfl rfl (by decide) ?_
 rintro a1 _ w3 ⟨b4, rfl, hS5⟩ hA2; clear hA0 hS0 a0
 refine st hA2 (op_assign rfl (evc _ _)) rfl rfl (by decide) fun a6 hA7 => ?_; clear hA2 a1
 refine wl_nil ?_
 refine then_n ?_
 refine c_seq ?_
 refine c_seq ?_
 refine c_region ?_
 refine st hA7 (op_loadA rfl ty_26 (hA7.ev rfl) (hS5.bk 0 rfl) (l := [rl, rs, (Value.int .i64 d.spread), rb]) rfl rfl) rfl rfl (by decide) fun a8 hA9 => ?_; clear hA7 a6
 refine stw hA9 (op_call rfl en_17 (ev1 (hA9.ev rfl)) (Few_ok rl rs rb rlv d _ (rnd_at (hS5.ok 1 _ rfl)))) rfl rfl (by decide) ?_
 rintro a10 _ w12 ⟨rfl, hE13⟩ hA11; have hS14 := hS5.step hE13; clear hE13 hA9 hS5 a8
 rw [hf] at hA11
 refine st hA11 (op_not rfl (hA11.ev rfl)) rfl rfl (by decide) fun a15 hA16 => ?_; clear hA11 a10
 refine wl_nil ?_
 refine then_n ?_
 refine c_true hA16 rfl ?_
 refine c_seq ?_
 have hA17 := hA16.as [] rfl; clear hA16
 refine c_region ?_
 refine stw hA17 (op_call rfl en_18 ev0 (wakes_ok _)) rfl rfl (by decide) ?_
 rintro a18 _ w20 ⟨rfl, hE21⟩ hA19; have hS22 := hS14.step hE21; clear hE21 hA17 hS14 a15
 refine st hA19 (op_assign rfl (hA19.ev rfl)) rfl rfl (by decide) fun a23 hA24 => ?_; clear hA19 a18
 refine wl_nil ?_
 refine then_n ?_
 refine c_ret ?_
 refine then_ret ?_
 refine fin_run hA24 (.inl rfl) (run_results1 hA24 rfl (.tmp rfl)) ?_
 exact ⟨rfl, hS22.ext⟩

set_option maxHeartbeats 4000000 in
theorem RoundShifts_b (rl rs rb : Value) (rlv : List Value) (d : RD) (w : World) (hR : RoundAt w rl rs rb rlv d) (lab other : Int) (hf : fewB d = true) (hc : checkR d ≠ 0) :
  Calls Try.prog 6 #[(Value.agg #[rl, rs, (Value.int .i64 d.spread), rb]), (Value.int .i64 lab), (Value.int .i64 other)] w (Ret fun v w' => v = .bool true ∧ Ext NoB w w') := by
 refine calls_enter Try.func6 rfl fun a0 hA0 => ?_
 replace hA0 : Fr 157 [] [(0, (Value.agg #[rl, rs, (Value.int .i64 d.spread), rb])), (1, (Value.int .i64 lab)), (2, (Value.int .i64 other))] a0 := hA0
 have hth := thin_of (fewB_thin hf)
 have hS0 : Sep NoB w w [(rndR false rl rs rb rlv d)] := sep_ro ⟨rfl, hR, trivial⟩
 refine c_seq ?_
 refine c_region ?_
 refine stw hA0 (op_box hS0 rfl (hA0.ev rfl) (cs := [rl, rs, (Value.int .i64 d.spread), rb]) rfl) rfl rfl (by decide) ?_
 rintro a1 _ w3 ⟨b4, rfl, hS5⟩ hA2; clear hA0 hS0 a0
 refine st hA2 (op_assign rfl (evc _ _)) rfl rfl (by decide) fun a6 hA7 => ?_; clear hA2 a1
 refine wl_nil ?_
 refine then_n ?_
 refine c_seq ?_
 refine c_seq ?_
 refine c_region ?_
 refine st hA7 (op_loadA rfl ty_26 (hA7.ev rfl) (hS5.bk 0 rfl) (l := [rl, rs, (Value.int .i64 d.spread), rb]) rfl rfl) rfl rfl (by decide) fun a8 hA9 => ?_; clear hA7 a6
 refine stw hA9 (op_call rfl en_17 (ev1 (hA9.ev rfl)) (Few_ok rl rs rb rlv d _ (rnd_at (hS5.ok 1 _ rfl)))) rfl rfl (by decide) ?_
 rintro a10 _ w12 ⟨rfl, hE13⟩ hA11; have hS14 := hS5.step hE13; clear hE13 hA9 hS5 a8
 rw [hf] at hA11
 refine st hA11 (op_not rfl (hA11.ev rfl)) rfl rfl (by decide) fun a15 hA16 => ?_; clear hA11 a10
 refine wl_nil ?_
 refine then_n ?_
 refine c_false hA16 rfl ?_
 refine c_skip ?_
 refine then_n ?_
 refine c_seq ?_
 refine c_region ?_
 refine st hA16 (op_loadA rfl ty_26 (hA16.ev rfl) (hS14.bk 0 rfl) (l := [rl, rs, (Value.int .i64 d.spread), rb]) rfl rfl) rfl rfl (by decide) fun a17 hA18 => ?_; clear hA16 a15
 refine stw hA18 (op_call rfl en_20 (ev1 (hA18.ev rfl)) (Round_ok rl rs rb rlv d _ (rnd_at (hS14.ok 1 _ rfl)) hth)) rfl rfl (by decide) ?_
 rintro a19 _ w21 ⟨vl22, vs23, vb24, lv25, rfl, hT26⟩ hA20; have hS27 := hS14.callS hT26 rfl; clear hT26 hA18 hS14 a17
 refine st hA20 (op_move rfl (hA20.ev rfl)) rfl rfl (by decide) fun a28 hA29 => ?_; clear hA20 a19
 refine stw hA29 (op_call rfl en_32 (ev2 (hA29.ev rfl) (hA29.ev rfl)) (by have h := (shifts_fn vl22 vs23 vb24 lv25 d _ (rnd_at (hS27.ok 0 _ rfl)) lab); rw [shiftsR_bad hc] at h; exact h)) rfl rfl (by decide) ?_
 rintro a30 _ w32 ⟨rfl, hE33⟩ hA31; have hS34 := hS27.step hE33; clear hE33 hA29 hS27 a28
 refine st hA31 (op_move rfl (hA31.ev rfl)) rfl rfl (by decide) fun a35 hA36 => ?_; clear hA31 a30
 refine st hA36 (op_extract rfl (hA36.ev rfl) rfl) rfl rfl (by decide) fun a37 hA38 => ?_; clear hA36 a35
 refine st hA38 (op_extract rfl (hA38.ev rfl) rfl) rfl rfl (by decide) fun a39 hA40 => ?_; clear hA38 a37
 refine stw hA40 (op_alloc hS34 rfl ze_46 (cs := [(Value.int .i64 0), (Value.int .i64 0)]) rfl) rfl rfl (by decide) ?_
 rintro a41 _ w43 ⟨b44, rfl, hS45⟩ hA42; clear hA40 hS34 a39
 refine sts hA42 (op_store hS45 rfl ty_46 (hA42.ev rfl) (hA42.ev rfl) (i := 0) rfl (vs := [(Value.int .i64 0), (Value.int .i64 0)]) rfl rfl rfl (Nat.le_of_ble_eq_true rfl)) rfl rfl ?_
 intro _ w46 hS47 hA48; clear hA42
 have hS49 : Sep NoB w w46 [(blk b44 46 [(Value.int .i64 0), (Value.int .i64 0)]), (rndR true vl22 vs23 vb24 lv25 d), (blk b4 26 [rl, rs, (Value.int .i64 d.spread), rb]), (rndR false rl rs rb rlv d)] := hS47; clear hS47 hS45
 refine st hA48 (op_assign rfl (hA48.ev rfl)) rfl rfl (by decide) fun a50 hA51 => ?_; clear hA48 a41
 refine wl_nil ?_
 refine then_n ?_
 refine c_seq ?_
 have hA52 := hA51.as [(8, (Value.int .i64 (checkR d))), (7, (bptr b44 0)), (3, (bptr b4 0)), (1, (Value.int .i64 lab)), (2, (Value.int .i64 other))] rfl; clear hA51
 refine c_region ?_
 refine st hA52 (op_loadA rfl ty_26 (hA52.ev rfl) (hS49.bk 2 rfl) (l := [rl, rs, (Value.int .i64 d.spread), rb]) rfl rfl) rfl rfl (by decide) fun a53 hA54 => ?_; clear hA52 a50
 refine stw hA54 (op_call rfl en_23 (ev1 (hA54.ev rfl)) (fault_ok rl rs rb rlv d _ (rnd_at (hS49.ok 3 _ rfl)))) rfl rfl (by decide) ?_
 rintro a55 _ w57 ⟨rfl, hE58⟩ hA56; have hS59 := hS49.step hE58; clear hE58 hA54 hS49 a53
 refine st hA56 (op_assign rfl (hA56.ev rfl)) rfl rfl (by decide) fun a60 hA61 => ?_; clear hA56 a55
 refine wl_nil ?_
 refine then_n ?_
 refine c_seq ?_
 refine c_seq ?_
 refine c_region ?_
 refine st hA61 (op_move rfl (hA61.ev rfl)) rfl rfl (by decide) fun a62 hA63 => ?_; clear hA61 a60
 refine st hA63 (op_eql rfl (hA63.ev rfl) (evc _ _)) rfl rfl (by decide) fun a64 hA65 => ?_; clear hA63 a62
 have hd66 : ¬ ((checkR d) = 0) := hc
 rw [decide_eq_false hd66] at hA65
 refine st hA65 (op_move rfl (hA65.ev rfl)) rfl rfl (by decide) fun a67 hA68 => ?_; clear hA65 a64
 refine skp hA68 rfl rfl rfl rfl rfl (by decide) fun a69 hA70 => ?_; clear hA68 a67
 refine skp hA70 rfl rfl rfl rfl rfl (by decide) fun a71 hA72 => ?_; clear hA70 a69
 refine skp hA72 rfl rfl rfl rfl rfl (by decide) fun a73 hA74 => ?_; clear hA72 a71
 refine skp hA74 rfl rfl rfl rfl rfl (by decide) fun a75 hA76 => ?_; clear hA74 a73
 refine skp hA76 rfl rfl rfl rfl rfl (by decide) fun a77 hA78 => ?_; clear hA76 a75
 refine skp hA78 rfl rfl rfl rfl rfl (by decide) fun a79 hA80 => ?_; clear hA78 a77
 refine skp hA80 rfl rfl rfl rfl rfl (by decide) fun a81 hA82 => ?_; clear hA80 a79
 refine st hA82 (op_pick_f rfl (hA82.ev rfl) (evc _ _)) rfl rfl (by decide) fun a83 hA84 => ?_; clear hA82 a81
 refine wl_nil ?_
 refine then_n ?_
 refine c_false hA84 rfl ?_
 refine c_skip ?_
 refine then_n ?_
 refine c_seq ?_
 refine c_seq ?_
 have hA85 := hA84.as [(9, (Value.int .i64 (checkR d))), (8, (Value.int .i64 (checkR d))), (7, (bptr b44 0)), (3, (bptr b4 0)), (1, (Value.int .i64 lab)), (2, (Value.int .i64 other))] rfl; clear hA84
 refine c_region ?_
 refine st hA85 (op_move rfl (hA85.ev rfl)) rfl rfl (by decide) fun a86 hA87 => ?_; clear hA85 a83
 refine st hA87 (op_eql rfl (hA87.ev rfl) (evc _ _)) rfl rfl (by decide) fun a88 hA89 => ?_; clear hA87 a86
 rw [decide_eq_false hd66] at hA89
 refine st hA89 (op_move rfl (hA89.ev rfl)) rfl rfl (by decide) fun a90 hA91 => ?_; clear hA89 a88
 refine skp hA91 rfl rfl rfl rfl rfl (by decide) fun a92 hA93 => ?_; clear hA91 a90
 refine skp hA93 rfl rfl rfl rfl rfl (by decide) fun a94 hA95 => ?_; clear hA93 a92
 refine skp hA95 rfl rfl rfl rfl rfl (by decide) fun a96 hA97 => ?_; clear hA95 a94
 refine skp hA97 rfl rfl rfl rfl rfl (by decide) fun a98 hA99 => ?_; clear hA97 a96
 refine skp hA99 rfl rfl rfl rfl rfl (by decide) fun a100 hA101 => ?_; clear hA99 a98
 refine st hA101 (op_pick_f rfl (hA101.ev rfl) (evc _ _)) rfl rfl (by decide) fun a102 hA103 => ?_; clear hA101 a100
 refine wl_nil ?_
 refine then_n ?_
 refine c_false hA103 rfl ?_
 refine c_skip ?_
 refine then_n ?_
 refine c_seq ?_
 refine c_seq ?_
 have hA104 := hA103.as [(9, (Value.int .i64 (checkR d))), (8, (Value.int .i64 (checkR d))), (7, (bptr b44 0)), (3, (bptr b4 0)), (1, (Value.int .i64 lab)), (2, (Value.int .i64 other))] rfl; clear hA103
 refine c_region ?_
 refine st hA104 (op_move rfl (hA104.ev rfl)) rfl rfl (by decide) fun a105 hA106 => ?_; clear hA104 a102
 refine st hA106 (op_neq rfl (hA106.ev rfl) (evc _ _)) rfl rfl (by decide) fun a107 hA108 => ?_; clear hA106 a105
 rw [decide_eq_false hd66] at hA108
 refine wl_nil ?_
 refine then_n ?_
 refine c_true hA108 rfl ?_
 refine c_seq ?_
 refine c_region ?_
 refine st hA108 (op_move rfl (hA108.ev rfl)) rfl rfl (by decide) fun a109 hA110 => ?_; clear hA108 a107
 refine st hA110 (op_move rfl (hA110.ev rfl)) rfl rfl (by decide) fun a111 hA112 => ?_; clear hA110 a109
 refine st hA112 (op_eql rfl (hA112.ev rfl) (hA112.ev rfl)) rfl rfl (by decide) fun a113 hA114 => ?_; clear hA112 a111
 have hd115 : (checkR d) = (checkR d) := rfl
 rw [decide_eq_true hd115] at hA114
 refine st hA114 (op_move rfl (hA114.ev rfl)) rfl rfl (by decide) fun a116 hA117 => ?_; clear hA114 a113
 refine stg hA117 (op_loadA rfl ty_46 (hA117.ev rfl) (hS59.bk 0 rfl) (l := [(Value.int .i64 0), (Value.int .i64 0)]) rfl rfl) rfl rfl rfl rfl (by decide) fun a118 hA119 => ?_; clear hA117 a116
 refine stg hA119 (op_build rfl pv0 bd_46_) rfl rfl rfl rfl (by decide) fun a120 hA121 => ?_; clear hA119 a118
 refine stg hA121 (op_eqlP tw_46 rfl (hA121.ev rfl) (hA121.ev rfl)) rfl rfl rfl rfl (by decide) fun a122 hA123 => ?_; clear hA121 a120
 have hd124 : (decide ((0 : Int) = 0) && decide ((0 : Int) = 0)) = true := by simp only [decide_true, Bool.and_self]
 rw [hd124] at hA123
 have hq125 := hd124; simp only [Bool.and_eq_true, Bool.and_eq_false_iff, decide_eq_true_eq, decide_eq_false_iff_not] at hq125
 refine st hA123 (op_pick_t rfl (hA123.ev rfl) (hA123.ev rfl)) rfl rfl (by decide) fun a126 hA127 => ?_; clear hA123 a122
 refine st hA127 (op_move rfl (hA127.ev rfl)) rfl rfl (by decide) fun a128 hA129 => ?_; clear hA127 a126
 refine stwg hA129 (op_call rfl en_18 ev0 (wakes_ok _)) rfl rfl rfl rfl (by decide) ?_
 rintro a130 _ w132 ⟨rfl, hE133⟩ hA131; have hS134 := hS59.step hE133; clear hE133 hA129 hS59 a128
 refine st hA131 (op_pick_t rfl (hA131.ev rfl) (hA131.ev rfl)) rfl rfl (by decide) fun a135 hA136 => ?_; clear hA131 a130
 refine st hA136 (op_assign rfl (hA136.ev rfl)) rfl rfl (by decide) fun a137 hA138 => ?_; clear hA136 a135
 refine wl_nil ?_
 refine then_n ?_
 refine c_ret ?_
 refine then_ret ?_
 refine fin_run hA138 (.inl rfl) (run_results1 hA138 rfl (.tmp rfl)) ?_
 exact ⟨rfl, hS134.ext⟩

set_option maxHeartbeats 4000000 in
theorem RoundShifts_c (rl rs rb : Value) (rlv : List Value) (d : RD) (w : World) (hR : RoundAt w rl rs rb rlv d) (lab other : Int) (hf : fewB d = true) (hc : checkR d = 0) (hi : (decide (0 ≤ lab) && decide (lab ≤ (d.tols.length : Int) - 1)) = false) :
  Calls Try.prog 6 #[(Value.agg #[rl, rs, (Value.int .i64 d.spread), rb]), (Value.int .i64 lab), (Value.int .i64 other)] w (Ret fun v w' => v = .bool true ∧ Ext NoB w w') := by
 refine calls_enter Try.func6 rfl fun a0 hA0 => ?_
 replace hA0 : Fr 157 [] [(0, (Value.agg #[rl, rs, (Value.int .i64 d.spread), rb])), (1, (Value.int .i64 lab)), (2, (Value.int .i64 other))] a0 := hA0
 have hth := thin_of (fewB_thin hf); have hV := valid_of hc; have hnb := hV.nb; have htm := tmod_bd other 2001 (by decide)
 have hS0 : Sep NoB w w [(rndR false rl rs rb rlv d)] := sep_ro ⟨rfl, hR, trivial⟩
 refine c_seq ?_
 refine c_region ?_
 refine stw hA0 (op_box hS0 rfl (hA0.ev rfl) (cs := [rl, rs, (Value.int .i64 d.spread), rb]) rfl) rfl rfl (by decide) ?_
 rintro a1 _ w3 ⟨b4, rfl, hS5⟩ hA2; clear hA0 hS0 a0
 refine st hA2 (op_assign rfl (evc _ _)) rfl rfl (by decide) fun a6 hA7 => ?_; clear hA2 a1
 refine wl_nil ?_
 refine then_n ?_
 refine c_seq ?_
 refine c_seq ?_
 refine c_region ?_
 refine st hA7 (op_loadA rfl ty_26 (hA7.ev rfl) (hS5.bk 0 rfl) (l := [rl, rs, (Value.int .i64 d.spread), rb]) rfl rfl) rfl rfl (by decide) fun a8 hA9 => ?_; clear hA7 a6
 refine stw hA9 (op_call rfl en_17 (ev1 (hA9.ev rfl)) (Few_ok rl rs rb rlv d _ (rnd_at (hS5.ok 1 _ rfl)))) rfl rfl (by decide) ?_
 rintro a10 _ w12 ⟨rfl, hE13⟩ hA11; have hS14 := hS5.step hE13; clear hE13 hA9 hS5 a8
 rw [hf] at hA11
 refine st hA11 (op_not rfl (hA11.ev rfl)) rfl rfl (by decide) fun a15 hA16 => ?_; clear hA11 a10
 refine wl_nil ?_
 refine then_n ?_
 refine c_false hA16 rfl ?_
 refine c_skip ?_
 refine then_n ?_
 refine c_seq ?_
 refine c_region ?_
 refine st hA16 (op_loadA rfl ty_26 (hA16.ev rfl) (hS14.bk 0 rfl) (l := [rl, rs, (Value.int .i64 d.spread), rb]) rfl rfl) rfl rfl (by decide) fun a17 hA18 => ?_; clear hA16 a15
 refine stw hA18 (op_call rfl en_20 (ev1 (hA18.ev rfl)) (Round_ok rl rs rb rlv d _ (rnd_at (hS14.ok 1 _ rfl)) hth)) rfl rfl (by decide) ?_
 rintro a19 _ w21 ⟨vl22, vs23, vb24, lv25, rfl, hT26⟩ hA20; have hS27 := hS14.callS hT26 rfl; clear hT26 hA18 hS14 a17
 refine st hA20 (op_move rfl (hA20.ev rfl)) rfl rfl (by decide) fun a28 hA29 => ?_; clear hA20 a19
 refine stw hA29 (op_call rfl en_32 (ev2 (hA29.ev rfl) (hA29.ev rfl)) (by have h := (shifts_fn vl22 vs23 vb24 lv25 d _ (rnd_at (hS27.ok 0 _ rfl)) lab); rw [shiftsR_out hc hi] at h; exact h)) rfl rfl (by decide) ?_
 rintro a30 _ w32 ⟨rfl, hE33⟩ hA31; have hS34 := hS27.step hE33; clear hE33 hA29 hS27 a28
 refine st hA31 (op_move rfl (hA31.ev rfl)) rfl rfl (by decide) fun a35 hA36 => ?_; clear hA31 a30
 refine st hA36 (op_extract rfl (hA36.ev rfl) rfl) rfl rfl (by decide) fun a37 hA38 => ?_; clear hA36 a35
 refine st hA38 (op_extract rfl (hA38.ev rfl) rfl) rfl rfl (by decide) fun a39 hA40 => ?_; clear hA38 a37
 refine stw hA40 (op_alloc hS34 rfl ze_46 (cs := [(Value.int .i64 0), (Value.int .i64 0)]) rfl) rfl rfl (by decide) ?_
 rintro a41 _ w43 ⟨b44, rfl, hS45⟩ hA42; clear hA40 hS34 a39
 refine sts hA42 (op_store hS45 rfl ty_46 (hA42.ev rfl) (hA42.ev rfl) (i := 0) rfl (vs := [(Value.int .i64 0), (Value.int .i64 0)]) rfl rfl rfl (Nat.le_of_ble_eq_true rfl)) rfl rfl ?_
 intro _ w46 hS47 hA48; clear hA42
 have hS49 : Sep NoB w w46 [(blk b44 46 [(Value.int .i64 0), (Value.int .i64 0)]), (rndR true vl22 vs23 vb24 lv25 d), (blk b4 26 [rl, rs, (Value.int .i64 d.spread), rb]), (rndR false rl rs rb rlv d)] := hS47; clear hS47 hS45
 refine st hA48 (op_assign rfl (hA48.ev rfl)) rfl rfl (by decide) fun a50 hA51 => ?_; clear hA48 a41
 refine wl_nil ?_
 refine then_n ?_
 refine c_seq ?_
 have hA52 := hA51.as [(8, (Value.int .i64 2)), (7, (bptr b44 0)), (3, (bptr b4 0)), (1, (Value.int .i64 lab)), (2, (Value.int .i64 other))] rfl; clear hA51
 refine c_region ?_
 refine st hA52 (op_loadA rfl ty_26 (hA52.ev rfl) (hS49.bk 2 rfl) (l := [rl, rs, (Value.int .i64 d.spread), rb]) rfl rfl) rfl rfl (by decide) fun a53 hA54 => ?_; clear hA52 a50
 refine stw hA54 (op_call rfl en_23 (ev1 (hA54.ev rfl)) (fault_ok rl rs rb rlv d _ (rnd_at (hS49.ok 3 _ rfl)))) rfl rfl (by decide) ?_
 rintro a55 _ w57 ⟨rfl, hE58⟩ hA56; have hS59 := hS49.step hE58; clear hE58 hA54 hS49 a53
 refine st hA56 (op_assign rfl (hA56.ev rfl)) rfl rfl (by decide) fun a60 hA61 => ?_; clear hA56 a55
 refine wl_nil ?_
 refine then_n ?_
 refine c_seq ?_
 refine c_seq ?_
 refine c_region ?_
 refine st hA61 (op_move rfl (hA61.ev rfl)) rfl rfl (by decide) fun a62 hA63 => ?_; clear hA61 a60
 refine st hA63 (op_eql rfl (hA63.ev rfl) (evc _ _)) rfl rfl (by decide) fun a64 hA65 => ?_; clear hA63 a62
 have hd66 : (checkR d) = 0 := hc
 rw [decide_eq_true hd66] at hA65
 refine st hA65 (op_move rfl (hA65.ev rfl)) rfl rfl (by decide) fun a67 hA68 => ?_; clear hA65 a64
 refine stg hA68 (op_move rfl (hA68.ev rfl)) rfl rfl rfl rfl (by decide) fun a69 hA70 => ?_; clear hA68 a67
 refine stg hA70 (op_field rfl fd_26_3 (hA70.ev rfl)) rfl rfl rfl rfl (by decide) fun a71 hA72 => ?_; clear hA70 a69
 refine stg hA72 (op_load1 rfl ty_24 (hA72.ev rfl) (hS59.bk 2 rfl) rfl) rfl rfl rfl rfl (by decide) fun a73 hA74 => ?_; clear hA72 a71
 refine stg hA74 (op_lenS rfl un_24 (hA74.ev rfl) (rnd_at (hS59.ok 3 _ rfl)).labs) rfl rfl rfl rfl (by decide) fun a75 hA76 => ?_; clear hA74 a73
 refine stg hA76 (op_sub rfl (hA76.ev rfl) (evc _ _) (by omega) (by omega)) rfl rfl rfl rfl (by decide) fun a77 hA78 => ?_; clear hA76 a75
 refine stwg hA78 (op_call rfl en_33 (ev3 (hA78.ev rfl) (evc _ _) (hA78.ev rfl)) (In_ok _ _ _ _)) rfl rfl rfl rfl (by decide) ?_
 rintro a79 _ _ ⟨rfl, rfl⟩ hA80; clear hA78 a77
 rw [hi] at hA80
 have hq82 := hi; simp only [Bool.and_eq_true, Bool.and_eq_false_iff, decide_eq_true_eq, decide_eq_false_iff_not] at hq82
 refine stg hA80 (op_not rfl (hA80.ev rfl)) rfl rfl rfl rfl (by decide) fun a83 hA84 => ?_; clear hA80 a79
 refine st hA84 (op_pick_t rfl (hA84.ev rfl) (hA84.ev rfl)) rfl rfl (by decide) fun a85 hA86 => ?_; clear hA84 a83
 refine wl_nil ?_
 refine then_n ?_
 refine c_true hA86 rfl ?_
 have hA87 := hA86.as [(8, (Value.int .i64 2)), (7, (bptr b44 0)), (3, (bptr b4 0)), (1, (Value.int .i64 lab)), (2, (Value.int .i64 other))] rfl; clear hA86
 refine c_region ?_
 refine st hA87 (op_assign rfl (evc _ _)) rfl rfl (by decide) fun a88 hA89 => ?_; clear hA87 a85
 refine wl_nil ?_
 refine then_n ?_
 refine c_seq ?_
 refine c_seq ?_
 refine c_region ?_
 refine st hA89 (op_move rfl (hA89.ev rfl)) rfl rfl (by decide) fun a90 hA91 => ?_; clear hA89 a88
 refine st hA91 (op_eql rfl (hA91.ev rfl) (evc _ _)) rfl rfl (by decide) fun a92 hA93 => ?_; clear hA91 a90
 refine st hA93 (op_move rfl (hA93.ev rfl)) rfl rfl (by decide) fun a94 hA95 => ?_; clear hA93 a92
 refine skp hA95 rfl rfl rfl rfl rfl (by decide) fun a96 hA97 => ?_; clear hA95 a94
 refine skp hA97 rfl rfl rfl rfl rfl (by decide) fun a98 hA99 => ?_; clear hA97 a96
 refine skp hA99 rfl rfl rfl rfl rfl (by decide) fun a100 hA101 => ?_; clear hA99 a98
 refine skp hA101 rfl rfl rfl rfl rfl (by decide) fun a102 hA103 => ?_; clear hA101 a100
 refine skp hA103 rfl rfl rfl rfl rfl (by decide) fun a104 hA105 => ?_; clear hA103 a102
 refine st hA105 (op_pick_f rfl (hA105.ev rfl) (evc _ _)) rfl rfl (by decide) fun a106 hA107 => ?_; clear hA105 a104
 refine wl_nil ?_
 refine then_n ?_
 refine c_false hA107 rfl ?_
 refine c_skip ?_
 refine then_n ?_
 refine c_seq ?_
 refine c_seq ?_
 have hA108 := hA107.as [(9, (Value.int .i64 2)), (8, (Value.int .i64 2)), (7, (bptr b44 0)), (3, (bptr b4 0)), (1, (Value.int .i64 lab)), (2, (Value.int .i64 other))] rfl; clear hA107
 refine c_region ?_
 refine st hA108 (op_move rfl (hA108.ev rfl)) rfl rfl (by decide) fun a109 hA110 => ?_; clear hA108 a106
 refine st hA110 (op_neq rfl (hA110.ev rfl) (evc _ _)) rfl rfl (by decide) fun a111 hA112 => ?_; clear hA110 a109
 refine wl_nil ?_
 refine then_n ?_
 refine c_true hA112 rfl ?_
 refine c_seq ?_
 refine c_region ?_
 refine st hA112 (op_move rfl (hA112.ev rfl)) rfl rfl (by decide) fun a113 hA114 => ?_; clear hA112 a111
 refine st hA114 (op_move rfl (hA114.ev rfl)) rfl rfl (by decide) fun a115 hA116 => ?_; clear hA114 a113
 refine st hA116 (op_eql rfl (hA116.ev rfl) (hA116.ev rfl)) rfl rfl (by decide) fun a117 hA118 => ?_; clear hA116 a115
 refine st hA118 (op_move rfl (hA118.ev rfl)) rfl rfl (by decide) fun a119 hA120 => ?_; clear hA118 a117
 refine stg hA120 (op_loadA rfl ty_46 (hA120.ev rfl) (hS59.bk 0 rfl) (l := [(Value.int .i64 0), (Value.int .i64 0)]) rfl rfl) rfl rfl rfl rfl (by decide) fun a121 hA122 => ?_; clear hA120 a119
 refine stg hA122 (op_build rfl pv0 bd_46_) rfl rfl rfl rfl (by decide) fun a123 hA124 => ?_; clear hA122 a121
 refine stg hA124 (op_eqlP tw_46 rfl (hA124.ev rfl) (hA124.ev rfl)) rfl rfl rfl rfl (by decide) fun a125 hA126 => ?_; clear hA124 a123
 have hd127 : (decide ((0 : Int) = 0) && decide ((0 : Int) = 0)) = true := by simp only [decide_true, Bool.and_self]
 rw [hd127] at hA126
 have hq128 := hd127; simp only [Bool.and_eq_true, Bool.and_eq_false_iff, decide_eq_true_eq, decide_eq_false_iff_not] at hq128
 refine st hA126 (op_pick_t rfl (hA126.ev rfl) (hA126.ev rfl)) rfl rfl (by decide) fun a129 hA130 => ?_; clear hA126 a125
 refine st hA130 (op_move rfl (hA130.ev rfl)) rfl rfl (by decide) fun a131 hA132 => ?_; clear hA130 a129
 refine stwg hA132 (op_call rfl en_18 ev0 (wakes_ok _)) rfl rfl rfl rfl (by decide) ?_
 rintro a133 _ w135 ⟨rfl, hE136⟩ hA134; have hS137 := hS59.step hE136; clear hE136 hA132 hS59 a131
 refine st hA134 (op_pick_t rfl (hA134.ev rfl) (hA134.ev rfl)) rfl rfl (by decide) fun a138 hA139 => ?_; clear hA134 a133
 refine st hA139 (op_assign rfl (hA139.ev rfl)) rfl rfl (by decide) fun a140 hA141 => ?_; clear hA139 a138
 refine wl_nil ?_
 refine then_n ?_
 refine c_ret ?_
 refine then_ret ?_
 refine fin_run hA141 (.inl rfl) (run_results1 hA141 rfl (.tmp rfl)) ?_
 exact ⟨rfl, hS137.ext⟩

set_option maxHeartbeats 4000000 in
theorem RoundShifts_d (rl rs rb : Value) (rlv : List Value) (d : RD) (w : World) (hR : RoundAt w rl rs rb rlv d) (lab other : Int) (hf : fewB d = true) (hc : checkR d = 0) (hi : (decide (0 ≤ lab) && decide (lab ≤ (d.tols.length : Int) - 1)) = true) (hx : explB d (off0.set lab.toNat true) = false) :
  Calls Try.prog 6 #[(Value.agg #[rl, rs, (Value.int .i64 d.spread), rb]), (Value.int .i64 lab), (Value.int .i64 other)] w (Ret fun v w' => v = .bool true ∧ Ext NoB w w') := by
 refine calls_enter Try.func6 rfl fun a0 hA0 => ?_
 replace hA0 : Fr 157 [] [(0, (Value.agg #[rl, rs, (Value.int .i64 d.spread), rb])), (1, (Value.int .i64 lab)), (2, (Value.int .i64 other))] a0 := hA0
 have hth := thin_of (fewB_thin hf); have hV := valid_of hc; have hnb := hV.nb; have htm := tmod_bd other 2001 (by decide)
 have hS0 : Sep NoB w w [(rndR false rl rs rb rlv d)] := sep_ro ⟨rfl, hR, trivial⟩
 refine c_seq ?_
 refine c_region ?_
 refine stw hA0 (op_box hS0 rfl (hA0.ev rfl) (cs := [rl, rs, (Value.int .i64 d.spread), rb]) rfl) rfl rfl (by decide) ?_
 rintro a1 _ w3 ⟨b4, rfl, hS5⟩ hA2; clear hA0 hS0 a0
 refine st hA2 (op_assign rfl (evc _ _)) rfl rfl (by decide) fun a6 hA7 => ?_; clear hA2 a1
 refine wl_nil ?_
 refine then_n ?_
 refine c_seq ?_
 refine c_seq ?_
 refine c_region ?_
 refine st hA7 (op_loadA rfl ty_26 (hA7.ev rfl) (hS5.bk 0 rfl) (l := [rl, rs, (Value.int .i64 d.spread), rb]) rfl rfl) rfl rfl (by decide) fun a8 hA9 => ?_; clear hA7 a6
 refine stw hA9 (op_call rfl en_17 (ev1 (hA9.ev rfl)) (Few_ok rl rs rb rlv d _ (rnd_at (hS5.ok 1 _ rfl)))) rfl rfl (by decide) ?_
 rintro a10 _ w12 ⟨rfl, hE13⟩ hA11; have hS14 := hS5.step hE13; clear hE13 hA9 hS5 a8
 rw [hf] at hA11
 refine st hA11 (op_not rfl (hA11.ev rfl)) rfl rfl (by decide) fun a15 hA16 => ?_; clear hA11 a10
 refine wl_nil ?_
 refine then_n ?_
 refine c_false hA16 rfl ?_
 refine c_skip ?_
 refine then_n ?_
 refine c_seq ?_
 refine c_region ?_
 refine st hA16 (op_loadA rfl ty_26 (hA16.ev rfl) (hS14.bk 0 rfl) (l := [rl, rs, (Value.int .i64 d.spread), rb]) rfl rfl) rfl rfl (by decide) fun a17 hA18 => ?_; clear hA16 a15
 refine stw hA18 (op_call rfl en_20 (ev1 (hA18.ev rfl)) (Round_ok rl rs rb rlv d _ (rnd_at (hS14.ok 1 _ rfl)) hth)) rfl rfl (by decide) ?_
 rintro a19 _ w21 ⟨vl22, vs23, vb24, lv25, rfl, hT26⟩ hA20; have hS27 := hS14.callS hT26 rfl; clear hT26 hA18 hS14 a17
 refine st hA20 (op_move rfl (hA20.ev rfl)) rfl rfl (by decide) fun a28 hA29 => ?_; clear hA20 a19
 refine stw hA29 (op_call rfl en_32 (ev2 (hA29.ev rfl) (hA29.ev rfl)) (by have h := (shifts_fn vl22 vs23 vb24 lv25 d _ (rnd_at (hS27.ok 0 _ rfl)) lab); rw [shiftsR_fail hc hi hx] at h; exact h)) rfl rfl (by decide) ?_
 rintro a30 _ w32 ⟨rfl, hE33⟩ hA31; have hS34 := hS27.step hE33; clear hE33 hA29 hS27 a28
 refine st hA31 (op_move rfl (hA31.ev rfl)) rfl rfl (by decide) fun a35 hA36 => ?_; clear hA31 a30
 refine st hA36 (op_extract rfl (hA36.ev rfl) rfl) rfl rfl (by decide) fun a37 hA38 => ?_; clear hA36 a35
 refine st hA38 (op_extract rfl (hA38.ev rfl) rfl) rfl rfl (by decide) fun a39 hA40 => ?_; clear hA38 a37
 refine stw hA40 (op_alloc hS34 rfl ze_46 (cs := [(Value.int .i64 0), (Value.int .i64 0)]) rfl) rfl rfl (by decide) ?_
 rintro a41 _ w43 ⟨b44, rfl, hS45⟩ hA42; clear hA40 hS34 a39
 refine sts hA42 (op_store hS45 rfl ty_46 (hA42.ev rfl) (hA42.ev rfl) (i := 0) rfl (vs := [(Value.int .i64 0), (Value.int .i64 0)]) rfl rfl rfl (Nat.le_of_ble_eq_true rfl)) rfl rfl ?_
 intro _ w46 hS47 hA48; clear hA42
 have hS49 : Sep NoB w w46 [(blk b44 46 [(Value.int .i64 0), (Value.int .i64 0)]), (rndR true vl22 vs23 vb24 lv25 d), (blk b4 26 [rl, rs, (Value.int .i64 d.spread), rb]), (rndR false rl rs rb rlv d)] := hS47; clear hS47 hS45
 refine st hA48 (op_assign rfl (hA48.ev rfl)) rfl rfl (by decide) fun a50 hA51 => ?_; clear hA48 a41
 refine wl_nil ?_
 refine then_n ?_
 refine c_seq ?_
 have hA52 := hA51.as [(8, (Value.int .i64 9)), (7, (bptr b44 0)), (3, (bptr b4 0)), (1, (Value.int .i64 lab)), (2, (Value.int .i64 other))] rfl; clear hA51
 refine c_region ?_
 refine st hA52 (op_loadA rfl ty_26 (hA52.ev rfl) (hS49.bk 2 rfl) (l := [rl, rs, (Value.int .i64 d.spread), rb]) rfl rfl) rfl rfl (by decide) fun a53 hA54 => ?_; clear hA52 a50
 refine stw hA54 (op_call rfl en_23 (ev1 (hA54.ev rfl)) (fault_ok rl rs rb rlv d _ (rnd_at (hS49.ok 3 _ rfl)))) rfl rfl (by decide) ?_
 rintro a55 _ w57 ⟨rfl, hE58⟩ hA56; have hS59 := hS49.step hE58; clear hE58 hA54 hS49 a53
 refine st hA56 (op_assign rfl (hA56.ev rfl)) rfl rfl (by decide) fun a60 hA61 => ?_; clear hA56 a55
 refine wl_nil ?_
 refine then_n ?_
 refine c_seq ?_
 refine c_seq ?_
 refine c_region ?_
 refine st hA61 (op_move rfl (hA61.ev rfl)) rfl rfl (by decide) fun a62 hA63 => ?_; clear hA61 a60
 refine st hA63 (op_eql rfl (hA63.ev rfl) (evc _ _)) rfl rfl (by decide) fun a64 hA65 => ?_; clear hA63 a62
 have hd66 : (checkR d) = 0 := hc
 rw [decide_eq_true hd66] at hA65
 refine st hA65 (op_move rfl (hA65.ev rfl)) rfl rfl (by decide) fun a67 hA68 => ?_; clear hA65 a64
 refine stg hA68 (op_move rfl (hA68.ev rfl)) rfl rfl rfl rfl (by decide) fun a69 hA70 => ?_; clear hA68 a67
 refine stg hA70 (op_field rfl fd_26_3 (hA70.ev rfl)) rfl rfl rfl rfl (by decide) fun a71 hA72 => ?_; clear hA70 a69
 refine stg hA72 (op_load1 rfl ty_24 (hA72.ev rfl) (hS59.bk 2 rfl) rfl) rfl rfl rfl rfl (by decide) fun a73 hA74 => ?_; clear hA72 a71
 refine stg hA74 (op_lenS rfl un_24 (hA74.ev rfl) (rnd_at (hS59.ok 3 _ rfl)).labs) rfl rfl rfl rfl (by decide) fun a75 hA76 => ?_; clear hA74 a73
 refine stg hA76 (op_sub rfl (hA76.ev rfl) (evc _ _) (by omega) (by omega)) rfl rfl rfl rfl (by decide) fun a77 hA78 => ?_; clear hA76 a75
 refine stwg hA78 (op_call rfl en_33 (ev3 (hA78.ev rfl) (evc _ _) (hA78.ev rfl)) (In_ok _ _ _ _)) rfl rfl rfl rfl (by decide) ?_
 rintro a79 _ _ ⟨rfl, rfl⟩ hA80; clear hA78 a77
 rw [hi] at hA80
 have hq82 := hi; simp only [Bool.and_eq_true, Bool.and_eq_false_iff, decide_eq_true_eq, decide_eq_false_iff_not] at hq82
 refine stg hA80 (op_not rfl (hA80.ev rfl)) rfl rfl rfl rfl (by decide) fun a83 hA84 => ?_; clear hA80 a79
 refine st hA84 (op_pick_t rfl (hA84.ev rfl) (hA84.ev rfl)) rfl rfl (by decide) fun a85 hA86 => ?_; clear hA84 a83
 refine wl_nil ?_
 refine then_n ?_
 refine c_false hA86 rfl ?_
 refine c_skip ?_
 refine then_n ?_
 refine c_seq ?_
 refine c_seq ?_
 have hA87 := hA86.as [(9, (Value.int .i64 (checkR d))), (8, (Value.int .i64 9)), (7, (bptr b44 0)), (3, (bptr b4 0)), (1, (Value.int .i64 lab)), (2, (Value.int .i64 other))] rfl; clear hA86
 refine c_region ?_
 refine st hA87 (op_move rfl (hA87.ev rfl)) rfl rfl (by decide) fun a88 hA89 => ?_; clear hA87 a85
 refine st hA89 (op_eql rfl (hA89.ev rfl) (evc _ _)) rfl rfl (by decide) fun a90 hA91 => ?_; clear hA89 a88
 rw [decide_eq_true hd66] at hA91
 refine st hA91 (op_move rfl (hA91.ev rfl)) rfl rfl (by decide) fun a92 hA93 => ?_; clear hA91 a90
 refine stg hA93 (op_loadA rfl ty_26 (hA93.ev rfl) (hS59.bk 2 rfl) (l := [rl, rs, (Value.int .i64 d.spread), rb]) rfl rfl) rfl rfl rfl rfl (by decide) fun a94 hA95 => ?_; clear hA93 a92
 refine stg hA95 (op_move rfl (hA95.ev rfl)) rfl rfl rfl rfl (by decide) fun a96 hA97 => ?_; clear hA95 a94
 refine stwg hA97 (op_buildSlice hS59 rfl (pv1 (hA97.ev rfl)) un_23 ty_3 ze_3 (by decide) (cs := [(Value.int .i64 lab)]) (bs_3_1_0i _)) rfl rfl rfl rfl (by decide) ?_
 rintro a98 _ w100 ⟨b101, rfl, hS102⟩ hA99; clear hA97 hS59 a96
 refine stwg hA99 (op_call rfl en_25 (ev2 (hA99.ev rfl) (hA99.ev rfl)) (by have h := (RefExplains_ok rl rs rb rlv d _ (rnd_at (hS102.ok 4 _ rfl)) _ ([lab]) (SlAt.of_blk (hS102.bk 0 rfl) rfl (Nat.le_of_ble_eq_true rfl)) (Nat.le_of_ble_eq_true rfl) hV); rw [(refOk_one hV hi).trans hx] at h; exact h)) rfl rfl rfl rfl (by decide) ?_
 rintro a103 _ w105 ⟨rfl, hE106⟩ hA104; have hS107 := hS102.step hE106; clear hE106 hA99 hS102 a98
 refine stg hA104 (op_not rfl (hA104.ev rfl)) rfl rfl rfl rfl (by decide) fun a108 hA109 => ?_; clear hA104 a103
 refine st hA109 (op_pick_t rfl (hA109.ev rfl) (hA109.ev rfl)) rfl rfl (by decide) fun a110 hA111 => ?_; clear hA109 a108
 refine wl_nil ?_
 refine then_n ?_
 refine c_true hA111 rfl ?_
 have hA112 := hA111.as [(8, (Value.int .i64 9)), (7, (bptr b44 0)), (3, (bptr b4 0)), (1, (Value.int .i64 lab)), (2, (Value.int .i64 other))] rfl; clear hA111
 refine c_region ?_
 refine st hA112 (op_assign rfl (evc _ _)) rfl rfl (by decide) fun a113 hA114 => ?_; clear hA112 a110
 refine wl_nil ?_
 refine then_n ?_
 refine c_seq ?_
 refine c_seq ?_
 refine c_region ?_
 refine st hA114 (op_move rfl (hA114.ev rfl)) rfl rfl (by decide) fun a115 hA116 => ?_; clear hA114 a113
 refine st hA116 (op_neq rfl (hA116.ev rfl) (evc _ _)) rfl rfl (by decide) fun a117 hA118 => ?_; clear hA116 a115
 refine wl_nil ?_
 refine then_n ?_
 refine c_true hA118 rfl ?_
 refine c_seq ?_
 refine c_region ?_
 refine st hA118 (op_move rfl (hA118.ev rfl)) rfl rfl (by decide) fun a119 hA120 => ?_; clear hA118 a117
 refine st hA120 (op_move rfl (hA120.ev rfl)) rfl rfl (by decide) fun a121 hA122 => ?_; clear hA120 a119
 refine st hA122 (op_eql rfl (hA122.ev rfl) (hA122.ev rfl)) rfl rfl (by decide) fun a123 hA124 => ?_; clear hA122 a121
 refine st hA124 (op_move rfl (hA124.ev rfl)) rfl rfl (by decide) fun a125 hA126 => ?_; clear hA124 a123
 refine stg hA126 (op_loadA rfl ty_46 (hA126.ev rfl) (hS107.bk 1 rfl) (l := [(Value.int .i64 0), (Value.int .i64 0)]) rfl rfl) rfl rfl rfl rfl (by decide) fun a127 hA128 => ?_; clear hA126 a125
 refine stg hA128 (op_build rfl pv0 bd_46_) rfl rfl rfl rfl (by decide) fun a129 hA130 => ?_; clear hA128 a127
 refine stg hA130 (op_eqlP tw_46 rfl (hA130.ev rfl) (hA130.ev rfl)) rfl rfl rfl rfl (by decide) fun a131 hA132 => ?_; clear hA130 a129
 have hd133 : (decide ((0 : Int) = 0) && decide ((0 : Int) = 0)) = true := by simp only [decide_true, Bool.and_self]
 rw [hd133] at hA132
 have hq134 := hd133; simp only [Bool.and_eq_true, Bool.and_eq_false_iff, decide_eq_true_eq, decide_eq_false_iff_not] at hq134
 refine st hA132 (op_pick_t rfl (hA132.ev rfl) (hA132.ev rfl)) rfl rfl (by decide) fun a135 hA136 => ?_; clear hA132 a131
 refine st hA136 (op_move rfl (hA136.ev rfl)) rfl rfl (by decide) fun a137 hA138 => ?_; clear hA136 a135
 refine stwg hA138 (op_call rfl en_18 ev0 (wakes_ok _)) rfl rfl rfl rfl (by decide) ?_
 rintro a139 _ w141 ⟨rfl, hE142⟩ hA140; have hS143 := hS107.step hE142; clear hE142 hA138 hS107 a137
 refine st hA140 (op_pick_t rfl (hA140.ev rfl) (hA140.ev rfl)) rfl rfl (by decide) fun a144 hA145 => ?_; clear hA140 a139
 refine st hA145 (op_assign rfl (hA145.ev rfl)) rfl rfl (by decide) fun a146 hA147 => ?_; clear hA145 a144
 refine wl_nil ?_
 refine then_n ?_
 refine c_ret ?_
 refine then_ret ?_
 refine fin_run hA147 (.inl rfl) (run_results1 hA147 rfl (.tmp rfl)) ?_
 exact ⟨rfl, hS143.ext⟩

set_option maxHeartbeats 4000000 in
theorem RoundShifts_e (rl rs rb : Value) (rlv : List Value) (d : RD) (w : World) (hR : RoundAt w rl rs rb rlv d) (lab other : Int) (hf : fewB d = true) (hc : checkR d = 0) (hi : (decide (0 ≤ lab) && decide (lab ≤ (d.tols.length : Int) - 1)) = true) (hx : explB d (off0.set lab.toNat true) = true) (hs : shiftsR d lab = ((0, 0), 7)) (hn : ∀ s, -2000 ≤ s → s ≤ 2000 → shOk d lab s = false) :
  Calls Try.prog 6 #[(Value.agg #[rl, rs, (Value.int .i64 d.spread), rb]), (Value.int .i64 lab), (Value.int .i64 other)] w (Ret fun v w' => v = .bool true ∧ Ext NoB w w') := by
 refine calls_enter Try.func6 rfl fun a0 hA0 => ?_
 replace hA0 : Fr 157 [] [(0, (Value.agg #[rl, rs, (Value.int .i64 d.spread), rb])), (1, (Value.int .i64 lab)), (2, (Value.int .i64 other))] a0 := hA0
 have hth := thin_of (fewB_thin hf); have hV := valid_of hc; have hnb := hV.nb; have htm := tmod_bd other 2001 (by decide)
 have hS0 : Sep NoB w w [(rndR false rl rs rb rlv d)] := sep_ro ⟨rfl, hR, trivial⟩
 refine c_seq ?_
 refine c_region ?_
 refine stw hA0 (op_box hS0 rfl (hA0.ev rfl) (cs := [rl, rs, (Value.int .i64 d.spread), rb]) rfl) rfl rfl (by decide) ?_
 rintro a1 _ w3 ⟨b4, rfl, hS5⟩ hA2; clear hA0 hS0 a0
 refine st hA2 (op_assign rfl (evc _ _)) rfl rfl (by decide) fun a6 hA7 => ?_; clear hA2 a1
 refine wl_nil ?_
 refine then_n ?_
 refine c_seq ?_
 refine c_seq ?_
 refine c_region ?_
 refine st hA7 (op_loadA rfl ty_26 (hA7.ev rfl) (hS5.bk 0 rfl) (l := [rl, rs, (Value.int .i64 d.spread), rb]) rfl rfl) rfl rfl (by decide) fun a8 hA9 => ?_; clear hA7 a6
 refine stw hA9 (op_call rfl en_17 (ev1 (hA9.ev rfl)) (Few_ok rl rs rb rlv d _ (rnd_at (hS5.ok 1 _ rfl)))) rfl rfl (by decide) ?_
 rintro a10 _ w12 ⟨rfl, hE13⟩ hA11; have hS14 := hS5.step hE13; clear hE13 hA9 hS5 a8
 rw [hf] at hA11
 refine st hA11 (op_not rfl (hA11.ev rfl)) rfl rfl (by decide) fun a15 hA16 => ?_; clear hA11 a10
 refine wl_nil ?_
 refine then_n ?_
 refine c_false hA16 rfl ?_
 refine c_skip ?_
 refine then_n ?_
 refine c_seq ?_
 refine c_region ?_
 refine st hA16 (op_loadA rfl ty_26 (hA16.ev rfl) (hS14.bk 0 rfl) (l := [rl, rs, (Value.int .i64 d.spread), rb]) rfl rfl) rfl rfl (by decide) fun a17 hA18 => ?_; clear hA16 a15
 refine stw hA18 (op_call rfl en_20 (ev1 (hA18.ev rfl)) (Round_ok rl rs rb rlv d _ (rnd_at (hS14.ok 1 _ rfl)) hth)) rfl rfl (by decide) ?_
 rintro a19 _ w21 ⟨vl22, vs23, vb24, lv25, rfl, hT26⟩ hA20; have hS27 := hS14.callS hT26 rfl; clear hT26 hA18 hS14 a17
 refine st hA20 (op_move rfl (hA20.ev rfl)) rfl rfl (by decide) fun a28 hA29 => ?_; clear hA20 a19
 refine stw hA29 (op_call rfl en_32 (ev2 (hA29.ev rfl) (hA29.ev rfl)) (by have h := (shifts_fn vl22 vs23 vb24 lv25 d _ (rnd_at (hS27.ok 0 _ rfl)) lab); rw [hs] at h; exact h)) rfl rfl (by decide) ?_
 rintro a30 _ w32 ⟨rfl, hE33⟩ hA31; have hS34 := hS27.step hE33; clear hE33 hA29 hS27 a28
 refine st hA31 (op_move rfl (hA31.ev rfl)) rfl rfl (by decide) fun a35 hA36 => ?_; clear hA31 a30
 refine st hA36 (op_extract rfl (hA36.ev rfl) rfl) rfl rfl (by decide) fun a37 hA38 => ?_; clear hA36 a35
 refine st hA38 (op_extract rfl (hA38.ev rfl) rfl) rfl rfl (by decide) fun a39 hA40 => ?_; clear hA38 a37
 refine stw hA40 (op_alloc hS34 rfl ze_46 (cs := [(Value.int .i64 0), (Value.int .i64 0)]) rfl) rfl rfl (by decide) ?_
 rintro a41 _ w43 ⟨b44, rfl, hS45⟩ hA42; clear hA40 hS34 a39
 refine sts hA42 (op_store hS45 rfl ty_46 (hA42.ev rfl) (hA42.ev rfl) (i := 0) rfl (vs := [(Value.int .i64 0), (Value.int .i64 0)]) rfl rfl rfl (Nat.le_of_ble_eq_true rfl)) rfl rfl ?_
 intro _ w46 hS47 hA48; clear hA42
 have hS49 : Sep NoB w w46 [(blk b44 46 [(Value.int .i64 0), (Value.int .i64 0)]), (rndR true vl22 vs23 vb24 lv25 d), (blk b4 26 [rl, rs, (Value.int .i64 d.spread), rb]), (rndR false rl rs rb rlv d)] := hS47; clear hS47 hS45
 refine st hA48 (op_assign rfl (hA48.ev rfl)) rfl rfl (by decide) fun a50 hA51 => ?_; clear hA48 a41
 refine wl_nil ?_
 refine then_n ?_
 refine c_seq ?_
 have hA52 := hA51.as [(8, (Value.int .i64 7)), (7, (bptr b44 0)), (3, (bptr b4 0)), (1, (Value.int .i64 lab)), (2, (Value.int .i64 other))] rfl; clear hA51
 refine c_region ?_
 refine st hA52 (op_loadA rfl ty_26 (hA52.ev rfl) (hS49.bk 2 rfl) (l := [rl, rs, (Value.int .i64 d.spread), rb]) rfl rfl) rfl rfl (by decide) fun a53 hA54 => ?_; clear hA52 a50
 refine stw hA54 (op_call rfl en_23 (ev1 (hA54.ev rfl)) (fault_ok rl rs rb rlv d _ (rnd_at (hS49.ok 3 _ rfl)))) rfl rfl (by decide) ?_
 rintro a55 _ w57 ⟨rfl, hE58⟩ hA56; have hS59 := hS49.step hE58; clear hE58 hA54 hS49 a53
 refine st hA56 (op_assign rfl (hA56.ev rfl)) rfl rfl (by decide) fun a60 hA61 => ?_; clear hA56 a55
 refine wl_nil ?_
 refine then_n ?_
 refine c_seq ?_
 refine c_seq ?_
 refine c_region ?_
 refine st hA61 (op_move rfl (hA61.ev rfl)) rfl rfl (by decide) fun a62 hA63 => ?_; clear hA61 a60
 refine st hA63 (op_eql rfl (hA63.ev rfl) (evc _ _)) rfl rfl (by decide) fun a64 hA65 => ?_; clear hA63 a62
 have hd66 : (checkR d) = 0 := hc
 rw [decide_eq_true hd66] at hA65
 refine st hA65 (op_move rfl (hA65.ev rfl)) rfl rfl (by decide) fun a67 hA68 => ?_; clear hA65 a64
 refine stg hA68 (op_move rfl (hA68.ev rfl)) rfl rfl rfl rfl (by decide) fun a69 hA70 => ?_; clear hA68 a67
 refine stg hA70 (op_field rfl fd_26_3 (hA70.ev rfl)) rfl rfl rfl rfl (by decide) fun a71 hA72 => ?_; clear hA70 a69
 refine stg hA72 (op_load1 rfl ty_24 (hA72.ev rfl) (hS59.bk 2 rfl) rfl) rfl rfl rfl rfl (by decide) fun a73 hA74 => ?_; clear hA72 a71
 refine stg hA74 (op_lenS rfl un_24 (hA74.ev rfl) (rnd_at (hS59.ok 3 _ rfl)).labs) rfl rfl rfl rfl (by decide) fun a75 hA76 => ?_; clear hA74 a73
 refine stg hA76 (op_sub rfl (hA76.ev rfl) (evc _ _) (by omega) (by omega)) rfl rfl rfl rfl (by decide) fun a77 hA78 => ?_; clear hA76 a75
 refine stwg hA78 (op_call rfl en_33 (ev3 (hA78.ev rfl) (evc _ _) (hA78.ev rfl)) (In_ok _ _ _ _)) rfl rfl rfl rfl (by decide) ?_
 rintro a79 _ _ ⟨rfl, rfl⟩ hA80; clear hA78 a77
 rw [hi] at hA80
 have hq82 := hi; simp only [Bool.and_eq_true, Bool.and_eq_false_iff, decide_eq_true_eq, decide_eq_false_iff_not] at hq82
 refine stg hA80 (op_not rfl (hA80.ev rfl)) rfl rfl rfl rfl (by decide) fun a83 hA84 => ?_; clear hA80 a79
 refine st hA84 (op_pick_t rfl (hA84.ev rfl) (hA84.ev rfl)) rfl rfl (by decide) fun a85 hA86 => ?_; clear hA84 a83
 refine wl_nil ?_
 refine then_n ?_
 refine c_false hA86 rfl ?_
 refine c_skip ?_
 refine then_n ?_
 refine c_seq ?_
 refine c_seq ?_
 have hA87 := hA86.as [(9, (Value.int .i64 (checkR d))), (8, (Value.int .i64 7)), (7, (bptr b44 0)), (3, (bptr b4 0)), (1, (Value.int .i64 lab)), (2, (Value.int .i64 other))] rfl; clear hA86
 refine c_region ?_
 refine st hA87 (op_move rfl (hA87.ev rfl)) rfl rfl (by decide) fun a88 hA89 => ?_; clear hA87 a85
 refine st hA89 (op_eql rfl (hA89.ev rfl) (evc _ _)) rfl rfl (by decide) fun a90 hA91 => ?_; clear hA89 a88
 rw [decide_eq_true hd66] at hA91
 refine st hA91 (op_move rfl (hA91.ev rfl)) rfl rfl (by decide) fun a92 hA93 => ?_; clear hA91 a90
 refine stg hA93 (op_loadA rfl ty_26 (hA93.ev rfl) (hS59.bk 2 rfl) (l := [rl, rs, (Value.int .i64 d.spread), rb]) rfl rfl) rfl rfl rfl rfl (by decide) fun a94 hA95 => ?_; clear hA93 a92
 refine stg hA95 (op_move rfl (hA95.ev rfl)) rfl rfl rfl rfl (by decide) fun a96 hA97 => ?_; clear hA95 a94
 refine stwg hA97 (op_buildSlice hS59 rfl (pv1 (hA97.ev rfl)) un_23 ty_3 ze_3 (by decide) (cs := [(Value.int .i64 lab)]) (bs_3_1_0i _)) rfl rfl rfl rfl (by decide) ?_
 rintro a98 _ w100 ⟨b101, rfl, hS102⟩ hA99; clear hA97 hS59 a96
 refine stwg hA99 (op_call rfl en_25 (ev2 (hA99.ev rfl) (hA99.ev rfl)) (by have h := (RefExplains_ok rl rs rb rlv d _ (rnd_at (hS102.ok 4 _ rfl)) _ ([lab]) (SlAt.of_blk (hS102.bk 0 rfl) rfl (Nat.le_of_ble_eq_true rfl)) (Nat.le_of_ble_eq_true rfl) hV); rw [(refOk_one hV hi).trans hx] at h; exact h)) rfl rfl rfl rfl (by decide) ?_
 rintro a103 _ w105 ⟨rfl, hE106⟩ hA104; have hS107 := hS102.step hE106; clear hE106 hA99 hS102 a98
 refine stg hA104 (op_not rfl (hA104.ev rfl)) rfl rfl rfl rfl (by decide) fun a108 hA109 => ?_; clear hA104 a103
 refine st hA109 (op_pick_t rfl (hA109.ev rfl) (hA109.ev rfl)) rfl rfl (by decide) fun a110 hA111 => ?_; clear hA109 a108
 refine wl_nil ?_
 refine then_n ?_
 refine c_false hA111 rfl ?_
 refine c_skip ?_
 refine then_n ?_
 refine c_seq ?_
 refine c_seq ?_
 have hA112 := hA111.as [(9, (Value.int .i64 (checkR d))), (8, (Value.int .i64 7)), (7, (bptr b44 0)), (3, (bptr b4 0)), (1, (Value.int .i64 lab)), (2, (Value.int .i64 other))] rfl; clear hA111
 refine c_region ?_
 refine st hA112 (op_move rfl (hA112.ev rfl)) rfl rfl (by decide) fun a113 hA114 => ?_; clear hA112 a110
 refine st hA114 (op_neq rfl (hA114.ev rfl) (evc _ _)) rfl rfl (by decide) fun a115 hA116 => ?_; clear hA114 a113
 rw [decide_eq_true hd66] at hA116
 refine wl_nil ?_
 refine then_n ?_
 refine c_false hA116 rfl ?_
 refine c_skip ?_
 refine then_n ?_
 refine c_seq ?_
 refine c_region ?_
 refine st hA116 (op_move rfl (hA116.ev rfl)) rfl rfl (by decide) fun a117 hA118 => ?_; clear hA116 a115
 refine st hA118 (op_rem rfl (hA118.ev rfl) (evc _ _) (by omega)) rfl rfl (by decide) fun a119 hA120 => ?_; clear hA118 a117
 refine st hA120 (op_assign rfl (hA120.ev rfl)) rfl rfl (by decide) fun a121 hA122 => ?_; clear hA120 a119
 refine wl_nil ?_
 refine then_n ?_
 refine c_seq ?_
 refine c_seq ?_
 have hA123 := hA122.as [(10, (Value.int .i64 ((other).tmod 2001))), (8, (Value.int .i64 7)), (7, (bptr b44 0)), (3, (bptr b4 0)), (1, (Value.int .i64 lab))] rfl; clear hA122
 refine c_region ?_
 refine st hA123 (op_move rfl (hA123.ev rfl)) rfl rfl (by decide) fun a124 hA125 => ?_; clear hA123 a121
 refine st hA125 (op_neq rfl (hA125.ev rfl) (evc _ _)) rfl rfl (by decide) fun a126 hA127 => ?_; clear hA125 a124
 refine wl_nil ?_
 refine then_n ?_
 refine c_true hA127 rfl ?_
 refine c_seq ?_
 refine c_region ?_
 refine st hA127 (op_move rfl (hA127.ev rfl)) rfl rfl (by decide) fun a128 hA129 => ?_; clear hA127 a126
 refine st hA129 (op_eql rfl (hA129.ev rfl) (evc _ _)) rfl rfl (by decide) fun a130 hA131 => ?_; clear hA129 a128
 refine st hA131 (op_move rfl (hA131.ev rfl)) rfl rfl (by decide) fun a132 hA133 => ?_; clear hA131 a130
 refine stg hA133 (op_loadA rfl ty_46 (hA133.ev rfl) (hS107.bk 1 rfl) (l := [(Value.int .i64 0), (Value.int .i64 0)]) rfl rfl) rfl rfl rfl rfl (by decide) fun a134 hA135 => ?_; clear hA133 a132
 refine stg hA135 (op_build rfl pv0 bd_46_) rfl rfl rfl rfl (by decide) fun a136 hA137 => ?_; clear hA135 a134
 refine stg hA137 (op_eqlP tw_46 rfl (hA137.ev rfl) (hA137.ev rfl)) rfl rfl rfl rfl (by decide) fun a138 hA139 => ?_; clear hA137 a136
 have hd140 : (decide ((0 : Int) = 0) && decide ((0 : Int) = 0)) = true := by simp only [decide_true, Bool.and_self]
 rw [hd140] at hA139
 have hq141 := hd140; simp only [Bool.and_eq_true, Bool.and_eq_false_iff, decide_eq_true_eq, decide_eq_false_iff_not] at hq141
 refine st hA139 (op_pick_t rfl (hA139.ev rfl) (hA139.ev rfl)) rfl rfl (by decide) fun a142 hA143 => ?_; clear hA139 a138
 refine st hA143 (op_move rfl (hA143.ev rfl)) rfl rfl (by decide) fun a144 hA145 => ?_; clear hA143 a142
 refine stg hA145 (op_loadA rfl ty_26 (hA145.ev rfl) (hS107.bk 3 rfl) (l := [rl, rs, (Value.int .i64 d.spread), rb]) rfl rfl) rfl rfl rfl rfl (by decide) fun a146 hA147 => ?_; clear hA145 a144
 refine stg hA147 (op_move rfl (hA147.ev rfl)) rfl rfl rfl rfl (by decide) fun a148 hA149 => ?_; clear hA147 a146
 refine stg hA149 (op_move rfl (hA149.ev rfl)) rfl rfl rfl rfl (by decide) fun a150 hA151 => ?_; clear hA149 a148
 refine stwg hA151 (op_call rfl en_34 (ev3 (hA151.ev rfl) (hA151.ev rfl) (hA151.ev rfl)) (by have h := (Errs_ok rl rs rb rlv d _ (rnd_at (hS107.ok 4 _ rfl)) lab ((other).tmod 2001) hV (by omega)); rw [((refOk_errs hV).trans (hn _ (by omega) (by omega)))] at h; exact h)) rfl rfl rfl rfl (by decide) ?_
 rintro a152 _ w154 ⟨rfl, hE155⟩ hA153; have hS156 := hS107.step hE155; clear hE155 hA151 hS107 a150
 refine stg hA153 (op_not rfl (hA153.ev rfl)) rfl rfl rfl rfl (by decide) fun a157 hA158 => ?_; clear hA153 a152
 refine st hA158 (op_pick_t rfl (hA158.ev rfl) (hA158.ev rfl)) rfl rfl (by decide) fun a159 hA160 => ?_; clear hA158 a157
 refine st hA160 (op_move rfl (hA160.ev rfl)) rfl rfl (by decide) fun a161 hA162 => ?_; clear hA160 a159
 refine stg hA162 (op_loadA rfl ty_26 (hA162.ev rfl) (hS156.bk 3 rfl) (l := [rl, rs, (Value.int .i64 d.spread), rb]) rfl rfl) rfl rfl rfl rfl (by decide) fun a163 hA164 => ?_; clear hA162 a161
 refine stg hA164 (op_move rfl (hA164.ev rfl)) rfl rfl rfl rfl (by decide) fun a165 hA166 => ?_; clear hA164 a163
 refine stwg hA166 (op_call rfl en_34 (ev3 (hA166.ev rfl) (hA166.ev rfl) (evc _ _)) (by have h := (Errs_ok rl rs rb rlv d _ (rnd_at (hS156.ok 4 _ rfl)) lab 0 hV (by omega)); rw [((refOk_errs hV).trans (hn _ (by omega) (by omega)))] at h; exact h)) rfl rfl rfl rfl (by decide) ?_
 rintro a167 _ w169 ⟨rfl, hE170⟩ hA168; have hS171 := hS156.step hE170; clear hE170 hA166 hS156 a165
 refine stg hA168 (op_not rfl (hA168.ev rfl)) rfl rfl rfl rfl (by decide) fun a172 hA173 => ?_; clear hA168 a167
 refine st hA173 (op_pick_t rfl (hA173.ev rfl) (hA173.ev rfl)) rfl rfl (by decide) fun a174 hA175 => ?_; clear hA173 a172
 refine st hA175 (op_move rfl (hA175.ev rfl)) rfl rfl (by decide) fun a176 hA177 => ?_; clear hA175 a174
 refine stwg hA177 (op_call rfl en_18 ev0 (wakes_ok _)) rfl rfl rfl rfl (by decide) ?_
 rintro a178 _ w180 ⟨rfl, hE181⟩ hA179; have hS182 := hS171.step hE181; clear hE181 hA177 hS171 a176
 refine st hA179 (op_pick_t rfl (hA179.ev rfl) (hA179.ev rfl)) rfl rfl (by decide) fun a183 hA184 => ?_; clear hA179 a178
 refine st hA184 (op_assign rfl (hA184.ev rfl)) rfl rfl (by decide) fun a185 hA186 => ?_; clear hA184 a183
 refine wl_nil ?_
 refine then_n ?_
 refine c_ret ?_
 refine then_ret ?_
 refine fin_run hA186 (.inl rfl) (run_results1 hA186 rfl (.tmp rfl)) ?_
 exact ⟨rfl, hS182.ext⟩

set_option maxHeartbeats 4000000 in
theorem RoundShifts_f (rl rs rb : Value) (rlv : List Value) (d : RD) (w : World) (hR : RoundAt w rl rs rb rlv d) (lab other : Int) (hf : fewB d = true) (hc : checkR d = 0) (hi : (decide (0 ≤ lab) && decide (lab ≤ (d.tols.length : Int) - 1)) = true) (hx : explB d (off0.set lab.toNat true) = true) (lo hi' : Int) (hs : shiftsR d lab = ((lo, hi'), 0)) (h1 : -2000 ≤ lo) (h2 : lo ≤ hi') (h3 : hi' ≤ 2000) (hn : ∀ s, -2000 ≤ s → s ≤ 2000 → shOk d lab s = (decide (lo ≤ s) && decide (s ≤ hi'))) :
  Calls Try.prog 6 #[(Value.agg #[rl, rs, (Value.int .i64 d.spread), rb]), (Value.int .i64 lab), (Value.int .i64 other)] w (Ret fun v w' => v = .bool true ∧ Ext NoB w w') := by
 refine calls_enter Try.func6 rfl fun a0 hA0 => ?_
 replace hA0 : Fr 157 [] [(0, (Value.agg #[rl, rs, (Value.int .i64 d.spread), rb])), (1, (Value.int .i64 lab)), (2, (Value.int .i64 other))] a0 := hA0
 have hth := thin_of (fewB_thin hf); have hV := valid_of hc; have hnb := hV.nb; have htm := tmod_bd other 2001 (by decide)
 have hS0 : Sep NoB w w [(rndR false rl rs rb rlv d)] := sep_ro ⟨rfl, hR, trivial⟩
 refine c_seq ?_
 refine c_region ?_
 refine stw hA0 (op_box hS0 rfl (hA0.ev rfl) (cs := [rl, rs, (Value.int .i64 d.spread), rb]) rfl) rfl rfl (by decide) ?_
 rintro a1 _ w3 ⟨b4, rfl, hS5⟩ hA2; clear hA0 hS0 a0
 refine st hA2 (op_assign rfl (evc _ _)) rfl rfl (by decide) fun a6 hA7 => ?_; clear hA2 a1
 refine wl_nil ?_
 refine then_n ?_
 refine c_seq ?_
 refine c_seq ?_
 refine c_region ?_
 refine st hA7 (op_loadA rfl ty_26 (hA7.ev rfl) (hS5.bk 0 rfl) (l := [rl, rs, (Value.int .i64 d.spread), rb]) rfl rfl) rfl rfl (by decide) fun a8 hA9 => ?_; clear hA7 a6
 refine stw hA9 (op_call rfl en_17 (ev1 (hA9.ev rfl)) (Few_ok rl rs rb rlv d _ (rnd_at (hS5.ok 1 _ rfl)))) rfl rfl (by decide) ?_
 rintro a10 _ w12 ⟨rfl, hE13⟩ hA11; have hS14 := hS5.step hE13; clear hE13 hA9 hS5 a8
 rw [hf] at hA11
 refine st hA11 (op_not rfl (hA11.ev rfl)) rfl rfl (by decide) fun a15 hA16 => ?_; clear hA11 a10
 refine wl_nil ?_
 refine then_n ?_
 refine c_false hA16 rfl ?_
 refine c_skip ?_
 refine then_n ?_
 refine c_seq ?_
 refine c_region ?_
 refine st hA16 (op_loadA rfl ty_26 (hA16.ev rfl) (hS14.bk 0 rfl) (l := [rl, rs, (Value.int .i64 d.spread), rb]) rfl rfl) rfl rfl (by decide) fun a17 hA18 => ?_; clear hA16 a15
 refine stw hA18 (op_call rfl en_20 (ev1 (hA18.ev rfl)) (Round_ok rl rs rb rlv d _ (rnd_at (hS14.ok 1 _ rfl)) hth)) rfl rfl (by decide) ?_
 rintro a19 _ w21 ⟨vl22, vs23, vb24, lv25, rfl, hT26⟩ hA20; have hS27 := hS14.callS hT26 rfl; clear hT26 hA18 hS14 a17
 refine st hA20 (op_move rfl (hA20.ev rfl)) rfl rfl (by decide) fun a28 hA29 => ?_; clear hA20 a19
 refine stw hA29 (op_call rfl en_32 (ev2 (hA29.ev rfl) (hA29.ev rfl)) (by have h := (shifts_fn vl22 vs23 vb24 lv25 d _ (rnd_at (hS27.ok 0 _ rfl)) lab); rw [hs] at h; exact h)) rfl rfl (by decide) ?_
 rintro a30 _ w32 ⟨rfl, hE33⟩ hA31; have hS34 := hS27.step hE33; clear hE33 hA29 hS27 a28
 refine st hA31 (op_move rfl (hA31.ev rfl)) rfl rfl (by decide) fun a35 hA36 => ?_; clear hA31 a30
 refine st hA36 (op_extract rfl (hA36.ev rfl) rfl) rfl rfl (by decide) fun a37 hA38 => ?_; clear hA36 a35
 refine st hA38 (op_extract rfl (hA38.ev rfl) rfl) rfl rfl (by decide) fun a39 hA40 => ?_; clear hA38 a37
 refine stw hA40 (op_alloc hS34 rfl ze_46 (cs := [(Value.int .i64 0), (Value.int .i64 0)]) rfl) rfl rfl (by decide) ?_
 rintro a41 _ w43 ⟨b44, rfl, hS45⟩ hA42; clear hA40 hS34 a39
 refine sts hA42 (op_store hS45 rfl ty_46 (hA42.ev rfl) (hA42.ev rfl) (i := 0) rfl (vs := [(Value.int .i64 lo), (Value.int .i64 hi')]) rfl rfl rfl (Nat.le_of_ble_eq_true rfl)) rfl rfl ?_
 intro _ w46 hS47 hA48; clear hA42
 have hS49 : Sep NoB w w46 [(blk b44 46 [(Value.int .i64 lo), (Value.int .i64 hi')]), (rndR true vl22 vs23 vb24 lv25 d), (blk b4 26 [rl, rs, (Value.int .i64 d.spread), rb]), (rndR false rl rs rb rlv d)] := hS47; clear hS47 hS45
 refine st hA48 (op_assign rfl (hA48.ev rfl)) rfl rfl (by decide) fun a50 hA51 => ?_; clear hA48 a41
 refine wl_nil ?_
 refine then_n ?_
 refine c_seq ?_
 have hA52 := hA51.as [(8, (Value.int .i64 0)), (7, (bptr b44 0)), (3, (bptr b4 0)), (1, (Value.int .i64 lab)), (2, (Value.int .i64 other))] rfl; clear hA51
 refine c_region ?_
 refine st hA52 (op_loadA rfl ty_26 (hA52.ev rfl) (hS49.bk 2 rfl) (l := [rl, rs, (Value.int .i64 d.spread), rb]) rfl rfl) rfl rfl (by decide) fun a53 hA54 => ?_; clear hA52 a50
 refine stw hA54 (op_call rfl en_23 (ev1 (hA54.ev rfl)) (fault_ok rl rs rb rlv d _ (rnd_at (hS49.ok 3 _ rfl)))) rfl rfl (by decide) ?_
 rintro a55 _ w57 ⟨rfl, hE58⟩ hA56; have hS59 := hS49.step hE58; clear hE58 hA54 hS49 a53
 refine st hA56 (op_assign rfl (hA56.ev rfl)) rfl rfl (by decide) fun a60 hA61 => ?_; clear hA56 a55
 refine wl_nil ?_
 refine then_n ?_
 refine c_seq ?_
 refine c_seq ?_
 refine c_region ?_
 refine st hA61 (op_move rfl (hA61.ev rfl)) rfl rfl (by decide) fun a62 hA63 => ?_; clear hA61 a60
 refine st hA63 (op_eql rfl (hA63.ev rfl) (evc _ _)) rfl rfl (by decide) fun a64 hA65 => ?_; clear hA63 a62
 have hd66 : (checkR d) = 0 := hc
 rw [decide_eq_true hd66] at hA65
 refine st hA65 (op_move rfl (hA65.ev rfl)) rfl rfl (by decide) fun a67 hA68 => ?_; clear hA65 a64
 refine stg hA68 (op_move rfl (hA68.ev rfl)) rfl rfl rfl rfl (by decide) fun a69 hA70 => ?_; clear hA68 a67
 refine stg hA70 (op_field rfl fd_26_3 (hA70.ev rfl)) rfl rfl rfl rfl (by decide) fun a71 hA72 => ?_; clear hA70 a69
 refine stg hA72 (op_load1 rfl ty_24 (hA72.ev rfl) (hS59.bk 2 rfl) rfl) rfl rfl rfl rfl (by decide) fun a73 hA74 => ?_; clear hA72 a71
 refine stg hA74 (op_lenS rfl un_24 (hA74.ev rfl) (rnd_at (hS59.ok 3 _ rfl)).labs) rfl rfl rfl rfl (by decide) fun a75 hA76 => ?_; clear hA74 a73
 refine stg hA76 (op_sub rfl (hA76.ev rfl) (evc _ _) (by omega) (by omega)) rfl rfl rfl rfl (by decide) fun a77 hA78 => ?_; clear hA76 a75
 refine stwg hA78 (op_call rfl en_33 (ev3 (hA78.ev rfl) (evc _ _) (hA78.ev rfl)) (In_ok _ _ _ _)) rfl rfl rfl rfl (by decide) ?_
 rintro a79 _ _ ⟨rfl, rfl⟩ hA80; clear hA78 a77
 rw [hi] at hA80
 have hq82 := hi; simp only [Bool.and_eq_true, Bool.and_eq_false_iff, decide_eq_true_eq, decide_eq_false_iff_not] at hq82
 refine stg hA80 (op_not rfl (hA80.ev rfl)) rfl rfl rfl rfl (by decide) fun a83 hA84 => ?_; clear hA80 a79
 refine st hA84 (op_pick_t rfl (hA84.ev rfl) (hA84.ev rfl)) rfl rfl (by decide) fun a85 hA86 => ?_; clear hA84 a83
 refine wl_nil ?_
 refine then_n ?_
 refine c_false hA86 rfl ?_
 refine c_skip ?_
 refine then_n ?_
 refine c_seq ?_
 refine c_seq ?_
 have hA87 := hA86.as [(9, (Value.int .i64 (checkR d))), (8, (Value.int .i64 0)), (7, (bptr b44 0)), (3, (bptr b4 0)), (1, (Value.int .i64 lab)), (2, (Value.int .i64 other))] rfl; clear hA86
 refine c_region ?_
 refine st hA87 (op_move rfl (hA87.ev rfl)) rfl rfl (by decide) fun a88 hA89 => ?_; clear hA87 a85
 refine st hA89 (op_eql rfl (hA89.ev rfl) (evc _ _)) rfl rfl (by decide) fun a90 hA91 => ?_; clear hA89 a88
 rw [decide_eq_true hd66] at hA91
 refine st hA91 (op_move rfl (hA91.ev rfl)) rfl rfl (by decide) fun a92 hA93 => ?_; clear hA91 a90
 refine stg hA93 (op_loadA rfl ty_26 (hA93.ev rfl) (hS59.bk 2 rfl) (l := [rl, rs, (Value.int .i64 d.spread), rb]) rfl rfl) rfl rfl rfl rfl (by decide) fun a94 hA95 => ?_; clear hA93 a92
 refine stg hA95 (op_move rfl (hA95.ev rfl)) rfl rfl rfl rfl (by decide) fun a96 hA97 => ?_; clear hA95 a94
 refine stwg hA97 (op_buildSlice hS59 rfl (pv1 (hA97.ev rfl)) un_23 ty_3 ze_3 (by decide) (cs := [(Value.int .i64 lab)]) (bs_3_1_0i _)) rfl rfl rfl rfl (by decide) ?_
 rintro a98 _ w100 ⟨b101, rfl, hS102⟩ hA99; clear hA97 hS59 a96
 refine stwg hA99 (op_call rfl en_25 (ev2 (hA99.ev rfl) (hA99.ev rfl)) (by have h := (RefExplains_ok rl rs rb rlv d _ (rnd_at (hS102.ok 4 _ rfl)) _ ([lab]) (SlAt.of_blk (hS102.bk 0 rfl) rfl (Nat.le_of_ble_eq_true rfl)) (Nat.le_of_ble_eq_true rfl) hV); rw [(refOk_one hV hi).trans hx] at h; exact h)) rfl rfl rfl rfl (by decide) ?_
 rintro a103 _ w105 ⟨rfl, hE106⟩ hA104; have hS107 := hS102.step hE106; clear hE106 hA99 hS102 a98
 refine stg hA104 (op_not rfl (hA104.ev rfl)) rfl rfl rfl rfl (by decide) fun a108 hA109 => ?_; clear hA104 a103
 refine st hA109 (op_pick_t rfl (hA109.ev rfl) (hA109.ev rfl)) rfl rfl (by decide) fun a110 hA111 => ?_; clear hA109 a108
 refine wl_nil ?_
 refine then_n ?_
 refine c_false hA111 rfl ?_
 refine c_skip ?_
 refine then_n ?_
 refine c_seq ?_
 refine c_seq ?_
 have hA112 := hA111.as [(9, (Value.int .i64 (checkR d))), (8, (Value.int .i64 0)), (7, (bptr b44 0)), (3, (bptr b4 0)), (1, (Value.int .i64 lab)), (2, (Value.int .i64 other))] rfl; clear hA111
 refine c_region ?_
 refine st hA112 (op_move rfl (hA112.ev rfl)) rfl rfl (by decide) fun a113 hA114 => ?_; clear hA112 a110
 refine st hA114 (op_neq rfl (hA114.ev rfl) (evc _ _)) rfl rfl (by decide) fun a115 hA116 => ?_; clear hA114 a113
 rw [decide_eq_true hd66] at hA116
 refine wl_nil ?_
 refine then_n ?_
 refine c_false hA116 rfl ?_
 refine c_skip ?_
 refine then_n ?_
 refine c_seq ?_
 refine c_region ?_
 refine st hA116 (op_move rfl (hA116.ev rfl)) rfl rfl (by decide) fun a117 hA118 => ?_; clear hA116 a115
 refine st hA118 (op_rem rfl (hA118.ev rfl) (evc _ _) (by omega)) rfl rfl (by decide) fun a119 hA120 => ?_; clear hA118 a117
 refine st hA120 (op_assign rfl (hA120.ev rfl)) rfl rfl (by decide) fun a121 hA122 => ?_; clear hA120 a119
 refine wl_nil ?_
 refine then_n ?_
 refine c_seq ?_
 refine c_seq ?_
 have hA123 := hA122.as [(10, (Value.int .i64 ((other).tmod 2001))), (8, (Value.int .i64 0)), (7, (bptr b44 0)), (3, (bptr b4 0)), (1, (Value.int .i64 lab))] rfl; clear hA122
 refine c_region ?_
 refine st hA123 (op_move rfl (hA123.ev rfl)) rfl rfl (by decide) fun a124 hA125 => ?_; clear hA123 a121
 refine st hA125 (op_neq rfl (hA125.ev rfl) (evc _ _)) rfl rfl (by decide) fun a126 hA127 => ?_; clear hA125 a124
 refine wl_nil ?_
 refine then_n ?_
 refine c_false hA127 rfl ?_
 refine c_skip ?_
 refine then_n ?_
 refine c_seq ?_
 refine c_seq ?_
 refine c_region ?_
 refine st hA127 (op_field rfl fd_46_0 (hA127.ev rfl)) rfl rfl (by decide) fun a128 hA129 => ?_; clear hA127 a126
 refine st hA129 (op_load1 rfl ty_3 (hA129.ev rfl) (hS107.bk 1 rfl) rfl) rfl rfl (by decide) fun a130 hA131 => ?_; clear hA129 a128
 refine st hA131 (op_lss rfl (hA131.ev rfl) (evc _ _)) rfl rfl (by decide) fun a132 hA133 => ?_; clear hA131 a130
 have hd134 : ¬ (lo < (-2000)) := (by omega)
 rw [decide_eq_false hd134] at hA133
 refine st hA133 (op_move rfl (hA133.ev rfl)) rfl rfl (by decide) fun a135 hA136 => ?_; clear hA133 a132
 refine stg hA136 (op_field rfl fd_46_0 (hA136.ev rfl)) rfl rfl rfl rfl (by decide) fun a137 hA138 => ?_; clear hA136 a135
 refine stg hA138 (op_load1 rfl ty_3 (hA138.ev rfl) (hS107.bk 1 rfl) rfl) rfl rfl rfl rfl (by decide) fun a139 hA140 => ?_; clear hA138 a137
 refine stg hA140 (op_field rfl fd_46_1 (hA140.ev rfl)) rfl rfl rfl rfl (by decide) fun a141 hA142 => ?_; clear hA140 a139
 refine stg hA142 (op_load1 rfl ty_3 (hA142.ev rfl) (hS107.bk 1 rfl) rfl) rfl rfl rfl rfl (by decide) fun a143 hA144 => ?_; clear hA142 a141
 refine stg hA144 (op_gtr rfl (hA144.ev rfl) (hA144.ev rfl)) rfl rfl rfl rfl (by decide) fun a145 hA146 => ?_; clear hA144 a143
 have hd147 : ¬ (hi' < lo) := (by omega)
 rw [decide_eq_false hd147] at hA146
 refine st hA146 (op_pick_f rfl (hA146.ev rfl) (hA146.ev rfl)) rfl rfl (by decide) fun a148 hA149 => ?_; clear hA146 a145
 refine st hA149 (op_move rfl (hA149.ev rfl)) rfl rfl (by decide) fun a150 hA151 => ?_; clear hA149 a148
 refine stg hA151 (op_field rfl fd_46_1 (hA151.ev rfl)) rfl rfl rfl rfl (by decide) fun a152 hA153 => ?_; clear hA151 a150
 refine stg hA153 (op_load1 rfl ty_3 (hA153.ev rfl) (hS107.bk 1 rfl) rfl) rfl rfl rfl rfl (by decide) fun a154 hA155 => ?_; clear hA153 a152
 refine stg hA155 (op_gtr rfl (hA155.ev rfl) (evc _ _)) rfl rfl rfl rfl (by decide) fun a156 hA157 => ?_; clear hA155 a154
 have hd158 : ¬ (2000 < hi') := (by omega)
 rw [decide_eq_false hd158] at hA157
 refine st hA157 (op_pick_f rfl (hA157.ev rfl) (hA157.ev rfl)) rfl rfl (by decide) fun a159 hA160 => ?_; clear hA157 a156
 refine st hA160 (op_move rfl (hA160.ev rfl)) rfl rfl (by decide) fun a161 hA162 => ?_; clear hA160 a159
 refine stg hA162 (op_loadA rfl ty_26 (hA162.ev rfl) (hS107.bk 3 rfl) (l := [rl, rs, (Value.int .i64 d.spread), rb]) rfl rfl) rfl rfl rfl rfl (by decide) fun a163 hA164 => ?_; clear hA162 a161
 refine stg hA164 (op_move rfl (hA164.ev rfl)) rfl rfl rfl rfl (by decide) fun a165 hA166 => ?_; clear hA164 a163
 refine stg hA166 (op_field rfl fd_46_0 (hA166.ev rfl)) rfl rfl rfl rfl (by decide) fun a167 hA168 => ?_; clear hA166 a165
 refine stg hA168 (op_load1 rfl ty_3 (hA168.ev rfl) (hS107.bk 1 rfl) rfl) rfl rfl rfl rfl (by decide) fun a169 hA170 => ?_; clear hA168 a167
 refine stwg hA170 (op_call rfl en_34 (ev3 (hA170.ev rfl) (hA170.ev rfl) (hA170.ev rfl)) (by have h := (Errs_ok rl rs rb rlv d _ (rnd_at (hS107.ok 4 _ rfl)) lab lo hV (by omega)); rw [((refOk_errs hV).trans ((hn _ (by omega) (by omega)).trans (by rw [decide_eq_true (by omega), decide_eq_true (by omega)]; try rfl)))] at h; exact h)) rfl rfl rfl rfl (by decide) ?_
 rintro a171 _ w173 ⟨rfl, hE174⟩ hA172; have hS175 := hS107.step hE174; clear hE174 hA170 hS107 a169
 refine stg hA172 (op_not rfl (hA172.ev rfl)) rfl rfl rfl rfl (by decide) fun a176 hA177 => ?_; clear hA172 a171
 refine st hA177 (op_pick_f rfl (hA177.ev rfl) (hA177.ev rfl)) rfl rfl (by decide) fun a178 hA179 => ?_; clear hA177 a176
 refine st hA179 (op_move rfl (hA179.ev rfl)) rfl rfl (by decide) fun a180 hA181 => ?_; clear hA179 a178
 refine stg hA181 (op_loadA rfl ty_26 (hA181.ev rfl) (hS175.bk 3 rfl) (l := [rl, rs, (Value.int .i64 d.spread), rb]) rfl rfl) rfl rfl rfl rfl (by decide) fun a182 hA183 => ?_; clear hA181 a180
 refine stg hA183 (op_move rfl (hA183.ev rfl)) rfl rfl rfl rfl (by decide) fun a184 hA185 => ?_; clear hA183 a182
 refine stg hA185 (op_field rfl fd_46_1 (hA185.ev rfl)) rfl rfl rfl rfl (by decide) fun a186 hA187 => ?_; clear hA185 a184
 refine stg hA187 (op_load1 rfl ty_3 (hA187.ev rfl) (hS175.bk 1 rfl) rfl) rfl rfl rfl rfl (by decide) fun a188 hA189 => ?_; clear hA187 a186
 refine stwg hA189 (op_call rfl en_34 (ev3 (hA189.ev rfl) (hA189.ev rfl) (hA189.ev rfl)) (by have h := (Errs_ok rl rs rb rlv d _ (rnd_at (hS175.ok 4 _ rfl)) lab hi' hV (by omega)); rw [((refOk_errs hV).trans ((hn _ (by omega) (by omega)).trans (by rw [decide_eq_true (by omega), decide_eq_true (by omega)]; try rfl)))] at h; exact h)) rfl rfl rfl rfl (by decide) ?_
 rintro a190 _ w192 ⟨rfl, hE193⟩ hA191; have hS194 := hS175.step hE193; clear hE193 hA189 hS175 a188
 refine stg hA191 (op_not rfl (hA191.ev rfl)) rfl rfl rfl rfl (by decide) fun a195 hA196 => ?_; clear hA191 a190
 refine st hA196 (op_pick_f rfl (hA196.ev rfl) (hA196.ev rfl)) rfl rfl (by decide) fun a197 hA198 => ?_; clear hA196 a195
 refine wl_nil ?_
 refine then_n ?_
 refine c_false hA198 rfl ?_
 refine c_skip ?_
 refine then_n ?_
 refine c_seq ?_
 have hA199 := hA198.as [(10, (Value.int .i64 ((other).tmod 2001))), (7, (bptr b44 0)), (3, (bptr b4 0)), (1, (Value.int .i64 lab))] rfl; clear hA198
 have hA200 := hA199.as [(10, (Value.int .i64 ((other).tmod 2001))), (7, (bptr b44 0)), (3, (bptr b4 0)), (1, (Value.int .i64 lab))] rfl; clear hA199
 by_cases hb202 : lo = (-2000)
 ·skip
  have hA203 := hA200.as [(10, (Value.int .i64 ((other).tmod 2001))), (7, (bptr b44 0)), (3, (bptr b4 0)), (1, (Value.int .i64 lab))] rfl; clear hA200
  by_cases hb205 : hi' = 2000
  ·skip
   have hA206 := hA203.as [(10, (Value.int .i64 ((other).tmod 2001))), (7, (bptr b44 0)), (3, (bptr b4 0)), (1, (Value.int .i64 lab))] rfl; clear hA203
   refine c_drawV mixed hA206 hS194 36 [[], [0], [1], [2], [3], [3], [3], [3, 6], [3, 7], [3, 4, 5, 8], [3, 9], [3, 10], [11], [12], [12, 13], [12, 14], [12, 15], [16], [16], [16], [16, 19], [16, 20], [16, 17, 18, 21], [16, 22], [12, 16, 23], [12, 24], [25], [26], [26], [26], [26, 27, 28, 29], [26], [26], [26, 32], [26], [26, 34]] [(fun (vs207 : Nat → Value) (v_ : Value) (rs_ : List Res) => v_ = (bptr b44 0) ∧ rs_ = []), (fun (vs207 : Nat → Value) (v_ : Value) (rs_ : List Res) => v_ = (Value.int .i64 lo) ∧ rs_ = []), (fun (vs207 : Nat → Value) (v_ : Value) (rs_ : List Res) => v_ = (Value.bool true) ∧ rs_ = []), (fun (vs207 : Nat → Value) (v_ : Value) (rs_ : List Res) => v_ = (Value.bool true) ∧ rs_ = []), (fun (vs207 : Nat → Value) (v_ : Value) (rs_ : List Res) => v_ = undef ∧ rs_ = []), (fun (vs207 : Nat → Value) (v_ : Value) (rs_ : List Res) => v_ = undef ∧ rs_ = []), (fun (vs207 : Nat → Value) (v_ : Value) (rs_ : List Res) => v_ = undef ∧ rs_ = []), (fun (vs207 : Nat → Value) (v_ : Value) (rs_ : List Res) => v_ = undef ∧ rs_ = []), (fun (vs207 : Nat → Value) (v_ : Value) (rs_ : List Res) => v_ = undef ∧ rs_ = []), (fun (vs207 : Nat → Value) (v_ : Value) (rs_ : List Res) => v_ = undef ∧ rs_ = []), (fun (vs207 : Nat → Value) (v_ : Value) (rs_ : List Res) => v_ = undef ∧ rs_ = []), (fun (vs207 : Nat → Value) (v_ : Value) (rs_ : List Res) => v_ = (Value.bool true) ∧ rs_ = []), (fun (vs207 : Nat → Value) (v_ : Value) (rs_ : List Res) => v_ = (Value.bool true) ∧ rs_ = []), (fun (vs207 : Nat → Value) (v_ : Value) (rs_ : List Res) => v_ = (bptr b44 1) ∧ rs_ = []), (fun (vs207 : Nat → Value) (v_ : Value) (rs_ : List Res) => v_ = (Value.int .i64 hi') ∧ rs_ = []), (fun (vs207 : Nat → Value) (v_ : Value) (rs_ : List Res) => v_ = (Value.bool true) ∧ rs_ = []), (fun (vs207 : Nat → Value) (v_ : Value) (rs_ : List Res) => v_ = (Value.bool true) ∧ rs_ = []), (fun (vs207 : Nat → Value) (v_ : Value) (rs_ : List Res) => v_ = undef ∧ rs_ = []), (fun (vs207 : Nat → Value) (v_ : Value) (rs_ : List Res) => v_ = undef ∧ rs_ = []), (fun (vs207 : Nat → Value) (v_ : Value) (rs_ : List Res) => v_ = undef ∧ rs_ = []), (fun (vs207 : Nat → Value) (v_ : Value) (rs_ : List Res) => v_ = undef ∧ rs_ = []), (fun (vs207 : Nat → Value) (v_ : Value) (rs_ : List Res) => v_ = undef ∧ rs_ = []), (fun (vs207 : Nat → Value) (v_ : Value) (rs_ : List Res) => v_ = undef ∧ rs_ = []), (fun (vs207 : Nat → Value) (v_ : Value) (rs_ : List Res) => v_ = undef ∧ rs_ = []), (fun (vs207 : Nat → Value) (v_ : Value) (rs_ : List Res) => v_ = (Value.bool true) ∧ rs_ = []), (fun (vs207 : Nat → Value) (v_ : Value) (rs_ : List Res) => v_ = (Value.bool true) ∧ rs_ = []), (fun (vs207 : Nat → Value) (v_ : Value) (rs_ : List Res) => v_ = (Value.bool true) ∧ rs_ = []), (fun (vs207 : Nat → Value) (v_ : Value) (rs_ : List Res) => v_ = (Value.agg #[rl, rs, (Value.int .i64 d.spread), rb]) ∧ rs_ = []), (fun (vs207 : Nat → Value) (v_ : Value) (rs_ : List Res) => v_ = (Value.int .i64 lab) ∧ rs_ = []), (fun (vs207 : Nat → Value) (v_ : Value) (rs_ : List Res) => v_ = (Value.int .i64 ((other).tmod 2001)) ∧ rs_ = []), (fun (vs207 : Nat → Value) (v_ : Value) (rs_ : List Res) => v_ = (Value.bool (decide (lo ≤ ((other).tmod 2001)) && decide (((other).tmod 2001) ≤ hi'))) ∧ rs_ = []), (fun (vs207 : Nat → Value) (v_ : Value) (rs_ : List Res) => v_ = (Value.int .i64 ((other).tmod 2001)) ∧ rs_ = []), (fun (vs207 : Nat → Value) (v_ : Value) (rs_ : List Res) => v_ = (bptr b44 0) ∧ rs_ = []), (fun (vs207 : Nat → Value) (v_ : Value) (rs_ : List Res) => v_ = (Value.int .i64 lo) ∧ rs_ = []), (fun (vs207 : Nat → Value) (v_ : Value) (rs_ : List Res) => v_ = (bptr b44 1) ∧ rs_ = []), (fun (vs207 : Nat → Value) (v_ : Value) (rs_ : List Res) => v_ = (Value.int .i64 hi') ∧ rs_ = [])] (by decide +kernel) (by decide +kernel) rfl rfl ⟨(fun _ _ _ _ _ h_ => h_), (fun _ _ _ _ _ h_ => h_), (fun _ _ _ _ _ h_ => h_), (fun _ _ _ _ _ h_ => h_), (fun _ _ _ _ _ h_ => h_), (fun _ _ _ _ _ h_ => h_), (fun _ _ _ _ _ h_ => h_), (fun _ _ _ _ _ h_ => h_), (fun _ _ _ _ _ h_ => h_), (fun _ _ _ _ _ h_ => h_), (fun _ _ _ _ _ h_ => h_), (fun _ _ _ _ _ h_ => h_), (fun _ _ _ _ _ h_ => h_), (fun _ _ _ _ _ h_ => h_), (fun _ _ _ _ _ h_ => h_), (fun _ _ _ _ _ h_ => h_), (fun _ _ _ _ _ h_ => h_), (fun _ _ _ _ _ h_ => h_), (fun _ _ _ _ _ h_ => h_), (fun _ _ _ _ _ h_ => h_), (fun _ _ _ _ _ h_ => h_), (fun _ _ _ _ _ h_ => h_), (fun _ _ _ _ _ h_ => h_), (fun _ _ _ _ _ h_ => h_), (fun _ _ _ _ _ h_ => h_), (fun _ _ _ _ _ h_ => h_), (fun _ _ _ _ _ h_ => h_), (fun _ _ _ _ _ h_ => h_), (fun _ _ _ _ _ h_ => h_), (fun _ _ _ _ _ h_ => h_), (fun _ _ _ _ _ h_ => h_), (fun _ _ _ _ _ h_ => h_), (fun _ _ _ _ _ h_ => h_), (fun _ _ _ _ _ h_ => h_), (fun _ _ _ _ _ h_ => h_), (fun _ _ _ _ _ h_ => h_), trivial⟩ ?_ ?_
   ·skip
    refine ⟨fun a w vs207 hA hS hd => ?_, ?_⟩
    ·skip
     exact opG_of rfl (vv (op_field rfl fd_46_0 (hA.ev rfl)) (And.intro rfl rfl))
    refine ⟨fun a w vs207 hA hS hd => ?_, ?_⟩
    ·skip
     obtain ⟨e0, rs0, hy0, hp0⟩ := hd 0 (by decide)
     obtain ⟨hv0, hr0⟩ := hy0; subst hr0
     rw [hv0] at e0
     exact opG_of rfl (vv (op_load1 rfl ty_3 (tmp_ev (slot_ev e0 rfl)) (hS.bk 1 rfl) rfl) (And.intro rfl rfl))
    refine ⟨fun a w vs207 hA hS hd => ?_, ?_⟩
    ·skip
     obtain ⟨e1, rs1, hy1, hp1⟩ := hd 1 (by decide)
     obtain ⟨hv1, hr1⟩ := hy1; subst hr1
     rw [hv1] at e1
     exact opG_of rfl (vv (op_eql rfl (tmp_ev (slot_ev e1 rfl)) (evc _ _)) (And.intro (by show Value.bool _ = _; simp only [decide_eq_true hb202, Bool.not_true, Bool.not_false]) rfl))
    refine ⟨fun a w vs207 hA hS hd => ?_, ?_⟩
    ·skip
     obtain ⟨e2, rs2, hy2, hp2⟩ := hd 2 (by decide)
     obtain ⟨hv2, hr2⟩ := hy2; subst hr2
     rw [hv2] at e2
     exact opG_of rfl (vv (op_move rfl (tmp_ev (slot_ev e2 rfl))) (And.intro rfl rfl))
    refine ⟨fun a w vs207 hA hS hd => ?_, ?_⟩
    ·skip
     obtain ⟨e3, rs3, hy3, hp3⟩ := hd 3 (by decide)
     obtain ⟨hv3, hr3⟩ := hy3; subst hr3
     rw [hv3] at e3
     exact opG_no rfl rfl (slot_ev e3 rfl) rfl (vskip (And.intro rfl rfl))
    refine ⟨fun a w vs207 hA hS hd => ?_, ?_⟩
    ·skip
     obtain ⟨e3, rs3, hy3, hp3⟩ := hd 3 (by decide)
     obtain ⟨hv3, hr3⟩ := hy3; subst hr3
     rw [hv3] at e3
     exact opG_no rfl rfl (slot_ev e3 rfl) rfl (vskip (And.intro rfl rfl))
    refine ⟨fun a w vs207 hA hS hd => ?_, ?_⟩
    ·skip
     obtain ⟨e3, rs3, hy3, hp3⟩ := hd 3 (by decide)
     obtain ⟨hv3, hr3⟩ := hy3; subst hr3
     rw [hv3] at e3
     exact opG_no rfl rfl (slot_ev e3 rfl) rfl (vskip (And.intro rfl rfl))
    refine ⟨fun a w vs207 hA hS hd => ?_, ?_⟩
    ·skip
     obtain ⟨e3, rs3, hy3, hp3⟩ := hd 3 (by decide)
     obtain ⟨hv3, hr3⟩ := hy3; subst hr3
     rw [hv3] at e3
     obtain ⟨e6, rs6, hy6, hp6⟩ := hd 6 (by decide)
     obtain ⟨hv6, hr6⟩ := hy6; subst hr6
     rw [hv6] at e6
     exact opG_no rfl rfl (slot_ev e3 rfl) rfl (vskip (And.intro rfl rfl))
    refine ⟨fun a w vs207 hA hS hd => ?_, ?_⟩
    ·skip
     obtain ⟨e3, rs3, hy3, hp3⟩ := hd 3 (by decide)
     obtain ⟨hv3, hr3⟩ := hy3; subst hr3
     rw [hv3] at e3
     obtain ⟨e7, rs7, hy7, hp7⟩ := hd 7 (by decide)
     obtain ⟨hv7, hr7⟩ := hy7; subst hr7
     rw [hv7] at e7
     exact opG_no rfl rfl (slot_ev e3 rfl) rfl (vskip (And.intro rfl rfl))
    refine ⟨fun a w vs207 hA hS hd => ?_, ?_⟩
    ·skip
     obtain ⟨e3, rs3, hy3, hp3⟩ := hd 3 (by decide)
     obtain ⟨hv3, hr3⟩ := hy3; subst hr3
     rw [hv3] at e3
     obtain ⟨e4, rs4, hy4, hp4⟩ := hd 4 (by decide)
     obtain ⟨hv4, hr4⟩ := hy4; subst hr4
     rw [hv4] at e4
     obtain ⟨e5, rs5, hy5, hp5⟩ := hd 5 (by decide)
     obtain ⟨hv5, hr5⟩ := hy5; subst hr5
     rw [hv5] at e5
     obtain ⟨e8, rs8, hy8, hp8⟩ := hd 8 (by decide)
     obtain ⟨hv8, hr8⟩ := hy8; subst hr8
     rw [hv8] at e8
     exact opG_no rfl rfl (slot_ev e3 rfl) rfl (vskip (And.intro rfl rfl))
    refine ⟨fun a w vs207 hA hS hd => ?_, ?_⟩
    ·skip
     obtain ⟨e3, rs3, hy3, hp3⟩ := hd 3 (by decide)
     obtain ⟨hv3, hr3⟩ := hy3; subst hr3
     rw [hv3] at e3
     obtain ⟨e9, rs9, hy9, hp9⟩ := hd 9 (by decide)
     obtain ⟨hv9, hr9⟩ := hy9; subst hr9
     rw [hv9] at e9
     exact opG_no rfl rfl (slot_ev e3 rfl) rfl (vskip (And.intro rfl rfl))
    refine ⟨fun a w vs207 hA hS hd => ?_, ?_⟩
    ·skip
     obtain ⟨e3, rs3, hy3, hp3⟩ := hd 3 (by decide)
     obtain ⟨hv3, hr3⟩ := hy3; subst hr3
     rw [hv3] at e3
     obtain ⟨e10, rs10, hy10, hp10⟩ := hd 10 (by decide)
     obtain ⟨hv10, hr10⟩ := hy10; subst hr10
     rw [hv10] at e10
     exact opG_of rfl (vv (op_pick_t rfl (tmp_ev (slot_ev e3 rfl)) (evc _ _)) (And.intro rfl rfl))
    refine ⟨fun a w vs207 hA hS hd => ?_, ?_⟩
    ·skip
     obtain ⟨e11, rs11, hy11, hp11⟩ := hd 11 (by decide)
     obtain ⟨hv11, hr11⟩ := hy11; subst hr11
     rw [hv11] at e11
     exact opG_of rfl (vv (op_move rfl (tmp_ev (slot_ev e11 rfl))) (And.intro rfl rfl))
    refine ⟨fun a w vs207 hA hS hd => ?_, ?_⟩
    ·skip
     obtain ⟨e12, rs12, hy12, hp12⟩ := hd 12 (by decide)
     obtain ⟨hv12, hr12⟩ := hy12; subst hr12
     rw [hv12] at e12
     exact opG_yes rfl rfl (slot_ev e12 rfl) (vv (op_field rfl fd_46_1 (hA.ev rfl)) (And.intro rfl rfl))
    refine ⟨fun a w vs207 hA hS hd => ?_, ?_⟩
    ·skip
     obtain ⟨e12, rs12, hy12, hp12⟩ := hd 12 (by decide)
     obtain ⟨hv12, hr12⟩ := hy12; subst hr12
     rw [hv12] at e12
     obtain ⟨e13, rs13, hy13, hp13⟩ := hd 13 (by decide)
     obtain ⟨hv13, hr13⟩ := hy13; subst hr13
     rw [hv13] at e13
     exact opG_yes rfl rfl (slot_ev e12 rfl) (vv (op_load1 rfl ty_3 (tmp_ev (slot_ev e13 rfl)) (hS.bk 1 rfl) rfl) (And.intro rfl rfl))
    refine ⟨fun a w vs207 hA hS hd => ?_, ?_⟩
    ·skip
     obtain ⟨e12, rs12, hy12, hp12⟩ := hd 12 (by decide)
     obtain ⟨hv12, hr12⟩ := hy12; subst hr12
     rw [hv12] at e12
     obtain ⟨e14, rs14, hy14, hp14⟩ := hd 14 (by decide)
     obtain ⟨hv14, hr14⟩ := hy14; subst hr14
     rw [hv14] at e14
     exact opG_yes rfl rfl (slot_ev e12 rfl) (vv (op_eql rfl (tmp_ev (slot_ev e14 rfl)) (evc _ _)) (And.intro (by show Value.bool _ = _; simp only [decide_eq_true hb205, Bool.not_true, Bool.not_false]) rfl))
    refine ⟨fun a w vs207 hA hS hd => ?_, ?_⟩
    ·skip
     obtain ⟨e12, rs12, hy12, hp12⟩ := hd 12 (by decide)
     obtain ⟨hv12, hr12⟩ := hy12; subst hr12
     rw [hv12] at e12
     obtain ⟨e15, rs15, hy15, hp15⟩ := hd 15 (by decide)
     obtain ⟨hv15, hr15⟩ := hy15; subst hr15
     rw [hv15] at e15
     exact opG_yes rfl rfl (slot_ev e12 rfl) (vv (op_move rfl (tmp_ev (slot_ev e15 rfl))) (And.intro rfl rfl))
    refine ⟨fun a w vs207 hA hS hd => ?_, ?_⟩
    ·skip
     obtain ⟨e16, rs16, hy16, hp16⟩ := hd 16 (by decide)
     obtain ⟨hv16, hr16⟩ := hy16; subst hr16
     rw [hv16] at e16
     exact opG_no rfl rfl (slot_ev e16 rfl) rfl (vskip (And.intro rfl rfl))
    refine ⟨fun a w vs207 hA hS hd => ?_, ?_⟩
    ·skip
     obtain ⟨e16, rs16, hy16, hp16⟩ := hd 16 (by decide)
     obtain ⟨hv16, hr16⟩ := hy16; subst hr16
     rw [hv16] at e16
     exact opG_no rfl rfl (slot_ev e16 rfl) rfl (vskip (And.intro rfl rfl))
    refine ⟨fun a w vs207 hA hS hd => ?_, ?_⟩
    ·skip
     obtain ⟨e16, rs16, hy16, hp16⟩ := hd 16 (by decide)
     obtain ⟨hv16, hr16⟩ := hy16; subst hr16
     rw [hv16] at e16
     exact opG_no rfl rfl (slot_ev e16 rfl) rfl (vskip (And.intro rfl rfl))
    refine ⟨fun a w vs207 hA hS hd => ?_, ?_⟩
    ·skip
     obtain ⟨e16, rs16, hy16, hp16⟩ := hd 16 (by decide)
     obtain ⟨hv16, hr16⟩ := hy16; subst hr16
     rw [hv16] at e16
     obtain ⟨e19, rs19, hy19, hp19⟩ := hd 19 (by decide)
     obtain ⟨hv19, hr19⟩ := hy19; subst hr19
     rw [hv19] at e19
     exact opG_no rfl rfl (slot_ev e16 rfl) rfl (vskip (And.intro rfl rfl))
    refine ⟨fun a w vs207 hA hS hd => ?_, ?_⟩
    ·skip
     obtain ⟨e16, rs16, hy16, hp16⟩ := hd 16 (by decide)
     obtain ⟨hv16, hr16⟩ := hy16; subst hr16
     rw [hv16] at e16
     obtain ⟨e20, rs20, hy20, hp20⟩ := hd 20 (by decide)
     obtain ⟨hv20, hr20⟩ := hy20; subst hr20
     rw [hv20] at e20
     exact opG_no rfl rfl (slot_ev e16 rfl) rfl (vskip (And.intro rfl rfl))
    refine ⟨fun a w vs207 hA hS hd => ?_, ?_⟩
    ·skip
     obtain ⟨e16, rs16, hy16, hp16⟩ := hd 16 (by decide)
     obtain ⟨hv16, hr16⟩ := hy16; subst hr16
     rw [hv16] at e16
     obtain ⟨e17, rs17, hy17, hp17⟩ := hd 17 (by decide)
     obtain ⟨hv17, hr17⟩ := hy17; subst hr17
     rw [hv17] at e17
     obtain ⟨e18, rs18, hy18, hp18⟩ := hd 18 (by decide)
     obtain ⟨hv18, hr18⟩ := hy18; subst hr18
     rw [hv18] at e18
     obtain ⟨e21, rs21, hy21, hp21⟩ := hd 21 (by decide)
     obtain ⟨hv21, hr21⟩ := hy21; subst hr21
     rw [hv21] at e21
     exact opG_no rfl rfl (slot_ev e16 rfl) rfl (vskip (And.intro rfl rfl))
    refine ⟨fun a w vs207 hA hS hd => ?_, ?_⟩
    ·skip
     obtain ⟨e16, rs16, hy16, hp16⟩ := hd 16 (by decide)
     obtain ⟨hv16, hr16⟩ := hy16; subst hr16
     rw [hv16] at e16
     obtain ⟨e22, rs22, hy22, hp22⟩ := hd 22 (by decide)
     obtain ⟨hv22, hr22⟩ := hy22; subst hr22
     rw [hv22] at e22
     exact opG_no rfl rfl (slot_ev e16 rfl) rfl (vskip (And.intro rfl rfl))
    refine ⟨fun a w vs207 hA hS hd => ?_, ?_⟩
    ·skip
     obtain ⟨e12, rs12, hy12, hp12⟩ := hd 12 (by decide)
     obtain ⟨hv12, hr12⟩ := hy12; subst hr12
     rw [hv12] at e12
     obtain ⟨e16, rs16, hy16, hp16⟩ := hd 16 (by decide)
     obtain ⟨hv16, hr16⟩ := hy16; subst hr16
     rw [hv16] at e16
     obtain ⟨e23, rs23, hy23, hp23⟩ := hd 23 (by decide)
     obtain ⟨hv23, hr23⟩ := hy23; subst hr23
     rw [hv23] at e23
     exact opG_yes rfl rfl (slot_ev e12 rfl) (vv (op_pick_t rfl (tmp_ev (slot_ev e16 rfl)) (evc _ _)) (And.intro rfl rfl))
    refine ⟨fun a w vs207 hA hS hd => ?_, ?_⟩
    ·skip
     obtain ⟨e12, rs12, hy12, hp12⟩ := hd 12 (by decide)
     obtain ⟨hv12, hr12⟩ := hy12; subst hr12
     rw [hv12] at e12
     obtain ⟨e24, rs24, hy24, hp24⟩ := hd 24 (by decide)
     obtain ⟨hv24, hr24⟩ := hy24; subst hr24
     rw [hv24] at e24
     exact opG_of rfl (vv (op_pick_t rfl (tmp_ev (slot_ev e12 rfl)) (tmp_ev (slot_ev e24 rfl))) (And.intro rfl rfl))
    refine ⟨fun a w vs207 hA hS hd => ?_, ?_⟩
    ·skip
     obtain ⟨e25, rs25, hy25, hp25⟩ := hd 25 (by decide)
     obtain ⟨hv25, hr25⟩ := hy25; subst hr25
     rw [hv25] at e25
     exact opG_of rfl (vv (op_move rfl (tmp_ev (slot_ev e25 rfl))) (And.intro rfl rfl))
    refine ⟨fun a w vs207 hA hS hd => ?_, ?_⟩
    ·skip
     obtain ⟨e26, rs26, hy26, hp26⟩ := hd 26 (by decide)
     obtain ⟨hv26, hr26⟩ := hy26; subst hr26
     rw [hv26] at e26
     exact opG_yes rfl rfl (slot_ev e26 rfl) (vv (op_loadA rfl ty_26 (hA.ev rfl) (hS.bk 3 rfl) (l := [rl, rs, (Value.int .i64 d.spread), rb]) rfl rfl) (And.intro rfl rfl))
    refine ⟨fun a w vs207 hA hS hd => ?_, ?_⟩
    ·skip
     obtain ⟨e26, rs26, hy26, hp26⟩ := hd 26 (by decide)
     obtain ⟨hv26, hr26⟩ := hy26; subst hr26
     rw [hv26] at e26
     exact opG_yes rfl rfl (slot_ev e26 rfl) (vv (op_move rfl (hA.ev rfl)) (And.intro rfl rfl))
    refine ⟨fun a w vs207 hA hS hd => ?_, ?_⟩
    ·skip
     obtain ⟨e26, rs26, hy26, hp26⟩ := hd 26 (by decide)
     obtain ⟨hv26, hr26⟩ := hy26; subst hr26
     rw [hv26] at e26
     exact opG_yes rfl rfl (slot_ev e26 rfl) (vv (op_move rfl (hA.ev rfl)) (And.intro rfl rfl))
    refine ⟨fun a w vs207 hA hS hd => ?_, ?_⟩
    ·skip
     obtain ⟨e26, rs26, hy26, hp26⟩ := hd 26 (by decide)
     obtain ⟨hv26, hr26⟩ := hy26; subst hr26
     rw [hv26] at e26
     obtain ⟨e27, rs27, hy27, hp27⟩ := hd 27 (by decide)
     obtain ⟨hv27, hr27⟩ := hy27; subst hr27
     rw [hv27] at e27
     obtain ⟨e28, rs28, hy28, hp28⟩ := hd 28 (by decide)
     obtain ⟨hv28, hr28⟩ := hy28; subst hr28
     rw [hv28] at e28
     obtain ⟨e29, rs29, hy29, hp29⟩ := hd 29 (by decide)
     obtain ⟨hv29, hr29⟩ := hy29; subst hr29
     rw [hv29] at e29
     exact opG_yes rfl rfl (slot_ev e26 rfl) (vx (op_call rfl en_34 (ev3 (tmp_ev (slot_ev e27 rfl)) (tmp_ev (slot_ev e28 rfl)) (tmp_ev (slot_ev e29 rfl))) (by have h := (Errs_ok rl rs rb rlv d _ (rnd_at (hS.ok 4 _ rfl)) lab ((other).tmod 2001) hV (by omega)); rw [((refOk_errs hV).trans (hn _ (by omega) (by omega)))] at h; exact h)) (And.intro rfl rfl))
    refine ⟨fun a w vs207 hA hS hd => ?_, ?_⟩
    ·skip
     obtain ⟨e26, rs26, hy26, hp26⟩ := hd 26 (by decide)
     obtain ⟨hv26, hr26⟩ := hy26; subst hr26
     rw [hv26] at e26
     exact opG_yes rfl rfl (slot_ev e26 rfl) (vv (op_move rfl (hA.ev rfl)) (And.intro rfl rfl))
    refine ⟨fun a w vs207 hA hS hd => ?_, ?_⟩
    ·skip
     obtain ⟨e26, rs26, hy26, hp26⟩ := hd 26 (by decide)
     obtain ⟨hv26, hr26⟩ := hy26; subst hr26
     rw [hv26] at e26
     exact opG_yes rfl rfl (slot_ev e26 rfl) (vv (op_field rfl fd_46_0 (hA.ev rfl)) (And.intro rfl rfl))
    refine ⟨fun a w vs207 hA hS hd => ?_, ?_⟩
    ·skip
     obtain ⟨e26, rs26, hy26, hp26⟩ := hd 26 (by decide)
     obtain ⟨hv26, hr26⟩ := hy26; subst hr26
     rw [hv26] at e26
     obtain ⟨e32, rs32, hy32, hp32⟩ := hd 32 (by decide)
     obtain ⟨hv32, hr32⟩ := hy32; subst hr32
     rw [hv32] at e32
     exact opG_yes rfl rfl (slot_ev e26 rfl) (vv (op_load1 rfl ty_3 (tmp_ev (slot_ev e32 rfl)) (hS.bk 1 rfl) rfl) (And.intro rfl rfl))
    refine ⟨fun a w vs207 hA hS hd => ?_, ?_⟩
    ·skip
     obtain ⟨e26, rs26, hy26, hp26⟩ := hd 26 (by decide)
     obtain ⟨hv26, hr26⟩ := hy26; subst hr26
     rw [hv26] at e26
     exact opG_yes rfl rfl (slot_ev e26 rfl) (vv (op_field rfl fd_46_1 (hA.ev rfl)) (And.intro rfl rfl))
    refine ⟨fun a w vs207 hA hS hd => ?_, ?_⟩
    ·skip
     obtain ⟨e26, rs26, hy26, hp26⟩ := hd 26 (by decide)
     obtain ⟨hv26, hr26⟩ := hy26; subst hr26
     rw [hv26] at e26
     obtain ⟨e34, rs34, hy34, hp34⟩ := hd 34 (by decide)
     obtain ⟨hv34, hr34⟩ := hy34; subst hr34
     rw [hv34] at e34
     exact opG_yes rfl rfl (slot_ev e26 rfl) (vv (op_load1 rfl ty_3 (tmp_ev (slot_ev e34 rfl)) (hS.bk 1 rfl) rfl) (And.intro rfl rfl))
    trivial
   intro a208 w209 vs207 rsf213 hA210 hH212 hS211; clear hA206 hS194
   obtain ⟨hs_0, hy_0⟩ := hH212 0 (by decide)
   obtain ⟨hv_0, hr_0⟩ := hy_0
   obtain ⟨hs_1, hy_1⟩ := hH212 1 (by decide)
   obtain ⟨hv_1, hr_1⟩ := hy_1
   obtain ⟨hs_2, hy_2⟩ := hH212 2 (by decide)
   obtain ⟨hv_2, hr_2⟩ := hy_2
   obtain ⟨hs_3, hy_3⟩ := hH212 3 (by decide)
   obtain ⟨hv_3, hr_3⟩ := hy_3
   obtain ⟨hs_4, hy_4⟩ := hH212 4 (by decide)
   obtain ⟨hv_4, hr_4⟩ := hy_4
   obtain ⟨hs_5, hy_5⟩ := hH212 5 (by decide)
   obtain ⟨hv_5, hr_5⟩ := hy_5
   obtain ⟨hs_6, hy_6⟩ := hH212 6 (by decide)
   obtain ⟨hv_6, hr_6⟩ := hy_6
   obtain ⟨hs_7, hy_7⟩ := hH212 7 (by decide)
   obtain ⟨hv_7, hr_7⟩ := hy_7
   obtain ⟨hs_8, hy_8⟩ := hH212 8 (by decide)
   obtain ⟨hv_8, hr_8⟩ := hy_8
   obtain ⟨hs_9, hy_9⟩ := hH212 9 (by decide)
   obtain ⟨hv_9, hr_9⟩ := hy_9
   obtain ⟨hs_10, hy_10⟩ := hH212 10 (by decide)
   obtain ⟨hv_10, hr_10⟩ := hy_10
   obtain ⟨hs_11, hy_11⟩ := hH212 11 (by decide)
   obtain ⟨hv_11, hr_11⟩ := hy_11
   obtain ⟨hs_12, hy_12⟩ := hH212 12 (by decide)
   obtain ⟨hv_12, hr_12⟩ := hy_12
   obtain ⟨hs_13, hy_13⟩ := hH212 13 (by decide)
   obtain ⟨hv_13, hr_13⟩ := hy_13
   obtain ⟨hs_14, hy_14⟩ := hH212 14 (by decide)
   obtain ⟨hv_14, hr_14⟩ := hy_14
   obtain ⟨hs_15, hy_15⟩ := hH212 15 (by decide)
   obtain ⟨hv_15, hr_15⟩ := hy_15
   obtain ⟨hs_16, hy_16⟩ := hH212 16 (by decide)
   obtain ⟨hv_16, hr_16⟩ := hy_16
   obtain ⟨hs_17, hy_17⟩ := hH212 17 (by decide)
   obtain ⟨hv_17, hr_17⟩ := hy_17
   obtain ⟨hs_18, hy_18⟩ := hH212 18 (by decide)
   obtain ⟨hv_18, hr_18⟩ := hy_18
   obtain ⟨hs_19, hy_19⟩ := hH212 19 (by decide)
   obtain ⟨hv_19, hr_19⟩ := hy_19
   obtain ⟨hs_20, hy_20⟩ := hH212 20 (by decide)
   obtain ⟨hv_20, hr_20⟩ := hy_20
   obtain ⟨hs_21, hy_21⟩ := hH212 21 (by decide)
   obtain ⟨hv_21, hr_21⟩ := hy_21
   obtain ⟨hs_22, hy_22⟩ := hH212 22 (by decide)
   obtain ⟨hv_22, hr_22⟩ := hy_22
   obtain ⟨hs_23, hy_23⟩ := hH212 23 (by decide)
   obtain ⟨hv_23, hr_23⟩ := hy_23
   obtain ⟨hs_24, hy_24⟩ := hH212 24 (by decide)
   obtain ⟨hv_24, hr_24⟩ := hy_24
   obtain ⟨hs_25, hy_25⟩ := hH212 25 (by decide)
   obtain ⟨hv_25, hr_25⟩ := hy_25
   obtain ⟨hs_26, hy_26⟩ := hH212 26 (by decide)
   obtain ⟨hv_26, hr_26⟩ := hy_26
   obtain ⟨hs_27, hy_27⟩ := hH212 27 (by decide)
   obtain ⟨hv_27, hr_27⟩ := hy_27
   obtain ⟨hs_28, hy_28⟩ := hH212 28 (by decide)
   obtain ⟨hv_28, hr_28⟩ := hy_28
   obtain ⟨hs_29, hy_29⟩ := hH212 29 (by decide)
   obtain ⟨hv_29, hr_29⟩ := hy_29
   obtain ⟨hs_30, hy_30⟩ := hH212 30 (by decide)
   obtain ⟨hv_30, hr_30⟩ := hy_30
   obtain ⟨hs_31, hy_31⟩ := hH212 31 (by decide)
   obtain ⟨hv_31, hr_31⟩ := hy_31
   obtain ⟨hs_32, hy_32⟩ := hH212 32 (by decide)
   obtain ⟨hv_32, hr_32⟩ := hy_32
   obtain ⟨hs_33, hy_33⟩ := hH212 33 (by decide)
   obtain ⟨hv_33, hr_33⟩ := hy_33
   obtain ⟨hs_34, hy_34⟩ := hH212 34 (by decide)
   obtain ⟨hv_34, hr_34⟩ := hy_34
   obtain ⟨hs_35, hy_35⟩ := hH212 35 (by decide)
   obtain ⟨hv_35, hr_35⟩ := hy_35
   have hS214 : Sep NoB w w209 [(blk b101 3 [(Value.int .i64 lab)]), (blk b44 46 [(Value.int .i64 lo), (Value.int .i64 hi')]), (rndR true vl22 vs23 vb24 lv25 d), (blk b4 26 [rl, rs, (Value.int .i64 d.spread), rb]), (rndR false rl rs rb rlv d)] := by rw [show catR rsf213 0 36 = ([] : List Res) by (try simp only [catR, hr_0, hr_1, hr_2, hr_3, hr_4, hr_5, hr_6, hr_7, hr_8, hr_9, hr_10, hr_11, hr_12, hr_13, hr_14, hr_15, hr_16, hr_17, hr_18, hr_19, hr_20, hr_21, hr_22, hr_23, hr_24, hr_25, hr_26, hr_27, hr_28, hr_29, hr_30, hr_31, hr_32, hr_33, hr_34, hr_35]); (try rfl)] at hS211; exact hS211
   rw [hv_26] at hs_26
   have hA215 : Fr 157 [] [(141, (Value.bool true)), (10, (Value.int .i64 ((other).tmod 2001))), (7, (bptr b44 0)), (3, (bptr b4 0)), (1, (Value.int .i64 lab))] a208 := hA210.add (slot_ev hs_26 rfl); clear hA210
   rw [hv_30] at hs_30
   have hA216 : Fr 157 [] [(145, (Value.bool (decide (lo ≤ ((other).tmod 2001)) && decide (((other).tmod 2001) ≤ hi')))), (141, (Value.bool true)), (10, (Value.int .i64 ((other).tmod 2001))), (7, (bptr b44 0)), (3, (bptr b4 0)), (1, (Value.int .i64 lab))] a208 := hA215.add (slot_ev hs_30 rfl); clear hA215
   rw [hv_31] at hs_31
   have hA217 : Fr 157 [] [(146, (Value.int .i64 ((other).tmod 2001))), (145, (Value.bool (decide (lo ≤ ((other).tmod 2001)) && decide (((other).tmod 2001) ≤ hi')))), (141, (Value.bool true)), (10, (Value.int .i64 ((other).tmod 2001))), (7, (bptr b44 0)), (3, (bptr b4 0)), (1, (Value.int .i64 lab))] a208 := hA216.add (slot_ev hs_31 rfl); clear hA216
   rw [hv_33] at hs_33
   have hA218 : Fr 157 [] [(148, (Value.int .i64 lo)), (146, (Value.int .i64 ((other).tmod 2001))), (145, (Value.bool (decide (lo ≤ ((other).tmod 2001)) && decide (((other).tmod 2001) ≤ hi')))), (141, (Value.bool true)), (10, (Value.int .i64 ((other).tmod 2001))), (7, (bptr b44 0)), (3, (bptr b4 0)), (1, (Value.int .i64 lab))] a208 := hA217.add (slot_ev hs_33 rfl); clear hA217
   rw [hv_35] at hs_35
   have hA219 : Fr 157 [] [(150, (Value.int .i64 hi')), (148, (Value.int .i64 lo)), (146, (Value.int .i64 ((other).tmod 2001))), (145, (Value.bool (decide (lo ≤ ((other).tmod 2001)) && decide (((other).tmod 2001) ≤ hi')))), (141, (Value.bool true)), (10, (Value.int .i64 ((other).tmod 2001))), (7, (bptr b44 0)), (3, (bptr b4 0)), (1, (Value.int .i64 lab))] a208 := hA218.add (slot_ev hs_35 rfl); clear hA218
   clear hH212 hS211 hs_0 hs_1 hs_2 hs_3 hs_4 hs_5 hs_6 hs_7 hs_8 hs_9 hs_10 hs_11 hs_12 hs_13 hs_14 hs_15 hs_16 hs_17 hs_18 hs_19 hs_20 hs_21 hs_22 hs_23 hs_24 hs_25 hs_26 hs_27 hs_28 hs_29 hs_30 hs_31 hs_32 hs_33 hs_34 hs_35
   clear hr_0
   clear hv_0
   clear hr_1
   clear hv_1
   clear hr_2
   clear hv_2
   clear hr_3
   clear hv_3
   clear hr_4
   clear hv_4
   clear hr_5
   clear hv_5
   clear hr_6
   clear hv_6
   clear hr_7
   clear hv_7
   clear hr_8
   clear hv_8
   clear hr_9
   clear hv_9
   clear hr_10
   clear hv_10
   clear hr_11
   clear hv_11
   clear hr_12
   clear hv_12
   clear hr_13
   clear hv_13
   clear hr_14
   clear hv_14
   clear hr_15
   clear hv_15
   clear hr_16
   clear hv_16
   clear hr_17
   clear hv_17
   clear hr_18
   clear hv_18
   clear hr_19
   clear hv_19
   clear hr_20
   clear hv_20
   clear hr_21
   clear hv_21
   clear hr_22
   clear hv_22
   clear hr_23
   clear hv_23
   clear hr_24
   clear hv_24
   clear hr_25
   clear hv_25
   clear hr_26
   clear hv_26
   clear hr_27
   clear hv_27
   clear hr_28
   clear hv_28
   clear hr_29
   clear hv_29
   clear hr_30
   clear hv_30
   clear hr_31
   clear hv_31
   clear hr_32
   clear hv_32
   clear hr_33
   clear hv_33
   clear hr_34
   clear hv_34
   clear hr_35
   clear hv_35
   refine stwg hA219 (op_call rfl en_33 (ev3 (hA219.ev rfl) (hA219.ev rfl) (hA219.ev rfl)) (In_ok _ _ _ _)) rfl rfl rfl rfl (by decide) ?_
   rintro a220 _ _ ⟨rfl, rfl⟩ hA221; clear hA219 a208
   refine stg hA221 (op_eqlB un_4 rfl (hA221.ev rfl) (hA221.ev rfl)) rfl rfl rfl rfl (by decide) fun a223 hA224 => ?_; clear hA221 a220
   refine st hA224 (op_pick_t rfl (hA224.ev rfl) (hA224.ev rfl)) rfl rfl (by decide) fun a225 hA226 => ?_; clear hA224 a223
   refine st hA226 (op_move rfl (hA226.ev rfl)) rfl rfl (by decide) fun a227 hA228 => ?_; clear hA226 a225
   rcases Bool.eq_false_or_eq_true ((decide (lo ≤ ((other).tmod 2001)) && decide (((other).tmod 2001) ≤ hi'))) with hb229 | hb229
   ·skip
    rw [hb229] at hA228
    have hq230 := hb229; simp only [Bool.and_eq_true, Bool.and_eq_false_iff, decide_eq_true_eq, decide_eq_false_iff_not] at hq230
    refine stwg hA228 (op_call rfl en_18 ev0 (wakes_ok _)) rfl rfl rfl rfl (by decide) ?_
    rintro a231 _ w233 ⟨rfl, hE234⟩ hA232; have hS235 := hS214.step hE234; clear hE234 hA228 hS214 a227
    refine st hA232 (op_pick_t rfl (hA232.ev rfl) (hA232.ev rfl)) rfl rfl (by decide) fun a236 hA237 => ?_; clear hA232 a231
    refine st hA237 (op_assign rfl (hA237.ev rfl)) rfl rfl (by decide) fun a238 hA239 => ?_; clear hA237 a236
    refine wl_nil ?_
    refine then_n ?_
    refine c_ret ?_
    refine fin_run hA239 (.inl rfl) (run_results1 hA239 rfl (.tmp rfl)) ?_
    exact ⟨rfl, hS235.ext⟩
   ·skip
    rw [hb229] at hA228
    have hq240 := hb229; simp only [Bool.and_eq_true, Bool.and_eq_false_iff, decide_eq_true_eq, decide_eq_false_iff_not] at hq240
    refine stwg hA228 (op_call rfl en_18 ev0 (wakes_ok _)) rfl rfl rfl rfl (by decide) ?_
    rintro a241 _ w243 ⟨rfl, hE244⟩ hA242; have hS245 := hS214.step hE244; clear hE244 hA228 hS214 a227
    refine st hA242 (op_pick_t rfl (hA242.ev rfl) (hA242.ev rfl)) rfl rfl (by decide) fun a246 hA247 => ?_; clear hA242 a241
    refine st hA247 (op_assign rfl (hA247.ev rfl)) rfl rfl (by decide) fun a248 hA249 => ?_; clear hA247 a246
    refine wl_nil ?_
    refine then_n ?_
    refine c_ret ?_
    refine fin_run hA249 (.inl rfl) (run_results1 hA249 rfl (.tmp rfl)) ?_
    exact ⟨rfl, hS245.ext⟩
  ·skip
   have hA250 := hA203.as [(10, (Value.int .i64 ((other).tmod 2001))), (7, (bptr b44 0)), (3, (bptr b4 0)), (1, (Value.int .i64 lab))] rfl; clear hA203
   refine c_drawV mixed hA250 hS194 36 [[], [0], [1], [2], [3], [3], [3], [3, 6], [3, 7], [3, 4, 5, 8], [3, 9], [3, 10], [11], [12], [12, 13], [12, 14], [12, 15], [16], [16], [16], [16, 19], [16, 20], [16, 17, 18, 21], [16, 22], [12, 16, 23], [12, 24], [25], [26], [26], [26], [26, 27, 28, 29], [26], [26], [26, 32], [26], [26, 34]] [(fun (vs251 : Nat → Value) (v_ : Value) (rs_ : List Res) => v_ = (bptr b44 0) ∧ rs_ = []), (fun (vs251 : Nat → Value) (v_ : Value) (rs_ : List Res) => v_ = (Value.int .i64 lo) ∧ rs_ = []), (fun (vs251 : Nat → Value) (v_ : Value) (rs_ : List Res) => v_ = (Value.bool true) ∧ rs_ = []), (fun (vs251 : Nat → Value) (v_ : Value) (rs_ : List Res) => v_ = (Value.bool true) ∧ rs_ = []), (fun (vs251 : Nat → Value) (v_ : Value) (rs_ : List Res) => v_ = undef ∧ rs_ = []), (fun (vs251 : Nat → Value) (v_ : Value) (rs_ : List Res) => v_ = undef ∧ rs_ = []), (fun (vs251 : Nat → Value) (v_ : Value) (rs_ : List Res) => v_ = undef ∧ rs_ = []), (fun (vs251 : Nat → Value) (v_ : Value) (rs_ : List Res) => v_ = undef ∧ rs_ = []), (fun (vs251 : Nat → Value) (v_ : Value) (rs_ : List Res) => v_ = undef ∧ rs_ = []), (fun (vs251 : Nat → Value) (v_ : Value) (rs_ : List Res) => v_ = undef ∧ rs_ = []), (fun (vs251 : Nat → Value) (v_ : Value) (rs_ : List Res) => v_ = undef ∧ rs_ = []), (fun (vs251 : Nat → Value) (v_ : Value) (rs_ : List Res) => v_ = (Value.bool true) ∧ rs_ = []), (fun (vs251 : Nat → Value) (v_ : Value) (rs_ : List Res) => v_ = (Value.bool true) ∧ rs_ = []), (fun (vs251 : Nat → Value) (v_ : Value) (rs_ : List Res) => v_ = (bptr b44 1) ∧ rs_ = []), (fun (vs251 : Nat → Value) (v_ : Value) (rs_ : List Res) => v_ = (Value.int .i64 hi') ∧ rs_ = []), (fun (vs251 : Nat → Value) (v_ : Value) (rs_ : List Res) => v_ = (Value.bool false) ∧ rs_ = []), (fun (vs251 : Nat → Value) (v_ : Value) (rs_ : List Res) => v_ = (Value.bool false) ∧ rs_ = []), (fun (vs251 : Nat → Value) (v_ : Value) (rs_ : List Res) => v_ = (Value.agg #[rl, rs, (Value.int .i64 d.spread), rb]) ∧ rs_ = []), (fun (vs251 : Nat → Value) (v_ : Value) (rs_ : List Res) => v_ = (Value.int .i64 lab) ∧ rs_ = []), (fun (vs251 : Nat → Value) (v_ : Value) (rs_ : List Res) => v_ = (bptr b44 1) ∧ rs_ = []), (fun (vs251 : Nat → Value) (v_ : Value) (rs_ : List Res) => v_ = (Value.int .i64 hi') ∧ rs_ = []), (fun (vs251 : Nat → Value) (v_ : Value) (rs_ : List Res) => v_ = (Value.int .i64 (hi' + 1)) ∧ rs_ = []), (fun (vs251 : Nat → Value) (v_ : Value) (rs_ : List Res) => v_ = (Value.bool false) ∧ rs_ = []), (fun (vs251 : Nat → Value) (v_ : Value) (rs_ : List Res) => v_ = (Value.bool (!false)) ∧ rs_ = []), (fun (vs251 : Nat → Value) (v_ : Value) (rs_ : List Res) => v_ = (Value.bool (!false)) ∧ rs_ = []), (fun (vs251 : Nat → Value) (v_ : Value) (rs_ : List Res) => v_ = (Value.bool (!false)) ∧ rs_ = []), (fun (vs251 : Nat → Value) (v_ : Value) (rs_ : List Res) => v_ = (Value.bool (!false)) ∧ rs_ = []), (fun (vs251 : Nat → Value) (v_ : Value) (rs_ : List Res) => v_ = (Value.agg #[rl, rs, (Value.int .i64 d.spread), rb]) ∧ rs_ = []), (fun (vs251 : Nat → Value) (v_ : Value) (rs_ : List Res) => v_ = (Value.int .i64 lab) ∧ rs_ = []), (fun (vs251 : Nat → Value) (v_ : Value) (rs_ : List Res) => v_ = (Value.int .i64 ((other).tmod 2001)) ∧ rs_ = []), (fun (vs251 : Nat → Value) (v_ : Value) (rs_ : List Res) => v_ = (Value.bool (decide (lo ≤ ((other).tmod 2001)) && decide (((other).tmod 2001) ≤ hi'))) ∧ rs_ = []), (fun (vs251 : Nat → Value) (v_ : Value) (rs_ : List Res) => v_ = (Value.int .i64 ((other).tmod 2001)) ∧ rs_ = []), (fun (vs251 : Nat → Value) (v_ : Value) (rs_ : List Res) => v_ = (bptr b44 0) ∧ rs_ = []), (fun (vs251 : Nat → Value) (v_ : Value) (rs_ : List Res) => v_ = (Value.int .i64 lo) ∧ rs_ = []), (fun (vs251 : Nat → Value) (v_ : Value) (rs_ : List Res) => v_ = (bptr b44 1) ∧ rs_ = []), (fun (vs251 : Nat → Value) (v_ : Value) (rs_ : List Res) => v_ = (Value.int .i64 hi') ∧ rs_ = [])] (by decide +kernel) (by decide +kernel) rfl rfl ⟨(fun _ _ _ _ _ h_ => h_), (fun _ _ _ _ _ h_ => h_), (fun _ _ _ _ _ h_ => h_), (fun _ _ _ _ _ h_ => h_), (fun _ _ _ _ _ h_ => h_), (fun _ _ _ _ _ h_ => h_), (fun _ _ _ _ _ h_ => h_), (fun _ _ _ _ _ h_ => h_), (fun _ _ _ _ _ h_ => h_), (fun _ _ _ _ _ h_ => h_), (fun _ _ _ _ _ h_ => h_), (fun _ _ _ _ _ h_ => h_), (fun _ _ _ _ _ h_ => h_), (fun _ _ _ _ _ h_ => h_), (fun _ _ _ _ _ h_ => h_), (fun _ _ _ _ _ h_ => h_), (fun _ _ _ _ _ h_ => h_), (fun _ _ _ _ _ h_ => h_), (fun _ _ _ _ _ h_ => h_), (fun _ _ _ _ _ h_ => h_), (fun _ _ _ _ _ h_ => h_), (fun _ _ _ _ _ h_ => h_), (fun _ _ _ _ _ h_ => h_), (fun _ _ _ _ _ h_ => h_), (fun _ _ _ _ _ h_ => h_), (fun _ _ _ _ _ h_ => h_), (fun _ _ _ _ _ h_ => h_), (fun _ _ _ _ _ h_ => h_), (fun _ _ _ _ _ h_ => h_), (fun _ _ _ _ _ h_ => h_), (fun _ _ _ _ _ h_ => h_), (fun _ _ _ _ _ h_ => h_), (fun _ _ _ _ _ h_ => h_), (fun _ _ _ _ _ h_ => h_), (fun _ _ _ _ _ h_ => h_), (fun _ _ _ _ _ h_ => h_), trivial⟩ ?_ ?_
   ·skip
    refine ⟨fun a w vs251 hA hS hd => ?_, ?_⟩
    ·skip
     exact opG_of rfl (vv (op_field rfl fd_46_0 (hA.ev rfl)) (And.intro rfl rfl))
    refine ⟨fun a w vs251 hA hS hd => ?_, ?_⟩
    ·skip
     obtain ⟨e0, rs0, hy0, hp0⟩ := hd 0 (by decide)
     obtain ⟨hv0, hr0⟩ := hy0; subst hr0
     rw [hv0] at e0
     exact opG_of rfl (vv (op_load1 rfl ty_3 (tmp_ev (slot_ev e0 rfl)) (hS.bk 1 rfl) rfl) (And.intro rfl rfl))
    refine ⟨fun a w vs251 hA hS hd => ?_, ?_⟩
    ·skip
     obtain ⟨e1, rs1, hy1, hp1⟩ := hd 1 (by decide)
     obtain ⟨hv1, hr1⟩ := hy1; subst hr1
     rw [hv1] at e1
     exact opG_of rfl (vv (op_eql rfl (tmp_ev (slot_ev e1 rfl)) (evc _ _)) (And.intro (by show Value.bool _ = _; simp only [decide_eq_true hb202, Bool.not_true, Bool.not_false]) rfl))
    refine ⟨fun a w vs251 hA hS hd => ?_, ?_⟩
    ·skip
     obtain ⟨e2, rs2, hy2, hp2⟩ := hd 2 (by decide)
     obtain ⟨hv2, hr2⟩ := hy2; subst hr2
     rw [hv2] at e2
     exact opG_of rfl (vv (op_move rfl (tmp_ev (slot_ev e2 rfl))) (And.intro rfl rfl))
    refine ⟨fun a w vs251 hA hS hd => ?_, ?_⟩
    ·skip
     obtain ⟨e3, rs3, hy3, hp3⟩ := hd 3 (by decide)
     obtain ⟨hv3, hr3⟩ := hy3; subst hr3
     rw [hv3] at e3
     exact opG_no rfl rfl (slot_ev e3 rfl) rfl (vskip (And.intro rfl rfl))
    refine ⟨fun a w vs251 hA hS hd => ?_, ?_⟩
    ·skip
     obtain ⟨e3, rs3, hy3, hp3⟩ := hd 3 (by decide)
     obtain ⟨hv3, hr3⟩ := hy3; subst hr3
     rw [hv3] at e3
     exact opG_no rfl rfl (slot_ev e3 rfl) rfl (vskip (And.intro rfl rfl))
    refine ⟨fun a w vs251 hA hS hd => ?_, ?_⟩
    ·skip
     obtain ⟨e3, rs3, hy3, hp3⟩ := hd 3 (by decide)
     obtain ⟨hv3, hr3⟩ := hy3; subst hr3
     rw [hv3] at e3
     exact opG_no rfl rfl (slot_ev e3 rfl) rfl (vskip (And.intro rfl rfl))
    refine ⟨fun a w vs251 hA hS hd => ?_, ?_⟩
    ·skip
     obtain ⟨e3, rs3, hy3, hp3⟩ := hd 3 (by decide)
     obtain ⟨hv3, hr3⟩ := hy3; subst hr3
     rw [hv3] at e3
     obtain ⟨e6, rs6, hy6, hp6⟩ := hd 6 (by decide)
     obtain ⟨hv6, hr6⟩ := hy6; subst hr6
     rw [hv6] at e6
     exact opG_no rfl rfl (slot_ev e3 rfl) rfl (vskip (And.intro rfl rfl))
    refine ⟨fun a w vs251 hA hS hd => ?_, ?_⟩
    ·skip
     obtain ⟨e3, rs3, hy3, hp3⟩ := hd 3 (by decide)
     obtain ⟨hv3, hr3⟩ := hy3; subst hr3
     rw [hv3] at e3
     obtain ⟨e7, rs7, hy7, hp7⟩ := hd 7 (by decide)
     obtain ⟨hv7, hr7⟩ := hy7; subst hr7
     rw [hv7] at e7
     exact opG_no rfl rfl (slot_ev e3 rfl) rfl (vskip (And.intro rfl rfl))
    refine ⟨fun a w vs251 hA hS hd => ?_, ?_⟩
    ·skip
     obtain ⟨e3, rs3, hy3, hp3⟩ := hd 3 (by decide)
     obtain ⟨hv3, hr3⟩ := hy3; subst hr3
     rw [hv3] at e3
     obtain ⟨e4, rs4, hy4, hp4⟩ := hd 4 (by decide)
     obtain ⟨hv4, hr4⟩ := hy4; subst hr4
     rw [hv4] at e4
     obtain ⟨e5, rs5, hy5, hp5⟩ := hd 5 (by decide)
     obtain ⟨hv5, hr5⟩ := hy5; subst hr5
     rw [hv5] at e5
     obtain ⟨e8, rs8, hy8, hp8⟩ := hd 8 (by decide)
     obtain ⟨hv8, hr8⟩ := hy8; subst hr8
     rw [hv8] at e8
     exact opG_no rfl rfl (slot_ev e3 rfl) rfl (vskip (And.intro rfl rfl))
    refine ⟨fun a w vs251 hA hS hd => ?_, ?_⟩
    ·skip
     obtain ⟨e3, rs3, hy3, hp3⟩ := hd 3 (by decide)
     obtain ⟨hv3, hr3⟩ := hy3; subst hr3
     rw [hv3] at e3
     obtain ⟨e9, rs9, hy9, hp9⟩ := hd 9 (by decide)
     obtain ⟨hv9, hr9⟩ := hy9; subst hr9
     rw [hv9] at e9
     exact opG_no rfl rfl (slot_ev e3 rfl) rfl (vskip (And.intro rfl rfl))
    refine ⟨fun a w vs251 hA hS hd => ?_, ?_⟩
    ·skip
     obtain ⟨e3, rs3, hy3, hp3⟩ := hd 3 (by decide)
     obtain ⟨hv3, hr3⟩ := hy3; subst hr3
     rw [hv3] at e3
     obtain ⟨e10, rs10, hy10, hp10⟩ := hd 10 (by decide)
     obtain ⟨hv10, hr10⟩ := hy10; subst hr10
     rw [hv10] at e10
     exact opG_of rfl (vv (op_pick_t rfl (tmp_ev (slot_ev e3 rfl)) (evc _ _)) (And.intro rfl rfl))
    refine ⟨fun a w vs251 hA hS hd => ?_, ?_⟩
    ·skip
     obtain ⟨e11, rs11, hy11, hp11⟩ := hd 11 (by decide)
     obtain ⟨hv11, hr11⟩ := hy11; subst hr11
     rw [hv11] at e11
     exact opG_of rfl (vv (op_move rfl (tmp_ev (slot_ev e11 rfl))) (And.intro rfl rfl))
    refine ⟨fun a w vs251 hA hS hd => ?_, ?_⟩
    ·skip
     obtain ⟨e12, rs12, hy12, hp12⟩ := hd 12 (by decide)
     obtain ⟨hv12, hr12⟩ := hy12; subst hr12
     rw [hv12] at e12
     exact opG_yes rfl rfl (slot_ev e12 rfl) (vv (op_field rfl fd_46_1 (hA.ev rfl)) (And.intro rfl rfl))
    refine ⟨fun a w vs251 hA hS hd => ?_, ?_⟩
    ·skip
     obtain ⟨e12, rs12, hy12, hp12⟩ := hd 12 (by decide)
     obtain ⟨hv12, hr12⟩ := hy12; subst hr12
     rw [hv12] at e12
     obtain ⟨e13, rs13, hy13, hp13⟩ := hd 13 (by decide)
     obtain ⟨hv13, hr13⟩ := hy13; subst hr13
     rw [hv13] at e13
     exact opG_yes rfl rfl (slot_ev e12 rfl) (vv (op_load1 rfl ty_3 (tmp_ev (slot_ev e13 rfl)) (hS.bk 1 rfl) rfl) (And.intro rfl rfl))
    refine ⟨fun a w vs251 hA hS hd => ?_, ?_⟩
    ·skip
     obtain ⟨e12, rs12, hy12, hp12⟩ := hd 12 (by decide)
     obtain ⟨hv12, hr12⟩ := hy12; subst hr12
     rw [hv12] at e12
     obtain ⟨e14, rs14, hy14, hp14⟩ := hd 14 (by decide)
     obtain ⟨hv14, hr14⟩ := hy14; subst hr14
     rw [hv14] at e14
     exact opG_yes rfl rfl (slot_ev e12 rfl) (vv (op_eql rfl (tmp_ev (slot_ev e14 rfl)) (evc _ _)) (And.intro (by show Value.bool _ = _; simp only [decide_eq_false hb205, Bool.not_true, Bool.not_false]) rfl))
    refine ⟨fun a w vs251 hA hS hd => ?_, ?_⟩
    ·skip
     obtain ⟨e12, rs12, hy12, hp12⟩ := hd 12 (by decide)
     obtain ⟨hv12, hr12⟩ := hy12; subst hr12
     rw [hv12] at e12
     obtain ⟨e15, rs15, hy15, hp15⟩ := hd 15 (by decide)
     obtain ⟨hv15, hr15⟩ := hy15; subst hr15
     rw [hv15] at e15
     exact opG_yes rfl rfl (slot_ev e12 rfl) (vv (op_move rfl (tmp_ev (slot_ev e15 rfl))) (And.intro rfl rfl))
    refine ⟨fun a w vs251 hA hS hd => ?_, ?_⟩
    ·skip
     obtain ⟨e16, rs16, hy16, hp16⟩ := hd 16 (by decide)
     obtain ⟨hv16, hr16⟩ := hy16; subst hr16
     rw [hv16] at e16
     exact opG_yes rfl rfl (slot_ev e16 rfl) (vv (op_loadA rfl ty_26 (hA.ev rfl) (hS.bk 3 rfl) (l := [rl, rs, (Value.int .i64 d.spread), rb]) rfl rfl) (And.intro rfl rfl))
    refine ⟨fun a w vs251 hA hS hd => ?_, ?_⟩
    ·skip
     obtain ⟨e16, rs16, hy16, hp16⟩ := hd 16 (by decide)
     obtain ⟨hv16, hr16⟩ := hy16; subst hr16
     rw [hv16] at e16
     exact opG_yes rfl rfl (slot_ev e16 rfl) (vv (op_move rfl (hA.ev rfl)) (And.intro rfl rfl))
    refine ⟨fun a w vs251 hA hS hd => ?_, ?_⟩
    ·skip
     obtain ⟨e16, rs16, hy16, hp16⟩ := hd 16 (by decide)
     obtain ⟨hv16, hr16⟩ := hy16; subst hr16
     rw [hv16] at e16
     exact opG_yes rfl rfl (slot_ev e16 rfl) (vv (op_field rfl fd_46_1 (hA.ev rfl)) (And.intro rfl rfl))
    refine ⟨fun a w vs251 hA hS hd => ?_, ?_⟩
    ·skip
     obtain ⟨e16, rs16, hy16, hp16⟩ := hd 16 (by decide)
     obtain ⟨hv16, hr16⟩ := hy16; subst hr16
     rw [hv16] at e16
     obtain ⟨e19, rs19, hy19, hp19⟩ := hd 19 (by decide)
     obtain ⟨hv19, hr19⟩ := hy19; subst hr19
     rw [hv19] at e19
     exact opG_yes rfl rfl (slot_ev e16 rfl) (vv (op_load1 rfl ty_3 (tmp_ev (slot_ev e19 rfl)) (hS.bk 1 rfl) rfl) (And.intro rfl rfl))
    refine ⟨fun a w vs251 hA hS hd => ?_, ?_⟩
    ·skip
     obtain ⟨e16, rs16, hy16, hp16⟩ := hd 16 (by decide)
     obtain ⟨hv16, hr16⟩ := hy16; subst hr16
     rw [hv16] at e16
     obtain ⟨e20, rs20, hy20, hp20⟩ := hd 20 (by decide)
     obtain ⟨hv20, hr20⟩ := hy20; subst hr20
     rw [hv20] at e20
     exact opG_yes rfl rfl (slot_ev e16 rfl) (vv (op_add rfl (tmp_ev (slot_ev e20 rfl)) (evc _ _) (by omega) (by omega)) (And.intro rfl rfl))
    refine ⟨fun a w vs251 hA hS hd => ?_, ?_⟩
    ·skip
     obtain ⟨e16, rs16, hy16, hp16⟩ := hd 16 (by decide)
     obtain ⟨hv16, hr16⟩ := hy16; subst hr16
     rw [hv16] at e16
     obtain ⟨e17, rs17, hy17, hp17⟩ := hd 17 (by decide)
     obtain ⟨hv17, hr17⟩ := hy17; subst hr17
     rw [hv17] at e17
     obtain ⟨e18, rs18, hy18, hp18⟩ := hd 18 (by decide)
     obtain ⟨hv18, hr18⟩ := hy18; subst hr18
     rw [hv18] at e18
     obtain ⟨e21, rs21, hy21, hp21⟩ := hd 21 (by decide)
     obtain ⟨hv21, hr21⟩ := hy21; subst hr21
     rw [hv21] at e21
     exact opG_yes rfl rfl (slot_ev e16 rfl) (vx (op_call rfl en_34 (ev3 (tmp_ev (slot_ev e17 rfl)) (tmp_ev (slot_ev e18 rfl)) (tmp_ev (slot_ev e21 rfl))) (by have h := (Errs_ok rl rs rb rlv d _ (rnd_at (hS.ok 4 _ rfl)) lab (hi' + 1) hV (by omega)); rw [((refOk_errs hV).trans ((hn _ (by omega) (by omega)).trans (by rw [decide_eq_false (show ¬ (hi' + 1 ≤ hi') by omega), Bool.and_false])))] at h; exact h)) (And.intro rfl rfl))
    refine ⟨fun a w vs251 hA hS hd => ?_, ?_⟩
    ·skip
     obtain ⟨e16, rs16, hy16, hp16⟩ := hd 16 (by decide)
     obtain ⟨hv16, hr16⟩ := hy16; subst hr16
     rw [hv16] at e16
     obtain ⟨e22, rs22, hy22, hp22⟩ := hd 22 (by decide)
     obtain ⟨hv22, hr22⟩ := hy22; subst hr22
     rw [hv22] at e22
     exact opG_yes rfl rfl (slot_ev e16 rfl) (vv (op_not rfl (tmp_ev (slot_ev e22 rfl))) (And.intro rfl rfl))
    refine ⟨fun a w vs251 hA hS hd => ?_, ?_⟩
    ·skip
     obtain ⟨e12, rs12, hy12, hp12⟩ := hd 12 (by decide)
     obtain ⟨hv12, hr12⟩ := hy12; subst hr12
     rw [hv12] at e12
     obtain ⟨e16, rs16, hy16, hp16⟩ := hd 16 (by decide)
     obtain ⟨hv16, hr16⟩ := hy16; subst hr16
     rw [hv16] at e16
     obtain ⟨e23, rs23, hy23, hp23⟩ := hd 23 (by decide)
     obtain ⟨hv23, hr23⟩ := hy23; subst hr23
     rw [hv23] at e23
     exact opG_yes rfl rfl (slot_ev e12 rfl) (vv (op_pick_f rfl (tmp_ev (slot_ev e16 rfl)) (tmp_ev (slot_ev e23 rfl))) (And.intro rfl rfl))
    refine ⟨fun a w vs251 hA hS hd => ?_, ?_⟩
    ·skip
     obtain ⟨e12, rs12, hy12, hp12⟩ := hd 12 (by decide)
     obtain ⟨hv12, hr12⟩ := hy12; subst hr12
     rw [hv12] at e12
     obtain ⟨e24, rs24, hy24, hp24⟩ := hd 24 (by decide)
     obtain ⟨hv24, hr24⟩ := hy24; subst hr24
     rw [hv24] at e24
     exact opG_of rfl (vv (op_pick_t rfl (tmp_ev (slot_ev e12 rfl)) (tmp_ev (slot_ev e24 rfl))) (And.intro rfl rfl))
    refine ⟨fun a w vs251 hA hS hd => ?_, ?_⟩
    ·skip
     obtain ⟨e25, rs25, hy25, hp25⟩ := hd 25 (by decide)
     obtain ⟨hv25, hr25⟩ := hy25; subst hr25
     rw [hv25] at e25
     exact opG_of rfl (vv (op_move rfl (tmp_ev (slot_ev e25 rfl))) (And.intro rfl rfl))
    refine ⟨fun a w vs251 hA hS hd => ?_, ?_⟩
    ·skip
     obtain ⟨e26, rs26, hy26, hp26⟩ := hd 26 (by decide)
     obtain ⟨hv26, hr26⟩ := hy26; subst hr26
     rw [hv26] at e26
     exact opG_yes rfl rfl (slot_ev e26 rfl) (vv (op_loadA rfl ty_26 (hA.ev rfl) (hS.bk 3 rfl) (l := [rl, rs, (Value.int .i64 d.spread), rb]) rfl rfl) (And.intro rfl rfl))
    refine ⟨fun a w vs251 hA hS hd => ?_, ?_⟩
    ·skip
     obtain ⟨e26, rs26, hy26, hp26⟩ := hd 26 (by decide)
     obtain ⟨hv26, hr26⟩ := hy26; subst hr26
     rw [hv26] at e26
     exact opG_yes rfl rfl (slot_ev e26 rfl) (vv (op_move rfl (hA.ev rfl)) (And.intro rfl rfl))
    refine ⟨fun a w vs251 hA hS hd => ?_, ?_⟩
    ·skip
     obtain ⟨e26, rs26, hy26, hp26⟩ := hd 26 (by decide)
     obtain ⟨hv26, hr26⟩ := hy26; subst hr26
     rw [hv26] at e26
     exact opG_yes rfl rfl (slot_ev e26 rfl) (vv (op_move rfl (hA.ev rfl)) (And.intro rfl rfl))
    refine ⟨fun a w vs251 hA hS hd => ?_, ?_⟩
    ·skip
     obtain ⟨e26, rs26, hy26, hp26⟩ := hd 26 (by decide)
     obtain ⟨hv26, hr26⟩ := hy26; subst hr26
     rw [hv26] at e26
     obtain ⟨e27, rs27, hy27, hp27⟩ := hd 27 (by decide)
     obtain ⟨hv27, hr27⟩ := hy27; subst hr27
     rw [hv27] at e27
     obtain ⟨e28, rs28, hy28, hp28⟩ := hd 28 (by decide)
     obtain ⟨hv28, hr28⟩ := hy28; subst hr28
     rw [hv28] at e28
     obtain ⟨e29, rs29, hy29, hp29⟩ := hd 29 (by decide)
     obtain ⟨hv29, hr29⟩ := hy29; subst hr29
     rw [hv29] at e29
     exact opG_yes rfl rfl (slot_ev e26 rfl) (vx (op_call rfl en_34 (ev3 (tmp_ev (slot_ev e27 rfl)) (tmp_ev (slot_ev e28 rfl)) (tmp_ev (slot_ev e29 rfl))) (by have h := (Errs_ok rl rs rb rlv d _ (rnd_at (hS.ok 4 _ rfl)) lab ((other).tmod 2001) hV (by omega)); rw [((refOk_errs hV).trans (hn _ (by omega) (by omega)))] at h; exact h)) (And.intro rfl rfl))
    refine ⟨fun a w vs251 hA hS hd => ?_, ?_⟩
    ·skip
     obtain ⟨e26, rs26, hy26, hp26⟩ := hd 26 (by decide)
     obtain ⟨hv26, hr26⟩ := hy26; subst hr26
     rw [hv26] at e26
     exact opG_yes rfl rfl (slot_ev e26 rfl) (vv (op_move rfl (hA.ev rfl)) (And.intro rfl rfl))
    refine ⟨fun a w vs251 hA hS hd => ?_, ?_⟩
    ·skip
     obtain ⟨e26, rs26, hy26, hp26⟩ := hd 26 (by decide)
     obtain ⟨hv26, hr26⟩ := hy26; subst hr26
     rw [hv26] at e26
     exact opG_yes rfl rfl (slot_ev e26 rfl) (vv (op_field rfl fd_46_0 (hA.ev rfl)) (And.intro rfl rfl))
    refine ⟨fun a w vs251 hA hS hd => ?_, ?_⟩
    ·skip
     obtain ⟨e26, rs26, hy26, hp26⟩ := hd 26 (by decide)
     obtain ⟨hv26, hr26⟩ := hy26; subst hr26
     rw [hv26] at e26
     obtain ⟨e32, rs32, hy32, hp32⟩ := hd 32 (by decide)
     obtain ⟨hv32, hr32⟩ := hy32; subst hr32
     rw [hv32] at e32
     exact opG_yes rfl rfl (slot_ev e26 rfl) (vv (op_load1 rfl ty_3 (tmp_ev (slot_ev e32 rfl)) (hS.bk 1 rfl) rfl) (And.intro rfl rfl))
    refine ⟨fun a w vs251 hA hS hd => ?_, ?_⟩
    ·skip
     obtain ⟨e26, rs26, hy26, hp26⟩ := hd 26 (by decide)
     obtain ⟨hv26, hr26⟩ := hy26; subst hr26
     rw [hv26] at e26
     exact opG_yes rfl rfl (slot_ev e26 rfl) (vv (op_field rfl fd_46_1 (hA.ev rfl)) (And.intro rfl rfl))
    refine ⟨fun a w vs251 hA hS hd => ?_, ?_⟩
    ·skip
     obtain ⟨e26, rs26, hy26, hp26⟩ := hd 26 (by decide)
     obtain ⟨hv26, hr26⟩ := hy26; subst hr26
     rw [hv26] at e26
     obtain ⟨e34, rs34, hy34, hp34⟩ := hd 34 (by decide)
     obtain ⟨hv34, hr34⟩ := hy34; subst hr34
     rw [hv34] at e34
     exact opG_yes rfl rfl (slot_ev e26 rfl) (vv (op_load1 rfl ty_3 (tmp_ev (slot_ev e34 rfl)) (hS.bk 1 rfl) rfl) (And.intro rfl rfl))
    trivial
   intro a252 w253 vs251 rsf257 hA254 hH256 hS255; clear hA250 hS194
   obtain ⟨hs_0, hy_0⟩ := hH256 0 (by decide)
   obtain ⟨hv_0, hr_0⟩ := hy_0
   obtain ⟨hs_1, hy_1⟩ := hH256 1 (by decide)
   obtain ⟨hv_1, hr_1⟩ := hy_1
   obtain ⟨hs_2, hy_2⟩ := hH256 2 (by decide)
   obtain ⟨hv_2, hr_2⟩ := hy_2
   obtain ⟨hs_3, hy_3⟩ := hH256 3 (by decide)
   obtain ⟨hv_3, hr_3⟩ := hy_3
   obtain ⟨hs_4, hy_4⟩ := hH256 4 (by decide)
   obtain ⟨hv_4, hr_4⟩ := hy_4
   obtain ⟨hs_5, hy_5⟩ := hH256 5 (by decide)
   obtain ⟨hv_5, hr_5⟩ := hy_5
   obtain ⟨hs_6, hy_6⟩ := hH256 6 (by decide)
   obtain ⟨hv_6, hr_6⟩ := hy_6
   obtain ⟨hs_7, hy_7⟩ := hH256 7 (by decide)
   obtain ⟨hv_7, hr_7⟩ := hy_7
   obtain ⟨hs_8, hy_8⟩ := hH256 8 (by decide)
   obtain ⟨hv_8, hr_8⟩ := hy_8
   obtain ⟨hs_9, hy_9⟩ := hH256 9 (by decide)
   obtain ⟨hv_9, hr_9⟩ := hy_9
   obtain ⟨hs_10, hy_10⟩ := hH256 10 (by decide)
   obtain ⟨hv_10, hr_10⟩ := hy_10
   obtain ⟨hs_11, hy_11⟩ := hH256 11 (by decide)
   obtain ⟨hv_11, hr_11⟩ := hy_11
   obtain ⟨hs_12, hy_12⟩ := hH256 12 (by decide)
   obtain ⟨hv_12, hr_12⟩ := hy_12
   obtain ⟨hs_13, hy_13⟩ := hH256 13 (by decide)
   obtain ⟨hv_13, hr_13⟩ := hy_13
   obtain ⟨hs_14, hy_14⟩ := hH256 14 (by decide)
   obtain ⟨hv_14, hr_14⟩ := hy_14
   obtain ⟨hs_15, hy_15⟩ := hH256 15 (by decide)
   obtain ⟨hv_15, hr_15⟩ := hy_15
   obtain ⟨hs_16, hy_16⟩ := hH256 16 (by decide)
   obtain ⟨hv_16, hr_16⟩ := hy_16
   obtain ⟨hs_17, hy_17⟩ := hH256 17 (by decide)
   obtain ⟨hv_17, hr_17⟩ := hy_17
   obtain ⟨hs_18, hy_18⟩ := hH256 18 (by decide)
   obtain ⟨hv_18, hr_18⟩ := hy_18
   obtain ⟨hs_19, hy_19⟩ := hH256 19 (by decide)
   obtain ⟨hv_19, hr_19⟩ := hy_19
   obtain ⟨hs_20, hy_20⟩ := hH256 20 (by decide)
   obtain ⟨hv_20, hr_20⟩ := hy_20
   obtain ⟨hs_21, hy_21⟩ := hH256 21 (by decide)
   obtain ⟨hv_21, hr_21⟩ := hy_21
   obtain ⟨hs_22, hy_22⟩ := hH256 22 (by decide)
   obtain ⟨hv_22, hr_22⟩ := hy_22
   obtain ⟨hs_23, hy_23⟩ := hH256 23 (by decide)
   obtain ⟨hv_23, hr_23⟩ := hy_23
   obtain ⟨hs_24, hy_24⟩ := hH256 24 (by decide)
   obtain ⟨hv_24, hr_24⟩ := hy_24
   obtain ⟨hs_25, hy_25⟩ := hH256 25 (by decide)
   obtain ⟨hv_25, hr_25⟩ := hy_25
   obtain ⟨hs_26, hy_26⟩ := hH256 26 (by decide)
   obtain ⟨hv_26, hr_26⟩ := hy_26
   obtain ⟨hs_27, hy_27⟩ := hH256 27 (by decide)
   obtain ⟨hv_27, hr_27⟩ := hy_27
   obtain ⟨hs_28, hy_28⟩ := hH256 28 (by decide)
   obtain ⟨hv_28, hr_28⟩ := hy_28
   obtain ⟨hs_29, hy_29⟩ := hH256 29 (by decide)
   obtain ⟨hv_29, hr_29⟩ := hy_29
   obtain ⟨hs_30, hy_30⟩ := hH256 30 (by decide)
   obtain ⟨hv_30, hr_30⟩ := hy_30
   obtain ⟨hs_31, hy_31⟩ := hH256 31 (by decide)
   obtain ⟨hv_31, hr_31⟩ := hy_31
   obtain ⟨hs_32, hy_32⟩ := hH256 32 (by decide)
   obtain ⟨hv_32, hr_32⟩ := hy_32
   obtain ⟨hs_33, hy_33⟩ := hH256 33 (by decide)
   obtain ⟨hv_33, hr_33⟩ := hy_33
   obtain ⟨hs_34, hy_34⟩ := hH256 34 (by decide)
   obtain ⟨hv_34, hr_34⟩ := hy_34
   obtain ⟨hs_35, hy_35⟩ := hH256 35 (by decide)
   obtain ⟨hv_35, hr_35⟩ := hy_35
   have hS258 : Sep NoB w w253 [(blk b101 3 [(Value.int .i64 lab)]), (blk b44 46 [(Value.int .i64 lo), (Value.int .i64 hi')]), (rndR true vl22 vs23 vb24 lv25 d), (blk b4 26 [rl, rs, (Value.int .i64 d.spread), rb]), (rndR false rl rs rb rlv d)] := by rw [show catR rsf257 0 36 = ([] : List Res) by (try simp only [catR, hr_0, hr_1, hr_2, hr_3, hr_4, hr_5, hr_6, hr_7, hr_8, hr_9, hr_10, hr_11, hr_12, hr_13, hr_14, hr_15, hr_16, hr_17, hr_18, hr_19, hr_20, hr_21, hr_22, hr_23, hr_24, hr_25, hr_26, hr_27, hr_28, hr_29, hr_30, hr_31, hr_32, hr_33, hr_34, hr_35]); (try rfl)] at hS255; exact hS255
   rw [hv_26] at hs_26
   have hA259 : Fr 157 [] [(141, (Value.bool (!false))), (10, (Value.int .i64 ((other).tmod 2001))), (7, (bptr b44 0)), (3, (bptr b4 0)), (1, (Value.int .i64 lab))] a252 := hA254.add (slot_ev hs_26 rfl); clear hA254
   rw [hv_30] at hs_30
   have hA260 : Fr 157 [] [(145, (Value.bool (decide (lo ≤ ((other).tmod 2001)) && decide (((other).tmod 2001) ≤ hi')))), (141, (Value.bool (!false))), (10, (Value.int .i64 ((other).tmod 2001))), (7, (bptr b44 0)), (3, (bptr b4 0)), (1, (Value.int .i64 lab))] a252 := hA259.add (slot_ev hs_30 rfl); clear hA259
   rw [hv_31] at hs_31
   have hA261 : Fr 157 [] [(146, (Value.int .i64 ((other).tmod 2001))), (145, (Value.bool (decide (lo ≤ ((other).tmod 2001)) && decide (((other).tmod 2001) ≤ hi')))), (141, (Value.bool (!false))), (10, (Value.int .i64 ((other).tmod 2001))), (7, (bptr b44 0)), (3, (bptr b4 0)), (1, (Value.int .i64 lab))] a252 := hA260.add (slot_ev hs_31 rfl); clear hA260
   rw [hv_33] at hs_33
   have hA262 : Fr 157 [] [(148, (Value.int .i64 lo)), (146, (Value.int .i64 ((other).tmod 2001))), (145, (Value.bool (decide (lo ≤ ((other).tmod 2001)) && decide (((other).tmod 2001) ≤ hi')))), (141, (Value.bool (!false))), (10, (Value.int .i64 ((other).tmod 2001))), (7, (bptr b44 0)), (3, (bptr b4 0)), (1, (Value.int .i64 lab))] a252 := hA261.add (slot_ev hs_33 rfl); clear hA261
   rw [hv_35] at hs_35
   have hA263 : Fr 157 [] [(150, (Value.int .i64 hi')), (148, (Value.int .i64 lo)), (146, (Value.int .i64 ((other).tmod 2001))), (145, (Value.bool (decide (lo ≤ ((other).tmod 2001)) && decide (((other).tmod 2001) ≤ hi')))), (141, (Value.bool (!false))), (10, (Value.int .i64 ((other).tmod 2001))), (7, (bptr b44 0)), (3, (bptr b4 0)), (1, (Value.int .i64 lab))] a252 := hA262.add (slot_ev hs_35 rfl); clear hA262
   clear hH256 hS255 hs_0 hs_1 hs_2 hs_3 hs_4 hs_5 hs_6 hs_7 hs_8 hs_9 hs_10 hs_11 hs_12 hs_13 hs_14 hs_15 hs_16 hs_17 hs_18 hs_19 hs_20 hs_21 hs_22 hs_23 hs_24 hs_25 hs_26 hs_27 hs_28 hs_29 hs_30 hs_31 hs_32 hs_33 hs_34 hs_35
   clear hr_0
   clear hv_0
   clear hr_1
   clear hv_1
   clear hr_2
   clear hv_2
   clear hr_3
   clear hv_3
   clear hr_4
   clear hv_4
   clear hr_5
   clear hv_5
   clear hr_6
   clear hv_6
   clear hr_7
   clear hv_7
   clear hr_8
   clear hv_8
   clear hr_9
   clear hv_9
   clear hr_10
   clear hv_10
   clear hr_11
   clear hv_11
   clear hr_12
   clear hv_12
   clear hr_13
   clear hv_13
   clear hr_14
   clear hv_14
   clear hr_15
   clear hv_15
   clear hr_16
   clear hv_16
   clear hr_17
   clear hv_17
   clear hr_18
   clear hv_18
   clear hr_19
   clear hv_19
   clear hr_20
   clear hv_20
   clear hr_21
   clear hv_21
   clear hr_22
   clear hv_22
   clear hr_23
   clear hv_23
   clear hr_24
   clear hv_24
   clear hr_25
   clear hv_25
   clear hr_26
   clear hv_26
   clear hr_27
   clear hv_27
   clear hr_28
   clear hv_28
   clear hr_29
   clear hv_29
   clear hr_30
   clear hv_30
   clear hr_31
   clear hv_31
   clear hr_32
   clear hv_32
   clear hr_33
   clear hv_33
   clear hr_34
   clear hv_34
   clear hr_35
   clear hv_35
   refine stwg hA263 (op_call rfl en_33 (ev3 (hA263.ev rfl) (hA263.ev rfl) (hA263.ev rfl)) (In_ok _ _ _ _)) rfl rfl rfl rfl (by decide) ?_
   rintro a264 _ _ ⟨rfl, rfl⟩ hA265; clear hA263 a252
   refine stg hA265 (op_eqlB un_4 rfl (hA265.ev rfl) (hA265.ev rfl)) rfl rfl rfl rfl (by decide) fun a267 hA268 => ?_; clear hA265 a264
   refine st hA268 (op_pick_t rfl (hA268.ev rfl) (hA268.ev rfl)) rfl rfl (by decide) fun a269 hA270 => ?_; clear hA268 a267
   refine st hA270 (op_move rfl (hA270.ev rfl)) rfl rfl (by decide) fun a271 hA272 => ?_; clear hA270 a269
   rcases Bool.eq_false_or_eq_true ((decide (lo ≤ ((other).tmod 2001)) && decide (((other).tmod 2001) ≤ hi'))) with hb273 | hb273
   ·skip
    rw [hb273] at hA272
    have hq274 := hb273; simp only [Bool.and_eq_true, Bool.and_eq_false_iff, decide_eq_true_eq, decide_eq_false_iff_not] at hq274
    refine stwg hA272 (op_call rfl en_18 ev0 (wakes_ok _)) rfl rfl rfl rfl (by decide) ?_
    rintro a275 _ w277 ⟨rfl, hE278⟩ hA276; have hS279 := hS258.step hE278; clear hE278 hA272 hS258 a271
    refine st hA276 (op_pick_t rfl (hA276.ev rfl) (hA276.ev rfl)) rfl rfl (by decide) fun a280 hA281 => ?_; clear hA276 a275
    refine st hA281 (op_assign rfl (hA281.ev rfl)) rfl rfl (by decide) fun a282 hA283 => ?_; clear hA281 a280
    refine wl_nil ?_
    refine then_n ?_
    refine c_ret ?_
    refine fin_run hA283 (.inl rfl) (run_results1 hA283 rfl (.tmp rfl)) ?_
    exact ⟨rfl, hS279.ext⟩
   ·skip
    rw [hb273] at hA272
    have hq284 := hb273; simp only [Bool.and_eq_true, Bool.and_eq_false_iff, decide_eq_true_eq, decide_eq_false_iff_not] at hq284
    refine stwg hA272 (op_call rfl en_18 ev0 (wakes_ok _)) rfl rfl rfl rfl (by decide) ?_
    rintro a285 _ w287 ⟨rfl, hE288⟩ hA286; have hS289 := hS258.step hE288; clear hE288 hA272 hS258 a271
    refine st hA286 (op_pick_t rfl (hA286.ev rfl) (hA286.ev rfl)) rfl rfl (by decide) fun a290 hA291 => ?_; clear hA286 a285
    refine st hA291 (op_assign rfl (hA291.ev rfl)) rfl rfl (by decide) fun a292 hA293 => ?_; clear hA291 a290
    refine wl_nil ?_
    refine then_n ?_
    refine c_ret ?_
    refine fin_run hA293 (.inl rfl) (run_results1 hA293 rfl (.tmp rfl)) ?_
    exact ⟨rfl, hS289.ext⟩
 ·skip
  have hA294 := hA200.as [(10, (Value.int .i64 ((other).tmod 2001))), (7, (bptr b44 0)), (3, (bptr b4 0)), (1, (Value.int .i64 lab))] rfl; clear hA200
  by_cases hb296 : hi' = 2000
  ·skip
   have hA297 := hA294.as [(10, (Value.int .i64 ((other).tmod 2001))), (7, (bptr b44 0)), (3, (bptr b4 0)), (1, (Value.int .i64 lab))] rfl; clear hA294
   refine c_drawV mixed hA297 hS194 36 [[], [0], [1], [2], [3], [3], [3], [3, 6], [3, 7], [3, 4, 5, 8], [3, 9], [3, 10], [11], [12], [12, 13], [12, 14], [12, 15], [16], [16], [16], [16, 19], [16, 20], [16, 17, 18, 21], [16, 22], [12, 16, 23], [12, 24], [25], [26], [26], [26], [26, 27, 28, 29], [26], [26], [26, 32], [26], [26, 34]] [(fun (vs298 : Nat → Value) (v_ : Value) (rs_ : List Res) => v_ = (bptr b44 0) ∧ rs_ = []), (fun (vs298 : Nat → Value) (v_ : Value) (rs_ : List Res) => v_ = (Value.int .i64 lo) ∧ rs_ = []), (fun (vs298 : Nat → Value) (v_ : Value) (rs_ : List Res) => v_ = (Value.bool false) ∧ rs_ = []), (fun (vs298 : Nat → Value) (v_ : Value) (rs_ : List Res) => v_ = (Value.bool false) ∧ rs_ = []), (fun (vs298 : Nat → Value) (v_ : Value) (rs_ : List Res) => v_ = (Value.agg #[rl, rs, (Value.int .i64 d.spread), rb]) ∧ rs_ = []), (fun (vs298 : Nat → Value) (v_ : Value) (rs_ : List Res) => v_ = (Value.int .i64 lab) ∧ rs_ = []), (fun (vs298 : Nat → Value) (v_ : Value) (rs_ : List Res) => v_ = (bptr b44 0) ∧ rs_ = []), (fun (vs298 : Nat → Value) (v_ : Value) (rs_ : List Res) => v_ = (Value.int .i64 lo) ∧ rs_ = []), (fun (vs298 : Nat → Value) (v_ : Value) (rs_ : List Res) => v_ = (Value.int .i64 (lo - 1)) ∧ rs_ = []), (fun (vs298 : Nat → Value) (v_ : Value) (rs_ : List Res) => v_ = (Value.bool false) ∧ rs_ = []), (fun (vs298 : Nat → Value) (v_ : Value) (rs_ : List Res) => v_ = (Value.bool (!false)) ∧ rs_ = []), (fun (vs298 : Nat → Value) (v_ : Value) (rs_ : List Res) => v_ = (Value.bool (!false)) ∧ rs_ = []), (fun (vs298 : Nat → Value) (v_ : Value) (rs_ : List Res) => v_ = (Value.bool (!false)) ∧ rs_ = []), (fun (vs298 : Nat → Value) (v_ : Value) (rs_ : List Res) => v_ = (bptr b44 1) ∧ rs_ = []), (fun (vs298 : Nat → Value) (v_ : Value) (rs_ : List Res) => v_ = (Value.int .i64 hi') ∧ rs_ = []), (fun (vs298 : Nat → Value) (v_ : Value) (rs_ : List Res) => v_ = (Value.bool true) ∧ rs_ = []), (fun (vs298 : Nat → Value) (v_ : Value) (rs_ : List Res) => v_ = (Value.bool true) ∧ rs_ = []), (fun (vs298 : Nat → Value) (v_ : Value) (rs_ : List Res) => v_ = undef ∧ rs_ = []), (fun (vs298 : Nat → Value) (v_ : Value) (rs_ : List Res) => v_ = undef ∧ rs_ = []), (fun (vs298 : Nat → Value) (v_ : Value) (rs_ : List Res) => v_ = undef ∧ rs_ = []), (fun (vs298 : Nat → Value) (v_ : Value) (rs_ : List Res) => v_ = undef ∧ rs_ = []), (fun (vs298 : Nat → Value) (v_ : Value) (rs_ : List Res) => v_ = undef ∧ rs_ = []), (fun (vs298 : Nat → Value) (v_ : Value) (rs_ : List Res) => v_ = undef ∧ rs_ = []), (fun (vs298 : Nat → Value) (v_ : Value) (rs_ : List Res) => v_ = undef ∧ rs_ = []), (fun (vs298 : Nat → Value) (v_ : Value) (rs_ : List Res) => v_ = (Value.bool true) ∧ rs_ = []), (fun (vs298 : Nat → Value) (v_ : Value) (rs_ : List Res) => v_ = (Value.bool true) ∧ rs_ = []), (fun (vs298 : Nat → Value) (v_ : Value) (rs_ : List Res) => v_ = (Value.bool true) ∧ rs_ = []), (fun (vs298 : Nat → Value) (v_ : Value) (rs_ : List Res) => v_ = (Value.agg #[rl, rs, (Value.int .i64 d.spread), rb]) ∧ rs_ = []), (fun (vs298 : Nat → Value) (v_ : Value) (rs_ : List Res) => v_ = (Value.int .i64 lab) ∧ rs_ = []), (fun (vs298 : Nat → Value) (v_ : Value) (rs_ : List Res) => v_ = (Value.int .i64 ((other).tmod 2001)) ∧ rs_ = []), (fun (vs298 : Nat → Value) (v_ : Value) (rs_ : List Res) => v_ = (Value.bool (decide (lo ≤ ((other).tmod 2001)) && decide (((other).tmod 2001) ≤ hi'))) ∧ rs_ = []), (fun (vs298 : Nat → Value) (v_ : Value) (rs_ : List Res) => v_ = (Value.int .i64 ((other).tmod 2001)) ∧ rs_ = []), (fun (vs298 : Nat → Value) (v_ : Value) (rs_ : List Res) => v_ = (bptr b44 0) ∧ rs_ = []), (fun (vs298 : Nat → Value) (v_ : Value) (rs_ : List Res) => v_ = (Value.int .i64 lo) ∧ rs_ = []), (fun (vs298 : Nat → Value) (v_ : Value) (rs_ : List Res) => v_ = (bptr b44 1) ∧ rs_ = []), (fun (vs298 : Nat → Value) (v_ : Value) (rs_ : List Res) => v_ = (Value.int .i64 hi') ∧ rs_ = [])] (by decide +kernel) (by decide +kernel) rfl rfl ⟨(fun _ _ _ _ _ h_ => h_), (fun _ _ _ _ _ h_ => h_), (fun _ _ _ _ _ h_ => h_), (fun _ _ _ _ _ h_ => h_), (fun _ _ _ _ _ h_ => h_), (fun _ _ _ _ _ h_ => h_), (fun _ _ _ _ _ h_ => h_), (fun _ _ _ _ _ h_ => h_), (fun _ _ _ _ _ h_ => h_), (fun _ _ _ _ _ h_ => h_), (fun _ _ _ _ _ h_ => h_), (fun _ _ _ _ _ h_ => h_), (fun _ _ _ _ _ h_ => h_), (fun _ _ _ _ _ h_ => h_), (fun _ _ _ _ _ h_ => h_), (fun _ _ _ _ _ h_ => h_), (fun _ _ _ _ _ h_ => h_), (fun _ _ _ _ _ h_ => h_), (fun _ _ _ _ _ h_ => h_), (fun _ _ _ _ _ h_ => h_), (fun _ _ _ _ _ h_ => h_), (fun _ _ _ _ _ h_ => h_), (fun _ _ _ _ _ h_ => h_), (fun _ _ _ _ _ h_ => h_), (fun _ _ _ _ _ h_ => h_), (fun _ _ _ _ _ h_ => h_), (fun _ _ _ _ _ h_ => h_), (fun _ _ _ _ _ h_ => h_), (fun _ _ _ _ _ h_ => h_), (fun _ _ _ _ _ h_ => h_), (fun _ _ _ _ _ h_ => h_), (fun _ _ _ _ _ h_ => h_), (fun _ _ _ _ _ h_ => h_), (fun _ _ _ _ _ h_ => h_), (fun _ _ _ _ _ h_ => h_), (fun _ _ _ _ _ h_ => h_), trivial⟩ ?_ ?_
   ·skip
    refine ⟨fun a w vs298 hA hS hd => ?_, ?_⟩
    ·skip
     exact opG_of rfl (vv (op_field rfl fd_46_0 (hA.ev rfl)) (And.intro rfl rfl))
    refine ⟨fun a w vs298 hA hS hd => ?_, ?_⟩
    ·skip
     obtain ⟨e0, rs0, hy0, hp0⟩ := hd 0 (by decide)
     obtain ⟨hv0, hr0⟩ := hy0; subst hr0
     rw [hv0] at e0
     exact opG_of rfl (vv (op_load1 rfl ty_3 (tmp_ev (slot_ev e0 rfl)) (hS.bk 1 rfl) rfl) (And.intro rfl rfl))
    refine ⟨fun a w vs298 hA hS hd => ?_, ?_⟩
    ·skip
     obtain ⟨e1, rs1, hy1, hp1⟩ := hd 1 (by decide)
     obtain ⟨hv1, hr1⟩ := hy1; subst hr1
     rw [hv1] at e1
     exact opG_of rfl (vv (op_eql rfl (tmp_ev (slot_ev e1 rfl)) (evc _ _)) (And.intro (by show Value.bool _ = _; simp only [decide_eq_false hb202, Bool.not_true, Bool.not_false]) rfl))
    refine ⟨fun a w vs298 hA hS hd => ?_, ?_⟩
    ·skip
     obtain ⟨e2, rs2, hy2, hp2⟩ := hd 2 (by decide)
     obtain ⟨hv2, hr2⟩ := hy2; subst hr2
     rw [hv2] at e2
     exact opG_of rfl (vv (op_move rfl (tmp_ev (slot_ev e2 rfl))) (And.intro rfl rfl))
    refine ⟨fun a w vs298 hA hS hd => ?_, ?_⟩
    ·skip
     obtain ⟨e3, rs3, hy3, hp3⟩ := hd 3 (by decide)
     obtain ⟨hv3, hr3⟩ := hy3; subst hr3
     rw [hv3] at e3
     exact opG_yes rfl rfl (slot_ev e3 rfl) (vv (op_loadA rfl ty_26 (hA.ev rfl) (hS.bk 3 rfl) (l := [rl, rs, (Value.int .i64 d.spread), rb]) rfl rfl) (And.intro rfl rfl))
    refine ⟨fun a w vs298 hA hS hd => ?_, ?_⟩
    ·skip
     obtain ⟨e3, rs3, hy3, hp3⟩ := hd 3 (by decide)
     obtain ⟨hv3, hr3⟩ := hy3; subst hr3
     rw [hv3] at e3
     exact opG_yes rfl rfl (slot_ev e3 rfl) (vv (op_move rfl (hA.ev rfl)) (And.intro rfl rfl))
    refine ⟨fun a w vs298 hA hS hd => ?_, ?_⟩
    ·skip
     obtain ⟨e3, rs3, hy3, hp3⟩ := hd 3 (by decide)
     obtain ⟨hv3, hr3⟩ := hy3; subst hr3
     rw [hv3] at e3
     exact opG_yes rfl rfl (slot_ev e3 rfl) (vv (op_field rfl fd_46_0 (hA.ev rfl)) (And.intro rfl rfl))
    refine ⟨fun a w vs298 hA hS hd => ?_, ?_⟩
    ·skip
     obtain ⟨e3, rs3, hy3, hp3⟩ := hd 3 (by decide)
     obtain ⟨hv3, hr3⟩ := hy3; subst hr3
     rw [hv3] at e3
     obtain ⟨e6, rs6, hy6, hp6⟩ := hd 6 (by decide)
     obtain ⟨hv6, hr6⟩ := hy6; subst hr6
     rw [hv6] at e6
     exact opG_yes rfl rfl (slot_ev e3 rfl) (vv (op_load1 rfl ty_3 (tmp_ev (slot_ev e6 rfl)) (hS.bk 1 rfl) rfl) (And.intro rfl rfl))
    refine ⟨fun a w vs298 hA hS hd => ?_, ?_⟩
    ·skip
     obtain ⟨e3, rs3, hy3, hp3⟩ := hd 3 (by decide)
     obtain ⟨hv3, hr3⟩ := hy3; subst hr3
     rw [hv3] at e3
     obtain ⟨e7, rs7, hy7, hp7⟩ := hd 7 (by decide)
     obtain ⟨hv7, hr7⟩ := hy7; subst hr7
     rw [hv7] at e7
     exact opG_yes rfl rfl (slot_ev e3 rfl) (vv (op_sub rfl (tmp_ev (slot_ev e7 rfl)) (evc _ _) (by omega) (by omega)) (And.intro rfl rfl))
    refine ⟨fun a w vs298 hA hS hd => ?_, ?_⟩
    ·skip
     obtain ⟨e3, rs3, hy3, hp3⟩ := hd 3 (by decide)
     obtain ⟨hv3, hr3⟩ := hy3; subst hr3
     rw [hv3] at e3
     obtain ⟨e4, rs4, hy4, hp4⟩ := hd 4 (by decide)
     obtain ⟨hv4, hr4⟩ := hy4; subst hr4
     rw [hv4] at e4
     obtain ⟨e5, rs5, hy5, hp5⟩ := hd 5 (by decide)
     obtain ⟨hv5, hr5⟩ := hy5; subst hr5
     rw [hv5] at e5
     obtain ⟨e8, rs8, hy8, hp8⟩ := hd 8 (by decide)
     obtain ⟨hv8, hr8⟩ := hy8; subst hr8
     rw [hv8] at e8
     exact opG_yes rfl rfl (slot_ev e3 rfl) (vx (op_call rfl en_34 (ev3 (tmp_ev (slot_ev e4 rfl)) (tmp_ev (slot_ev e5 rfl)) (tmp_ev (slot_ev e8 rfl))) (by have h := (Errs_ok rl rs rb rlv d _ (rnd_at (hS.ok 4 _ rfl)) lab (lo - 1) hV (by omega)); rw [((refOk_errs hV).trans ((hn _ (by omega) (by omega)).trans (by rw [decide_eq_false (by omega)]; try rfl)))] at h; exact h)) (And.intro rfl rfl))
    refine ⟨fun a w vs298 hA hS hd => ?_, ?_⟩
    ·skip
     obtain ⟨e3, rs3, hy3, hp3⟩ := hd 3 (by decide)
     obtain ⟨hv3, hr3⟩ := hy3; subst hr3
     rw [hv3] at e3
     obtain ⟨e9, rs9, hy9, hp9⟩ := hd 9 (by decide)
     obtain ⟨hv9, hr9⟩ := hy9; subst hr9
     rw [hv9] at e9
     exact opG_yes rfl rfl (slot_ev e3 rfl) (vv (op_not rfl (tmp_ev (slot_ev e9 rfl))) (And.intro rfl rfl))
    refine ⟨fun a w vs298 hA hS hd => ?_, ?_⟩
    ·skip
     obtain ⟨e3, rs3, hy3, hp3⟩ := hd 3 (by decide)
     obtain ⟨hv3, hr3⟩ := hy3; subst hr3
     rw [hv3] at e3
     obtain ⟨e10, rs10, hy10, hp10⟩ := hd 10 (by decide)
     obtain ⟨hv10, hr10⟩ := hy10; subst hr10
     rw [hv10] at e10
     exact opG_of rfl (vv (op_pick_f rfl (tmp_ev (slot_ev e3 rfl)) (tmp_ev (slot_ev e10 rfl))) (And.intro rfl rfl))
    refine ⟨fun a w vs298 hA hS hd => ?_, ?_⟩
    ·skip
     obtain ⟨e11, rs11, hy11, hp11⟩ := hd 11 (by decide)
     obtain ⟨hv11, hr11⟩ := hy11; subst hr11
     rw [hv11] at e11
     exact opG_of rfl (vv (op_move rfl (tmp_ev (slot_ev e11 rfl))) (And.intro rfl rfl))
    refine ⟨fun a w vs298 hA hS hd => ?_, ?_⟩
    ·skip
     obtain ⟨e12, rs12, hy12, hp12⟩ := hd 12 (by decide)
     obtain ⟨hv12, hr12⟩ := hy12; subst hr12
     rw [hv12] at e12
     exact opG_yes rfl rfl (slot_ev e12 rfl) (vv (op_field rfl fd_46_1 (hA.ev rfl)) (And.intro rfl rfl))
    refine ⟨fun a w vs298 hA hS hd => ?_, ?_⟩
    ·skip
     obtain ⟨e12, rs12, hy12, hp12⟩ := hd 12 (by decide)
     obtain ⟨hv12, hr12⟩ := hy12; subst hr12
     rw [hv12] at e12
     obtain ⟨e13, rs13, hy13, hp13⟩ := hd 13 (by decide)
     obtain ⟨hv13, hr13⟩ := hy13; subst hr13
     rw [hv13] at e13
     exact opG_yes rfl rfl (slot_ev e12 rfl) (vv (op_load1 rfl ty_3 (tmp_ev (slot_ev e13 rfl)) (hS.bk 1 rfl) rfl) (And.intro rfl rfl))
    refine ⟨fun a w vs298 hA hS hd => ?_, ?_⟩
    ·skip
     obtain ⟨e12, rs12, hy12, hp12⟩ := hd 12 (by decide)
     obtain ⟨hv12, hr12⟩ := hy12; subst hr12
     rw [hv12] at e12
     obtain ⟨e14, rs14, hy14, hp14⟩ := hd 14 (by decide)
     obtain ⟨hv14, hr14⟩ := hy14; subst hr14
     rw [hv14] at e14
     exact opG_yes rfl rfl (slot_ev e12 rfl) (vv (op_eql rfl (tmp_ev (slot_ev e14 rfl)) (evc _ _)) (And.intro (by show Value.bool _ = _; simp only [decide_eq_true hb296, Bool.not_true, Bool.not_false]) rfl))
    refine ⟨fun a w vs298 hA hS hd => ?_, ?_⟩
    ·skip
     obtain ⟨e12, rs12, hy12, hp12⟩ := hd 12 (by decide)
     obtain ⟨hv12, hr12⟩ := hy12; subst hr12
     rw [hv12] at e12
     obtain ⟨e15, rs15, hy15, hp15⟩ := hd 15 (by decide)
     obtain ⟨hv15, hr15⟩ := hy15; subst hr15
     rw [hv15] at e15
     exact opG_yes rfl rfl (slot_ev e12 rfl) (vv (op_move rfl (tmp_ev (slot_ev e15 rfl))) (And.intro rfl rfl))
    refine ⟨fun a w vs298 hA hS hd => ?_, ?_⟩
    ·skip
     obtain ⟨e16, rs16, hy16, hp16⟩ := hd 16 (by decide)
     obtain ⟨hv16, hr16⟩ := hy16; subst hr16
     rw [hv16] at e16
     exact opG_no rfl rfl (slot_ev e16 rfl) rfl (vskip (And.intro rfl rfl))
    refine ⟨fun a w vs298 hA hS hd => ?_, ?_⟩
    ·skip
     obtain ⟨e16, rs16, hy16, hp16⟩ := hd 16 (by decide)
     obtain ⟨hv16, hr16⟩ := hy16; subst hr16
     rw [hv16] at e16
     exact opG_no rfl rfl (slot_ev e16 rfl) rfl (vskip (And.intro rfl rfl))
    refine ⟨fun a w vs298 hA hS hd => ?_, ?_⟩
    ·skip
     obtain ⟨e16, rs16, hy16, hp16⟩ := hd 16 (by decide)
     obtain ⟨hv16, hr16⟩ := hy16; subst hr16
     rw [hv16] at e16
     exact opG_no rfl rfl (slot_ev e16 rfl) rfl (vskip (And.intro rfl rfl))
    refine ⟨fun a w vs298 hA hS hd => ?_, ?_⟩
    ·skip
     obtain ⟨e16, rs16, hy16, hp16⟩ := hd 16 (by decide)
     obtain ⟨hv16, hr16⟩ := hy16; subst hr16
     rw [hv16] at e16
     obtain ⟨e19, rs19, hy19, hp19⟩ := hd 19 (by decide)
     obtain ⟨hv19, hr19⟩ := hy19; subst hr19
     rw [hv19] at e19
     exact opG_no rfl rfl (slot_ev e16 rfl) rfl (vskip (And.intro rfl rfl))
    refine ⟨fun a w vs298 hA hS hd => ?_, ?_⟩
    ·skip
     obtain ⟨e16, rs16, hy16, hp16⟩ := hd 16 (by decide)
     obtain ⟨hv16, hr16⟩ := hy16; subst hr16
     rw [hv16] at e16
     obtain ⟨e20, rs20, hy20, hp20⟩ := hd 20 (by decide)
     obtain ⟨hv20, hr20⟩ := hy20; subst hr20
     rw [hv20] at e20
     exact opG_no rfl rfl (slot_ev e16 rfl) rfl (vskip (And.intro rfl rfl))
    refine ⟨fun a w vs298 hA hS hd => ?_, ?_⟩
    ·skip
     obtain ⟨e16, rs16, hy16, hp16⟩ := hd 16 (by decide)
     obtain ⟨hv16, hr16⟩ := hy16; subst hr16
     rw [hv16] at e16
     obtain ⟨e17, rs17, hy17, hp17⟩ := hd 17 (by decide)
     obtain ⟨hv17, hr17⟩ := hy17; subst hr17
     rw [hv17] at e17
     obtain ⟨e18, rs18, hy18, hp18⟩ := hd 18 (by decide)
     obtain ⟨hv18, hr18⟩ := hy18; subst hr18
     rw [hv18] at e18
     obtain ⟨e21, rs21, hy21, hp21⟩ := hd 21 (by decide)
     obtain ⟨hv21, hr21⟩ := hy21; subst hr21
     rw [hv21] at e21
     exact opG_no rfl rfl (slot_ev e16 rfl) rfl (vskip (And.intro rfl rfl))
    refine ⟨fun a w vs298 hA hS hd => ?_, ?_⟩
    ·skip
     obtain ⟨e16, rs16, hy16, hp16⟩ := hd 16 (by decide)
     obtain ⟨hv16, hr16⟩ := hy16; subst hr16
     rw [hv16] at e16
     obtain ⟨e22, rs22, hy22, hp22⟩ := hd 22 (by decide)
     obtain ⟨hv22, hr22⟩ := hy22; subst hr22
     rw [hv22] at e22
     exact opG_no rfl rfl (slot_ev e16 rfl) rfl (vskip (And.intro rfl rfl))
    refine ⟨fun a w vs298 hA hS hd => ?_, ?_⟩
    ·skip
     obtain ⟨e12, rs12, hy12, hp12⟩ := hd 12 (by decide)
     obtain ⟨hv12, hr12⟩ := hy12; subst hr12
     rw [hv12] at e12
     obtain ⟨e16, rs16, hy16, hp16⟩ := hd 16 (by decide)
     obtain ⟨hv16, hr16⟩ := hy16; subst hr16
     rw [hv16] at e16
     obtain ⟨e23, rs23, hy23, hp23⟩ := hd 23 (by decide)
     obtain ⟨hv23, hr23⟩ := hy23; subst hr23
     rw [hv23] at e23
     exact opG_yes rfl rfl (slot_ev e12 rfl) (vv (op_pick_t rfl (tmp_ev (slot_ev e16 rfl)) (evc _ _)) (And.intro rfl rfl))
    refine ⟨fun a w vs298 hA hS hd => ?_, ?_⟩
    ·skip
     obtain ⟨e12, rs12, hy12, hp12⟩ := hd 12 (by decide)
     obtain ⟨hv12, hr12⟩ := hy12; subst hr12
     rw [hv12] at e12
     obtain ⟨e24, rs24, hy24, hp24⟩ := hd 24 (by decide)
     obtain ⟨hv24, hr24⟩ := hy24; subst hr24
     rw [hv24] at e24
     exact opG_of rfl (vv (op_pick_t rfl (tmp_ev (slot_ev e12 rfl)) (tmp_ev (slot_ev e24 rfl))) (And.intro rfl rfl))
    refine ⟨fun a w vs298 hA hS hd => ?_, ?_⟩
    ·skip
     obtain ⟨e25, rs25, hy25, hp25⟩ := hd 25 (by decide)
     obtain ⟨hv25, hr25⟩ := hy25; subst hr25
     rw [hv25] at e25
     exact opG_of rfl (vv (op_move rfl (tmp_ev (slot_ev e25 rfl))) (And.intro rfl rfl))
    refine ⟨fun a w vs298 hA hS hd => ?_, ?_⟩
    ·skip
     obtain ⟨e26, rs26, hy26, hp26⟩ := hd 26 (by decide)
     obtain ⟨hv26, hr26⟩ := hy26; subst hr26
     rw [hv26] at e26
     exact opG_yes rfl rfl (slot_ev e26 rfl) (vv (op_loadA rfl ty_26 (hA.ev rfl) (hS.bk 3 rfl) (l := [rl, rs, (Value.int .i64 d.spread), rb]) rfl rfl) (And.intro rfl rfl))
    refine ⟨fun a w vs298 hA hS hd => ?_, ?_⟩
    ·skip
     obtain ⟨e26, rs26, hy26, hp26⟩ := hd 26 (by decide)
     obtain ⟨hv26, hr26⟩ := hy26; subst hr26
     rw [hv26] at e26
     exact opG_yes rfl rfl (slot_ev e26 rfl) (vv (op_move rfl (hA.ev rfl)) (And.intro rfl rfl))
    refine ⟨fun a w vs298 hA hS hd => ?_, ?_⟩
    ·skip
     obtain ⟨e26, rs26, hy26, hp26⟩ := hd 26 (by decide)
     obtain ⟨hv26, hr26⟩ := hy26; subst hr26
     rw [hv26] at e26
     exact opG_yes rfl rfl (slot_ev e26 rfl) (vv (op_move rfl (hA.ev rfl)) (And.intro rfl rfl))
    refine ⟨fun a w vs298 hA hS hd => ?_, ?_⟩
    ·skip
     obtain ⟨e26, rs26, hy26, hp26⟩ := hd 26 (by decide)
     obtain ⟨hv26, hr26⟩ := hy26; subst hr26
     rw [hv26] at e26
     obtain ⟨e27, rs27, hy27, hp27⟩ := hd 27 (by decide)
     obtain ⟨hv27, hr27⟩ := hy27; subst hr27
     rw [hv27] at e27
     obtain ⟨e28, rs28, hy28, hp28⟩ := hd 28 (by decide)
     obtain ⟨hv28, hr28⟩ := hy28; subst hr28
     rw [hv28] at e28
     obtain ⟨e29, rs29, hy29, hp29⟩ := hd 29 (by decide)
     obtain ⟨hv29, hr29⟩ := hy29; subst hr29
     rw [hv29] at e29
     exact opG_yes rfl rfl (slot_ev e26 rfl) (vx (op_call rfl en_34 (ev3 (tmp_ev (slot_ev e27 rfl)) (tmp_ev (slot_ev e28 rfl)) (tmp_ev (slot_ev e29 rfl))) (by have h := (Errs_ok rl rs rb rlv d _ (rnd_at (hS.ok 4 _ rfl)) lab ((other).tmod 2001) hV (by omega)); rw [((refOk_errs hV).trans (hn _ (by omega) (by omega)))] at h; exact h)) (And.intro rfl rfl))
    refine ⟨fun a w vs298 hA hS hd => ?_, ?_⟩
    ·skip
     obtain ⟨e26, rs26, hy26, hp26⟩ := hd 26 (by decide)
     obtain ⟨hv26, hr26⟩ := hy26; subst hr26
     rw [hv26] at e26
     exact opG_yes rfl rfl (slot_ev e26 rfl) (vv (op_move rfl (hA.ev rfl)) (And.intro rfl rfl))
    refine ⟨fun a w vs298 hA hS hd => ?_, ?_⟩
    ·skip
     obtain ⟨e26, rs26, hy26, hp26⟩ := hd 26 (by decide)
     obtain ⟨hv26, hr26⟩ := hy26; subst hr26
     rw [hv26] at e26
     exact opG_yes rfl rfl (slot_ev e26 rfl) (vv (op_field rfl fd_46_0 (hA.ev rfl)) (And.intro rfl rfl))
    refine ⟨fun a w vs298 hA hS hd => ?_, ?_⟩
    ·skip
     obtain ⟨e26, rs26, hy26, hp26⟩ := hd 26 (by decide)
     obtain ⟨hv26, hr26⟩ := hy26; subst hr26
     rw [hv26] at e26
     obtain ⟨e32, rs32, hy32, hp32⟩ := hd 32 (by decide)
     obtain ⟨hv32, hr32⟩ := hy32; subst hr32
     rw [hv32] at e32
     exact opG_yes rfl rfl (slot_ev e26 rfl) (vv (op_load1 rfl ty_3 (tmp_ev (slot_ev e32 rfl)) (hS.bk 1 rfl) rfl) (And.intro rfl rfl))
    refine ⟨fun a w vs298 hA hS hd => ?_, ?_⟩
    ·skip
     obtain ⟨e26, rs26, hy26, hp26⟩ := hd 26 (by decide)
     obtain ⟨hv26, hr26⟩ := hy26; subst hr26
     rw [hv26] at e26
     exact opG_yes rfl rfl (slot_ev e26 rfl) (vv (op_field rfl fd_46_1 (hA.ev rfl)) (And.intro rfl rfl))
    refine ⟨fun a w vs298 hA hS hd => ?_, ?_⟩
    ·skip
     obtain ⟨e26, rs26, hy26, hp26⟩ := hd 26 (by decide)
     obtain ⟨hv26, hr26⟩ := hy26; subst hr26
     rw [hv26] at e26
     obtain ⟨e34, rs34, hy34, hp34⟩ := hd 34 (by decide)
     obtain ⟨hv34, hr34⟩ := hy34; subst hr34
     rw [hv34] at e34
     exact opG_yes rfl rfl (slot_ev e26 rfl) (vv (op_load1 rfl ty_3 (tmp_ev (slot_ev e34 rfl)) (hS.bk 1 rfl) rfl) (And.intro rfl rfl))
    trivial
   intro a299 w300 vs298 rsf304 hA301 hH303 hS302; clear hA297 hS194
   obtain ⟨hs_0, hy_0⟩ := hH303 0 (by decide)
   obtain ⟨hv_0, hr_0⟩ := hy_0
   obtain ⟨hs_1, hy_1⟩ := hH303 1 (by decide)
   obtain ⟨hv_1, hr_1⟩ := hy_1
   obtain ⟨hs_2, hy_2⟩ := hH303 2 (by decide)
   obtain ⟨hv_2, hr_2⟩ := hy_2
   obtain ⟨hs_3, hy_3⟩ := hH303 3 (by decide)
   obtain ⟨hv_3, hr_3⟩ := hy_3
   obtain ⟨hs_4, hy_4⟩ := hH303 4 (by decide)
   obtain ⟨hv_4, hr_4⟩ := hy_4
   obtain ⟨hs_5, hy_5⟩ := hH303 5 (by decide)
   obtain ⟨hv_5, hr_5⟩ := hy_5
   obtain ⟨hs_6, hy_6⟩ := hH303 6 (by decide)
   obtain ⟨hv_6, hr_6⟩ := hy_6
   obtain ⟨hs_7, hy_7⟩ := hH303 7 (by decide)
   obtain ⟨hv_7, hr_7⟩ := hy_7
   obtain ⟨hs_8, hy_8⟩ := hH303 8 (by decide)
   obtain ⟨hv_8, hr_8⟩ := hy_8
   obtain ⟨hs_9, hy_9⟩ := hH303 9 (by decide)
   obtain ⟨hv_9, hr_9⟩ := hy_9
   obtain ⟨hs_10, hy_10⟩ := hH303 10 (by decide)
   obtain ⟨hv_10, hr_10⟩ := hy_10
   obtain ⟨hs_11, hy_11⟩ := hH303 11 (by decide)
   obtain ⟨hv_11, hr_11⟩ := hy_11
   obtain ⟨hs_12, hy_12⟩ := hH303 12 (by decide)
   obtain ⟨hv_12, hr_12⟩ := hy_12
   obtain ⟨hs_13, hy_13⟩ := hH303 13 (by decide)
   obtain ⟨hv_13, hr_13⟩ := hy_13
   obtain ⟨hs_14, hy_14⟩ := hH303 14 (by decide)
   obtain ⟨hv_14, hr_14⟩ := hy_14
   obtain ⟨hs_15, hy_15⟩ := hH303 15 (by decide)
   obtain ⟨hv_15, hr_15⟩ := hy_15
   obtain ⟨hs_16, hy_16⟩ := hH303 16 (by decide)
   obtain ⟨hv_16, hr_16⟩ := hy_16
   obtain ⟨hs_17, hy_17⟩ := hH303 17 (by decide)
   obtain ⟨hv_17, hr_17⟩ := hy_17
   obtain ⟨hs_18, hy_18⟩ := hH303 18 (by decide)
   obtain ⟨hv_18, hr_18⟩ := hy_18
   obtain ⟨hs_19, hy_19⟩ := hH303 19 (by decide)
   obtain ⟨hv_19, hr_19⟩ := hy_19
   obtain ⟨hs_20, hy_20⟩ := hH303 20 (by decide)
   obtain ⟨hv_20, hr_20⟩ := hy_20
   obtain ⟨hs_21, hy_21⟩ := hH303 21 (by decide)
   obtain ⟨hv_21, hr_21⟩ := hy_21
   obtain ⟨hs_22, hy_22⟩ := hH303 22 (by decide)
   obtain ⟨hv_22, hr_22⟩ := hy_22
   obtain ⟨hs_23, hy_23⟩ := hH303 23 (by decide)
   obtain ⟨hv_23, hr_23⟩ := hy_23
   obtain ⟨hs_24, hy_24⟩ := hH303 24 (by decide)
   obtain ⟨hv_24, hr_24⟩ := hy_24
   obtain ⟨hs_25, hy_25⟩ := hH303 25 (by decide)
   obtain ⟨hv_25, hr_25⟩ := hy_25
   obtain ⟨hs_26, hy_26⟩ := hH303 26 (by decide)
   obtain ⟨hv_26, hr_26⟩ := hy_26
   obtain ⟨hs_27, hy_27⟩ := hH303 27 (by decide)
   obtain ⟨hv_27, hr_27⟩ := hy_27
   obtain ⟨hs_28, hy_28⟩ := hH303 28 (by decide)
   obtain ⟨hv_28, hr_28⟩ := hy_28
   obtain ⟨hs_29, hy_29⟩ := hH303 29 (by decide)
   obtain ⟨hv_29, hr_29⟩ := hy_29
   obtain ⟨hs_30, hy_30⟩ := hH303 30 (by decide)
   obtain ⟨hv_30, hr_30⟩ := hy_30
   obtain ⟨hs_31, hy_31⟩ := hH303 31 (by decide)
   obtain ⟨hv_31, hr_31⟩ := hy_31
   obtain ⟨hs_32, hy_32⟩ := hH303 32 (by decide)
   obtain ⟨hv_32, hr_32⟩ := hy_32
   obtain ⟨hs_33, hy_33⟩ := hH303 33 (by decide)
   obtain ⟨hv_33, hr_33⟩ := hy_33
   obtain ⟨hs_34, hy_34⟩ := hH303 34 (by decide)
   obtain ⟨hv_34, hr_34⟩ := hy_34
   obtain ⟨hs_35, hy_35⟩ := hH303 35 (by decide)
   obtain ⟨hv_35, hr_35⟩ := hy_35
   have hS305 : Sep NoB w w300 [(blk b101 3 [(Value.int .i64 lab)]), (blk b44 46 [(Value.int .i64 lo), (Value.int .i64 hi')]), (rndR true vl22 vs23 vb24 lv25 d), (blk b4 26 [rl, rs, (Value.int .i64 d.spread), rb]), (rndR false rl rs rb rlv d)] := by rw [show catR rsf304 0 36 = ([] : List Res) by (try simp only [catR, hr_0, hr_1, hr_2, hr_3, hr_4, hr_5, hr_6, hr_7, hr_8, hr_9, hr_10, hr_11, hr_12, hr_13, hr_14, hr_15, hr_16, hr_17, hr_18, hr_19, hr_20, hr_21, hr_22, hr_23, hr_24, hr_25, hr_26, hr_27, hr_28, hr_29, hr_30, hr_31, hr_32, hr_33, hr_34, hr_35]); (try rfl)] at hS302; exact hS302
   rw [hv_26] at hs_26
   have hA306 : Fr 157 [] [(141, (Value.bool true)), (10, (Value.int .i64 ((other).tmod 2001))), (7, (bptr b44 0)), (3, (bptr b4 0)), (1, (Value.int .i64 lab))] a299 := hA301.add (slot_ev hs_26 rfl); clear hA301
   rw [hv_30] at hs_30
   have hA307 : Fr 157 [] [(145, (Value.bool (decide (lo ≤ ((other).tmod 2001)) && decide (((other).tmod 2001) ≤ hi')))), (141, (Value.bool true)), (10, (Value.int .i64 ((other).tmod 2001))), (7, (bptr b44 0)), (3, (bptr b4 0)), (1, (Value.int .i64 lab))] a299 := hA306.add (slot_ev hs_30 rfl); clear hA306
   rw [hv_31] at hs_31
   have hA308 : Fr 157 [] [(146, (Value.int .i64 ((other).tmod 2001))), (145, (Value.bool (decide (lo ≤ ((other).tmod 2001)) && decide (((other).tmod 2001) ≤ hi')))), (141, (Value.bool true)), (10, (Value.int .i64 ((other).tmod 2001))), (7, (bptr b44 0)), (3, (bptr b4 0)), (1, (Value.int .i64 lab))] a299 := hA307.add (slot_ev hs_31 rfl); clear hA307
   rw [hv_33] at hs_33
   have hA309 : Fr 157 [] [(148, (Value.int .i64 lo)), (146, (Value.int .i64 ((other).tmod 2001))), (145, (Value.bool (decide (lo ≤ ((other).tmod 2001)) && decide (((other).tmod 2001) ≤ hi')))), (141, (Value.bool true)), (10, (Value.int .i64 ((other).tmod 2001))), (7, (bptr b44 0)), (3, (bptr b4 0)), (1, (Value.int .i64 lab))] a299 := hA308.add (slot_ev hs_33 rfl); clear hA308
   rw [hv_35] at hs_35
   have hA310 : Fr 157 [] [(150, (Value.int .i64 hi')), (148, (Value.int .i64 lo)), (146, (Value.int .i64 ((other).tmod 2001))), (145, (Value.bool (decide (lo ≤ ((other).tmod 2001)) && decide (((other).tmod 2001) ≤ hi')))), (141, (Value.bool true)), (10, (Value.int .i64 ((other).tmod 2001))), (7, (bptr b44 0)), (3, (bptr b4 0)), (1, (Value.int .i64 lab))] a299 := hA309.add (slot_ev hs_35 rfl); clear hA309
   clear hH303 hS302 hs_0 hs_1 hs_2 hs_3 hs_4 hs_5 hs_6 hs_7 hs_8 hs_9 hs_10 hs_11 hs_12 hs_13 hs_14 hs_15 hs_16 hs_17 hs_18 hs_19 hs_20 hs_21 hs_22 hs_23 hs_24 hs_25 hs_26 hs_27 hs_28 hs_29 hs_30 hs_31 hs_32 hs_33 hs_34 hs_35
   clear hr_0
   clear hv_0
   clear hr_1
   clear hv_1
   clear hr_2
   clear hv_2
   clear hr_3
   clear hv_3
   clear hr_4
   clear hv_4
   clear hr_5
   clear hv_5
   clear hr_6
   clear hv_6
   clear hr_7
   clear hv_7
   clear hr_8
   clear hv_8
   clear hr_9
   clear hv_9
   clear hr_10
   clear hv_10
   clear hr_11
   clear hv_11
   clear hr_12
   clear hv_12
   clear hr_13
   clear hv_13
   clear hr_14
   clear hv_14
   clear hr_15
   clear hv_15
   clear hr_16
   clear hv_16
   clear hr_17
   clear hv_17
   clear hr_18
   clear hv_18
   clear hr_19
   clear hv_19
   clear hr_20
   clear hv_20
   clear hr_21
   clear hv_21
   clear hr_22
   clear hv_22
   clear hr_23
   clear hv_23
   clear hr_24
   clear hv_24
   clear hr_25
   clear hv_25
   clear hr_26
   clear hv_26
   clear hr_27
   clear hv_27
   clear hr_28
   clear hv_28
   clear hr_29
   clear hv_29
   clear hr_30
   clear hv_30
   clear hr_31
   clear hv_31
   clear hr_32
   clear hv_32
   clear hr_33
   clear hv_33
   clear hr_34
   clear hv_34
   clear hr_35
   clear hv_35
   refine stwg hA310 (op_call rfl en_33 (ev3 (hA310.ev rfl) (hA310.ev rfl) (hA310.ev rfl)) (In_ok _ _ _ _)) rfl rfl rfl rfl (by decide) ?_
   rintro a311 _ _ ⟨rfl, rfl⟩ hA312; clear hA310 a299
   refine stg hA312 (op_eqlB un_4 rfl (hA312.ev rfl) (hA312.ev rfl)) rfl rfl rfl rfl (by decide) fun a314 hA315 => ?_; clear hA312 a311
   refine st hA315 (op_pick_t rfl (hA315.ev rfl) (hA315.ev rfl)) rfl rfl (by decide) fun a316 hA317 => ?_; clear hA315 a314
   refine st hA317 (op_move rfl (hA317.ev rfl)) rfl rfl (by decide) fun a318 hA319 => ?_; clear hA317 a316
   rcases Bool.eq_false_or_eq_true ((decide (lo ≤ ((other).tmod 2001)) && decide (((other).tmod 2001) ≤ hi'))) with hb320 | hb320
   ·skip
    rw [hb320] at hA319
    have hq321 := hb320; simp only [Bool.and_eq_true, Bool.and_eq_false_iff, decide_eq_true_eq, decide_eq_false_iff_not] at hq321
    refine stwg hA319 (op_call rfl en_18 ev0 (wakes_ok _)) rfl rfl rfl rfl (by decide) ?_
    rintro a322 _ w324 ⟨rfl, hE325⟩ hA323; have hS326 := hS305.step hE325; clear hE325 hA319 hS305 a318
    refine st hA323 (op_pick_t rfl (hA323.ev rfl) (hA323.ev rfl)) rfl rfl (by decide) fun a327 hA328 => ?_; clear hA323 a322
    refine st hA328 (op_assign rfl (hA328.ev rfl)) rfl rfl (by decide) fun a329 hA330 => ?_; clear hA328 a327
    refine wl_nil ?_
    refine then_n ?_
    refine c_ret ?_
    refine fin_run hA330 (.inl rfl) (run_results1 hA330 rfl (.tmp rfl)) ?_
    exact ⟨rfl, hS326.ext⟩
   ·skip
    rw [hb320] at hA319
    have hq331 := hb320; simp only [Bool.and_eq_true, Bool.and_eq_false_iff, decide_eq_true_eq, decide_eq_false_iff_not] at hq331
    refine stwg hA319 (op_call rfl en_18 ev0 (wakes_ok _)) rfl rfl rfl rfl (by decide) ?_
    rintro a332 _ w334 ⟨rfl, hE335⟩ hA333; have hS336 := hS305.step hE335; clear hE335 hA319 hS305 a318
    refine st hA333 (op_pick_t rfl (hA333.ev rfl) (hA333.ev rfl)) rfl rfl (by decide) fun a337 hA338 => ?_; clear hA333 a332
    refine st hA338 (op_assign rfl (hA338.ev rfl)) rfl rfl (by decide) fun a339 hA340 => ?_; clear hA338 a337
    refine wl_nil ?_
    refine then_n ?_
    refine c_ret ?_
    refine fin_run hA340 (.inl rfl) (run_results1 hA340 rfl (.tmp rfl)) ?_
    exact ⟨rfl, hS336.ext⟩
  ·skip
   have hA341 := hA294.as [(10, (Value.int .i64 ((other).tmod 2001))), (7, (bptr b44 0)), (3, (bptr b4 0)), (1, (Value.int .i64 lab))] rfl; clear hA294
   refine c_drawV mixed hA341 hS194 36 [[], [0], [1], [2], [3], [3], [3], [3, 6], [3, 7], [3, 4, 5, 8], [3, 9], [3, 10], [11], [12], [12, 13], [12, 14], [12, 15], [16], [16], [16], [16, 19], [16, 20], [16, 17, 18, 21], [16, 22], [12, 16, 23], [12, 24], [25], [26], [26], [26], [26, 27, 28, 29], [26], [26], [26, 32], [26], [26, 34]] [(fun (vs342 : Nat → Value) (v_ : Value) (rs_ : List Res) => v_ = (bptr b44 0) ∧ rs_ = []), (fun (vs342 : Nat → Value) (v_ : Value) (rs_ : List Res) => v_ = (Value.int .i64 lo) ∧ rs_ = []), (fun (vs342 : Nat → Value) (v_ : Value) (rs_ : List Res) => v_ = (Value.bool false) ∧ rs_ = []), (fun (vs342 : Nat → Value) (v_ : Value) (rs_ : List Res) => v_ = (Value.bool false) ∧ rs_ = []), (fun (vs342 : Nat → Value) (v_ : Value) (rs_ : List Res) => v_ = (Value.agg #[rl, rs, (Value.int .i64 d.spread), rb]) ∧ rs_ = []), (fun (vs342 : Nat → Value) (v_ : Value) (rs_ : List Res) => v_ = (Value.int .i64 lab) ∧ rs_ = []), (fun (vs342 : Nat → Value) (v_ : Value) (rs_ : List Res) => v_ = (bptr b44 0) ∧ rs_ = []), (fun (vs342 : Nat → Value) (v_ : Value) (rs_ : List Res) => v_ = (Value.int .i64 lo) ∧ rs_ = []), (fun (vs342 : Nat → Value) (v_ : Value) (rs_ : List Res) => v_ = (Value.int .i64 (lo - 1)) ∧ rs_ = []), (fun (vs342 : Nat → Value) (v_ : Value) (rs_ : List Res) => v_ = (Value.bool false) ∧ rs_ = []), (fun (vs342 : Nat → Value) (v_ : Value) (rs_ : List Res) => v_ = (Value.bool (!false)) ∧ rs_ = []), (fun (vs342 : Nat → Value) (v_ : Value) (rs_ : List Res) => v_ = (Value.bool (!false)) ∧ rs_ = []), (fun (vs342 : Nat → Value) (v_ : Value) (rs_ : List Res) => v_ = (Value.bool (!false)) ∧ rs_ = []), (fun (vs342 : Nat → Value) (v_ : Value) (rs_ : List Res) => v_ = (bptr b44 1) ∧ rs_ = []), (fun (vs342 : Nat → Value) (v_ : Value) (rs_ : List Res) => v_ = (Value.int .i64 hi') ∧ rs_ = []), (fun (vs342 : Nat → Value) (v_ : Value) (rs_ : List Res) => v_ = (Value.bool false) ∧ rs_ = []), (fun (vs342 : Nat → Value) (v_ : Value) (rs_ : List Res) => v_ = (Value.bool false) ∧ rs_ = []), (fun (vs342 : Nat → Value) (v_ : Value) (rs_ : List Res) => v_ = (Value.agg #[rl, rs, (Value.int .i64 d.spread), rb]) ∧ rs_ = []), (fun (vs342 : Nat → Value) (v_ : Value) (rs_ : List Res) => v_ = (Value.int .i64 lab) ∧ rs_ = []), (fun (vs342 : Nat → Value) (v_ : Value) (rs_ : List Res) => v_ = (bptr b44 1) ∧ rs_ = []), (fun (vs342 : Nat → Value) (v_ : Value) (rs_ : List Res) => v_ = (Value.int .i64 hi') ∧ rs_ = []), (fun (vs342 : Nat → Value) (v_ : Value) (rs_ : List Res) => v_ = (Value.int .i64 (hi' + 1)) ∧ rs_ = []), (fun (vs342 : Nat → Value) (v_ : Value) (rs_ : List Res) => v_ = (Value.bool false) ∧ rs_ = []), (fun (vs342 : Nat → Value) (v_ : Value) (rs_ : List Res) => v_ = (Value.bool (!false)) ∧ rs_ = []), (fun (vs342 : Nat → Value) (v_ : Value) (rs_ : List Res) => v_ = (Value.bool (!false)) ∧ rs_ = []), (fun (vs342 : Nat → Value) (v_ : Value) (rs_ : List Res) => v_ = (Value.bool (!false)) ∧ rs_ = []), (fun (vs342 : Nat → Value) (v_ : Value) (rs_ : List Res) => v_ = (Value.bool (!false)) ∧ rs_ = []), (fun (vs342 : Nat → Value) (v_ : Value) (rs_ : List Res) => v_ = (Value.agg #[rl, rs, (Value.int .i64 d.spread), rb]) ∧ rs_ = []), (fun (vs342 : Nat → Value) (v_ : Value) (rs_ : List Res) => v_ = (Value.int .i64 lab) ∧ rs_ = []), (fun (vs342 : Nat → Value) (v_ : Value) (rs_ : List Res) => v_ = (Value.int .i64 ((other).tmod 2001)) ∧ rs_ = []), (fun (vs342 : Nat → Value) (v_ : Value) (rs_ : List Res) => v_ = (Value.bool (decide (lo ≤ ((other).tmod 2001)) && decide (((other).tmod 2001) ≤ hi'))) ∧ rs_ = []), (fun (vs342 : Nat → Value) (v_ : Value) (rs_ : List Res) => v_ = (Value.int .i64 ((other).tmod 2001)) ∧ rs_ = []), (fun (vs342 : Nat → Value) (v_ : Value) (rs_ : List Res) => v_ = (bptr b44 0) ∧ rs_ = []), (fun (vs342 : Nat → Value) (v_ : Value) (rs_ : List Res) => v_ = (Value.int .i64 lo) ∧ rs_ = []), (fun (vs342 : Nat → Value) (v_ : Value) (rs_ : List Res) => v_ = (bptr b44 1) ∧ rs_ = []), (fun (vs342 : Nat → Value) (v_ : Value) (rs_ : List Res) => v_ = (Value.int .i64 hi') ∧ rs_ = [])] (by decide +kernel) (by decide +kernel) rfl rfl ⟨(fun _ _ _ _ _ h_ => h_), (fun _ _ _ _ _ h_ => h_), (fun _ _ _ _ _ h_ => h_), (fun _ _ _ _ _ h_ => h_), (fun _ _ _ _ _ h_ => h_), (fun _ _ _ _ _ h_ => h_), (fun _ _ _ _ _ h_ => h_), (fun _ _ _ _ _ h_ => h_), (fun _ _ _ _ _ h_ => h_), (fun _ _ _ _ _ h_ => h_), (fun _ _ _ _ _ h_ => h_), (fun _ _ _ _ _ h_ => h_), (fun _ _ _ _ _ h_ => h_), (fun _ _ _ _ _ h_ => h_), (fun _ _ _ _ _ h_ => h_), (fun _ _ _ _ _ h_ => h_), (fun _ _ _ _ _ h_ => h_), (fun _ _ _ _ _ h_ => h_), (fun _ _ _ _ _ h_ => h_), (fun _ _ _ _ _ h_ => h_), (fun _ _ _ _ _ h_ => h_), (fun _ _ _ _ _ h_ => h_), (fun _ _ _ _ _ h_ => h_), (fun _ _ _ _ _ h_ => h_), (fun _ _ _ _ _ h_ => h_), (fun _ _ _ _ _ h_ => h_), (fun _ _ _ _ _ h_ => h_), (fun _ _ _ _ _ h_ => h_), (fun _ _ _ _ _ h_ => h_), (fun _ _ _ _ _ h_ => h_), (fun _ _ _ _ _ h_ => h_), (fun _ _ _ _ _ h_ => h_), (fun _ _ _ _ _ h_ => h_), (fun _ _ _ _ _ h_ => h_), (fun _ _ _ _ _ h_ => h_), (fun _ _ _ _ _ h_ => h_), trivial⟩ ?_ ?_
   ·skip
    refine ⟨fun a w vs342 hA hS hd => ?_, ?_⟩
    ·skip
     exact opG_of rfl (vv (op_field rfl fd_46_0 (hA.ev rfl)) (And.intro rfl rfl))
    refine ⟨fun a w vs342 hA hS hd => ?_, ?_⟩
    ·skip
     obtain ⟨e0, rs0, hy0, hp0⟩ := hd 0 (by decide)
     obtain ⟨hv0, hr0⟩ := hy0; subst hr0
     rw [hv0] at e0
     exact opG_of rfl (vv (op_load1 rfl ty_3 (tmp_ev (slot_ev e0 rfl)) (hS.bk 1 rfl) rfl) (And.intro rfl rfl))
    refine ⟨fun a w vs342 hA hS hd => ?_, ?_⟩
    ·skip
     obtain ⟨e1, rs1, hy1, hp1⟩ := hd 1 (by decide)
     obtain ⟨hv1, hr1⟩ := hy1; subst hr1
     rw [hv1] at e1
     exact opG_of rfl (vv (op_eql rfl (tmp_ev (slot_ev e1 rfl)) (evc _ _)) (And.intro (by show Value.bool _ = _; simp only [decide_eq_false hb202, Bool.not_true, Bool.not_false]) rfl))
    refine ⟨fun a w vs342 hA hS hd => ?_, ?_⟩
    ·skip
     obtain ⟨e2, rs2, hy2, hp2⟩ := hd 2 (by decide)
     obtain ⟨hv2, hr2⟩ := hy2; subst hr2
     rw [hv2] at e2
     exact opG_of rfl (vv (op_move rfl (tmp_ev (slot_ev e2 rfl))) (And.intro rfl rfl))
    refine ⟨fun a w vs342 hA hS hd => ?_, ?_⟩
    ·skip
     obtain ⟨e3, rs3, hy3, hp3⟩ := hd 3 (by decide)
     obtain ⟨hv3, hr3⟩ := hy3; subst hr3
     rw [hv3] at e3
     exact opG_yes rfl rfl (slot_ev e3 rfl) (vv (op_loadA rfl ty_26 (hA.ev rfl) (hS.bk 3 rfl) (l := [rl, rs, (Value.int .i64 d.spread), rb]) rfl rfl) (And.intro rfl rfl))
    refine ⟨fun a w vs342 hA hS hd => ?_, ?_⟩
    ·skip
     obtain ⟨e3, rs3, hy3, hp3⟩ := hd 3 (by decide)
     obtain ⟨hv3, hr3⟩ := hy3; subst hr3
     rw [hv3] at e3
     exact opG_yes rfl rfl (slot_ev e3 rfl) (vv (op_move rfl (hA.ev rfl)) (And.intro rfl rfl))
    refine ⟨fun a w vs342 hA hS hd => ?_, ?_⟩
    ·skip
     obtain ⟨e3, rs3, hy3, hp3⟩ := hd 3 (by decide)
     obtain ⟨hv3, hr3⟩ := hy3; subst hr3
     rw [hv3] at e3
     exact opG_yes rfl rfl (slot_ev e3 rfl) (vv (op_field rfl fd_46_0 (hA.ev rfl)) (And.intro rfl rfl))
    refine ⟨fun a w vs342 hA hS hd => ?_, ?_⟩
    ·skip
     obtain ⟨e3, rs3, hy3, hp3⟩ := hd 3 (by decide)
     obtain ⟨hv3, hr3⟩ := hy3; subst hr3
     rw [hv3] at e3
     obtain ⟨e6, rs6, hy6, hp6⟩ := hd 6 (by decide)
     obtain ⟨hv6, hr6⟩ := hy6; subst hr6
     rw [hv6] at e6
     exact opG_yes rfl rfl (slot_ev e3 rfl) (vv (op_load1 rfl ty_3 (tmp_ev (slot_ev e6 rfl)) (hS.bk 1 rfl) rfl) (And.intro rfl rfl))
    refine ⟨fun a w vs342 hA hS hd => ?_, ?_⟩
    ·skip
     obtain ⟨e3, rs3, hy3, hp3⟩ := hd 3 (by decide)
     obtain ⟨hv3, hr3⟩ := hy3; subst hr3
     rw [hv3] at e3
     obtain ⟨e7, rs7, hy7, hp7⟩ := hd 7 (by decide)
     obtain ⟨hv7, hr7⟩ := hy7; subst hr7
     rw [hv7] at e7
     exact opG_yes rfl rfl (slot_ev e3 rfl) (vv (op_sub rfl (tmp_ev (slot_ev e7 rfl)) (evc _ _) (by omega) (by omega)) (And.intro rfl rfl))
    refine ⟨fun a w vs342 hA hS hd => ?_, ?_⟩
    ·skip
     obtain ⟨e3, rs3, hy3, hp3⟩ := hd 3 (by decide)
     obtain ⟨hv3, hr3⟩ := hy3; subst hr3
     rw [hv3] at e3
     obtain ⟨e4, rs4, hy4, hp4⟩ := hd 4 (by decide)
     obtain ⟨hv4, hr4⟩ := hy4; subst hr4
     rw [hv4] at e4
     obtain ⟨e5, rs5, hy5, hp5⟩ := hd 5 (by decide)
     obtain ⟨hv5, hr5⟩ := hy5; subst hr5
     rw [hv5] at e5
     obtain ⟨e8, rs8, hy8, hp8⟩ := hd 8 (by decide)
     obtain ⟨hv8, hr8⟩ := hy8; subst hr8
     rw [hv8] at e8
     exact opG_yes rfl rfl (slot_ev e3 rfl) (vx (op_call rfl en_34 (ev3 (tmp_ev (slot_ev e4 rfl)) (tmp_ev (slot_ev e5 rfl)) (tmp_ev (slot_ev e8 rfl))) (by have h := (Errs_ok rl rs rb rlv d _ (rnd_at (hS.ok 4 _ rfl)) lab (lo - 1) hV (by omega)); rw [((refOk_errs hV).trans ((hn _ (by omega) (by omega)).trans (by rw [decide_eq_false (by omega)]; try rfl)))] at h; exact h)) (And.intro rfl rfl))
    refine ⟨fun a w vs342 hA hS hd => ?_, ?_⟩
    ·skip
     obtain ⟨e3, rs3, hy3, hp3⟩ := hd 3 (by decide)
     obtain ⟨hv3, hr3⟩ := hy3; subst hr3
     rw [hv3] at e3
     obtain ⟨e9, rs9, hy9, hp9⟩ := hd 9 (by decide)
     obtain ⟨hv9, hr9⟩ := hy9; subst hr9
     rw [hv9] at e9
     exact opG_yes rfl rfl (slot_ev e3 rfl) (vv (op_not rfl (tmp_ev (slot_ev e9 rfl))) (And.intro rfl rfl))
    refine ⟨fun a w vs342 hA hS hd => ?_, ?_⟩
    ·skip
     obtain ⟨e3, rs3, hy3, hp3⟩ := hd 3 (by decide)
     obtain ⟨hv3, hr3⟩ := hy3; subst hr3
     rw [hv3] at e3
     obtain ⟨e10, rs10, hy10, hp10⟩ := hd 10 (by decide)
     obtain ⟨hv10, hr10⟩ := hy10; subst hr10
     rw [hv10] at e10
     exact opG_of rfl (vv (op_pick_f rfl (tmp_ev (slot_ev e3 rfl)) (tmp_ev (slot_ev e10 rfl))) (And.intro rfl rfl))
    refine ⟨fun a w vs342 hA hS hd => ?_, ?_⟩
    ·skip
     obtain ⟨e11, rs11, hy11, hp11⟩ := hd 11 (by decide)
     obtain ⟨hv11, hr11⟩ := hy11; subst hr11
     rw [hv11] at e11
     exact opG_of rfl (vv (op_move rfl (tmp_ev (slot_ev e11 rfl))) (And.intro rfl rfl))
    refine ⟨fun a w vs342 hA hS hd => ?_, ?_⟩
    ·skip
     obtain ⟨e12, rs12, hy12, hp12⟩ := hd 12 (by decide)
     obtain ⟨hv12, hr12⟩ := hy12; subst hr12
     rw [hv12] at e12
     exact opG_yes rfl rfl (slot_ev e12 rfl) (vv (op_field rfl fd_46_1 (hA.ev rfl)) (And.intro rfl rfl))
    refine ⟨fun a w vs342 hA hS hd => ?_, ?_⟩
    ·skip
     obtain ⟨e12, rs12, hy12, hp12⟩ := hd 12 (by decide)
     obtain ⟨hv12, hr12⟩ := hy12; subst hr12
     rw [hv12] at e12
     obtain ⟨e13, rs13, hy13, hp13⟩ := hd 13 (by decide)
     obtain ⟨hv13, hr13⟩ := hy13; subst hr13
     rw [hv13] at e13
     exact opG_yes rfl rfl (slot_ev e12 rfl) (vv (op_load1 rfl ty_3 (tmp_ev (slot_ev e13 rfl)) (hS.bk 1 rfl) rfl) (And.intro rfl rfl))
    refine ⟨fun a w vs342 hA hS hd => ?_, ?_⟩
    ·skip
     obtain ⟨e12, rs12, hy12, hp12⟩ := hd 12 (by decide)
     obtain ⟨hv12, hr12⟩ := hy12; subst hr12
     rw [hv12] at e12
     obtain ⟨e14, rs14, hy14, hp14⟩ := hd 14 (by decide)
     obtain ⟨hv14, hr14⟩ := hy14; subst hr14
     rw [hv14] at e14
     exact opG_yes rfl rfl (slot_ev e12 rfl) (vv (op_eql rfl (tmp_ev (slot_ev e14 rfl)) (evc _ _)) (And.intro (by show Value.bool _ = _; simp only [decide_eq_false hb296, Bool.not_true, Bool.not_false]) rfl))
    refine ⟨fun a w vs342 hA hS hd => ?_, ?_⟩
    ·skip
     obtain ⟨e12, rs12, hy12, hp12⟩ := hd 12 (by decide)
     obtain ⟨hv12, hr12⟩ := hy12; subst hr12
     rw [hv12] at e12
     obtain ⟨e15, rs15, hy15, hp15⟩ := hd 15 (by decide)
     obtain ⟨hv15, hr15⟩ := hy15; subst hr15
     rw [hv15] at e15
     exact opG_yes rfl rfl (slot_ev e12 rfl) (vv (op_move rfl (tmp_ev (slot_ev e15 rfl))) (And.intro rfl rfl))
    refine ⟨fun a w vs342 hA hS hd => ?_, ?_⟩
    ·skip
     obtain ⟨e16, rs16, hy16, hp16⟩ := hd 16 (by decide)
     obtain ⟨hv16, hr16⟩ := hy16; subst hr16
     rw [hv16] at e16
     exact opG_yes rfl rfl (slot_ev e16 rfl) (vv (op_loadA rfl ty_26 (hA.ev rfl) (hS.bk 3 rfl) (l := [rl, rs, (Value.int .i64 d.spread), rb]) rfl rfl) (And.intro rfl rfl))
    refine ⟨fun a w vs342 hA hS hd => ?_, ?_⟩
    ·skip
     obtain ⟨e16, rs16, hy16, hp16⟩ := hd 16 (by decide)
     obtain ⟨hv16, hr16⟩ := hy16; subst hr16
     rw [hv16] at e16
     exact opG_yes rfl rfl (slot_ev e16 rfl) (vv (op_move rfl (hA.ev rfl)) (And.intro rfl rfl))
    refine ⟨fun a w vs342 hA hS hd => ?_, ?_⟩
    ·skip
     obtain ⟨e16, rs16, hy16, hp16⟩ := hd 16 (by decide)
     obtain ⟨hv16, hr16⟩ := hy16; subst hr16
     rw [hv16] at e16
     exact opG_yes rfl rfl (slot_ev e16 rfl) (vv (op_field rfl fd_46_1 (hA.ev rfl)) (And.intro rfl rfl))
    refine ⟨fun a w vs342 hA hS hd => ?_, ?_⟩
    ·skip
     obtain ⟨e16, rs16, hy16, hp16⟩ := hd 16 (by decide)
     obtain ⟨hv16, hr16⟩ := hy16; subst hr16
     rw [hv16] at e16
     obtain ⟨e19, rs19, hy19, hp19⟩ := hd 19 (by decide)
     obtain ⟨hv19, hr19⟩ := hy19; subst hr19
     rw [hv19] at e19
     exact opG_yes rfl rfl (slot_ev e16 rfl) (vv (op_load1 rfl ty_3 (tmp_ev (slot_ev e19 rfl)) (hS.bk 1 rfl) rfl) (And.intro rfl rfl))
    refine ⟨fun a w vs342 hA hS hd => ?_, ?_⟩
    ·skip
     obtain ⟨e16, rs16, hy16, hp16⟩ := hd 16 (by decide)
     obtain ⟨hv16, hr16⟩ := hy16; subst hr16
     rw [hv16] at e16
     obtain ⟨e20, rs20, hy20, hp20⟩ := hd 20 (by decide)
     obtain ⟨hv20, hr20⟩ := hy20; subst hr20
     rw [hv20] at e20
     exact opG_yes rfl rfl (slot_ev e16 rfl) (vv (op_add rfl (tmp_ev (slot_ev e20 rfl)) (evc _ _) (by omega) (by omega)) (And.intro rfl rfl))
    refine ⟨fun a w vs342 hA hS hd => ?_, ?_⟩
    ·skip
     obtain ⟨e16, rs16, hy16, hp16⟩ := hd 16 (by decide)
     obtain ⟨hv16, hr16⟩ := hy16; subst hr16
     rw [hv16] at e16
     obtain ⟨e17, rs17, hy17, hp17⟩ := hd 17 (by decide)
     obtain ⟨hv17, hr17⟩ := hy17; subst hr17
     rw [hv17] at e17
     obtain ⟨e18, rs18, hy18, hp18⟩ := hd 18 (by decide)
     obtain ⟨hv18, hr18⟩ := hy18; subst hr18
     rw [hv18] at e18
     obtain ⟨e21, rs21, hy21, hp21⟩ := hd 21 (by decide)
     obtain ⟨hv21, hr21⟩ := hy21; subst hr21
     rw [hv21] at e21
     exact opG_yes rfl rfl (slot_ev e16 rfl) (vx (op_call rfl en_34 (ev3 (tmp_ev (slot_ev e17 rfl)) (tmp_ev (slot_ev e18 rfl)) (tmp_ev (slot_ev e21 rfl))) (by have h := (Errs_ok rl rs rb rlv d _ (rnd_at (hS.ok 4 _ rfl)) lab (hi' + 1) hV (by omega)); rw [((refOk_errs hV).trans ((hn _ (by omega) (by omega)).trans (by rw [decide_eq_false (show ¬ (hi' + 1 ≤ hi') by omega), Bool.and_false])))] at h; exact h)) (And.intro rfl rfl))
    refine ⟨fun a w vs342 hA hS hd => ?_, ?_⟩
    ·skip
     obtain ⟨e16, rs16, hy16, hp16⟩ := hd 16 (by decide)
     obtain ⟨hv16, hr16⟩ := hy16; subst hr16
     rw [hv16] at e16
     obtain ⟨e22, rs22, hy22, hp22⟩ := hd 22 (by decide)
     obtain ⟨hv22, hr22⟩ := hy22; subst hr22
     rw [hv22] at e22
     exact opG_yes rfl rfl (slot_ev e16 rfl) (vv (op_not rfl (tmp_ev (slot_ev e22 rfl))) (And.intro rfl rfl))
    refine ⟨fun a w vs342 hA hS hd => ?_, ?_⟩
    ·skip
     obtain ⟨e12, rs12, hy12, hp12⟩ := hd 12 (by decide)
     obtain ⟨hv12, hr12⟩ := hy12; subst hr12
     rw [hv12] at e12
     obtain ⟨e16, rs16, hy16, hp16⟩ := hd 16 (by decide)
     obtain ⟨hv16, hr16⟩ := hy16; subst hr16
     rw [hv16] at e16
     obtain ⟨e23, rs23, hy23, hp23⟩ := hd 23 (by decide)
     obtain ⟨hv23, hr23⟩ := hy23; subst hr23
     rw [hv23] at e23
     exact opG_yes rfl rfl (slot_ev e12 rfl) (vv (op_pick_f rfl (tmp_ev (slot_ev e16 rfl)) (tmp_ev (slot_ev e23 rfl))) (And.intro rfl rfl))
    refine ⟨fun a w vs342 hA hS hd => ?_, ?_⟩
    ·skip
     obtain ⟨e12, rs12, hy12, hp12⟩ := hd 12 (by decide)
     obtain ⟨hv12, hr12⟩ := hy12; subst hr12
     rw [hv12] at e12
     obtain ⟨e24, rs24, hy24, hp24⟩ := hd 24 (by decide)
     obtain ⟨hv24, hr24⟩ := hy24; subst hr24
     rw [hv24] at e24
     exact opG_of rfl (vv (op_pick_t rfl (tmp_ev (slot_ev e12 rfl)) (tmp_ev (slot_ev e24 rfl))) (And.intro rfl rfl))
    refine ⟨fun a w vs342 hA hS hd => ?_, ?_⟩
    ·skip
     obtain ⟨e25, rs25, hy25, hp25⟩ := hd 25 (by decide)
     obtain ⟨hv25, hr25⟩ := hy25; subst hr25
     rw [hv25] at e25
     exact opG_of rfl (vv (op_move rfl (tmp_ev (slot_ev e25 rfl))) (And.intro rfl rfl))
    refine ⟨fun a w vs342 hA hS hd => ?_, ?_⟩
    ·skip
     obtain ⟨e26, rs26, hy26, hp26⟩ := hd 26 (by decide)
     obtain ⟨hv26, hr26⟩ := hy26; subst hr26
     rw [hv26] at e26
     exact opG_yes rfl rfl (slot_ev e26 rfl) (vv (op_loadA rfl ty_26 (hA.ev rfl) (hS.bk 3 rfl) (l := [rl, rs, (Value.int .i64 d.spread), rb]) rfl rfl) (And.intro rfl rfl))
    refine ⟨fun a w vs342 hA hS hd => ?_, ?_⟩
    ·skip
     obtain ⟨e26, rs26, hy26, hp26⟩ := hd 26 (by decide)
     obtain ⟨hv26, hr26⟩ := hy26; subst hr26
     rw [hv26] at e26
     exact opG_yes rfl rfl (slot_ev e26 rfl) (vv (op_move rfl (hA.ev rfl)) (And.intro rfl rfl))
    refine ⟨fun a w vs342 hA hS hd => ?_, ?_⟩
    ·skip
     obtain ⟨e26, rs26, hy26, hp26⟩ := hd 26 (by decide)
     obtain ⟨hv26, hr26⟩ := hy26; subst hr26
     rw [hv26] at e26
     exact opG_yes rfl rfl (slot_ev e26 rfl) (vv (op_move rfl (hA.ev rfl)) (And.intro rfl rfl))
    refine ⟨fun a w vs342 hA hS hd => ?_, ?_⟩
    ·skip
     obtain ⟨e26, rs26, hy26, hp26⟩ := hd 26 (by decide)
     obtain ⟨hv26, hr26⟩ := hy26; subst hr26
     rw [hv26] at e26
     obtain ⟨e27, rs27, hy27, hp27⟩ := hd 27 (by decide)
     obtain ⟨hv27, hr27⟩ := hy27; subst hr27
     rw [hv27] at e27
     obtain ⟨e28, rs28, hy28, hp28⟩ := hd 28 (by decide)
     obtain ⟨hv28, hr28⟩ := hy28; subst hr28
     rw [hv28] at e28
     obtain ⟨e29, rs29, hy29, hp29⟩ := hd 29 (by decide)
     obtain ⟨hv29, hr29⟩ := hy29; subst hr29
     rw [hv29] at e29
     exact opG_yes rfl rfl (slot_ev e26 rfl) (vx (op_call rfl en_34 (ev3 (tmp_ev (slot_ev e27 rfl)) (tmp_ev (slot_ev e28 rfl)) (tmp_ev (slot_ev e29 rfl))) (by have h := (Errs_ok rl rs rb rlv d _ (rnd_at (hS.ok 4 _ rfl)) lab ((other).tmod 2001) hV (by omega)); rw [((refOk_errs hV).trans (hn _ (by omega) (by omega)))] at h; exact h)) (And.intro rfl rfl))
    refine ⟨fun a w vs342 hA hS hd => ?_, ?_⟩
    ·skip
     obtain ⟨e26, rs26, hy26, hp26⟩ := hd 26 (by decide)
     obtain ⟨hv26, hr26⟩ := hy26; subst hr26
     rw [hv26] at e26
     exact opG_yes rfl rfl (slot_ev e26 rfl) (vv (op_move rfl (hA.ev rfl)) (And.intro rfl rfl))
    refine ⟨fun a w vs342 hA hS hd => ?_, ?_⟩
    ·skip
     obtain ⟨e26, rs26, hy26, hp26⟩ := hd 26 (by decide)
     obtain ⟨hv26, hr26⟩ := hy26; subst hr26
     rw [hv26] at e26
     exact opG_yes rfl rfl (slot_ev e26 rfl) (vv (op_field rfl fd_46_0 (hA.ev rfl)) (And.intro rfl rfl))
    refine ⟨fun a w vs342 hA hS hd => ?_, ?_⟩
    ·skip
     obtain ⟨e26, rs26, hy26, hp26⟩ := hd 26 (by decide)
     obtain ⟨hv26, hr26⟩ := hy26; subst hr26
     rw [hv26] at e26
     obtain ⟨e32, rs32, hy32, hp32⟩ := hd 32 (by decide)
     obtain ⟨hv32, hr32⟩ := hy32; subst hr32
     rw [hv32] at e32
     exact opG_yes rfl rfl (slot_ev e26 rfl) (vv (op_load1 rfl ty_3 (tmp_ev (slot_ev e32 rfl)) (hS.bk 1 rfl) rfl) (And.intro rfl rfl))
    refine ⟨fun a w vs342 hA hS hd => ?_, ?_⟩
    ·skip
     obtain ⟨e26, rs26, hy26, hp26⟩ := hd 26 (by decide)
     obtain ⟨hv26, hr26⟩ := hy26; subst hr26
     rw [hv26] at e26
     exact opG_yes rfl rfl (slot_ev e26 rfl) (vv (op_field rfl fd_46_1 (hA.ev rfl)) (And.intro rfl rfl))
    refine ⟨fun a w vs342 hA hS hd => ?_, ?_⟩
    ·skip
     obtain ⟨e26, rs26, hy26, hp26⟩ := hd 26 (by decide)
     obtain ⟨hv26, hr26⟩ := hy26; subst hr26
     rw [hv26] at e26
     obtain ⟨e34, rs34, hy34, hp34⟩ := hd 34 (by decide)
     obtain ⟨hv34, hr34⟩ := hy34; subst hr34
     rw [hv34] at e34
     exact opG_yes rfl rfl (slot_ev e26 rfl) (vv (op_load1 rfl ty_3 (tmp_ev (slot_ev e34 rfl)) (hS.bk 1 rfl) rfl) (And.intro rfl rfl))
    trivial
   intro a343 w344 vs342 rsf348 hA345 hH347 hS346; clear hA341 hS194
   obtain ⟨hs_0, hy_0⟩ := hH347 0 (by decide)
   obtain ⟨hv_0, hr_0⟩ := hy_0
   obtain ⟨hs_1, hy_1⟩ := hH347 1 (by decide)
   obtain ⟨hv_1, hr_1⟩ := hy_1
   obtain ⟨hs_2, hy_2⟩ := hH347 2 (by decide)
   obtain ⟨hv_2, hr_2⟩ := hy_2
   obtain ⟨hs_3, hy_3⟩ := hH347 3 (by decide)
   obtain ⟨hv_3, hr_3⟩ := hy_3
   obtain ⟨hs_4, hy_4⟩ := hH347 4 (by decide)
   obtain ⟨hv_4, hr_4⟩ := hy_4
   obtain ⟨hs_5, hy_5⟩ := hH347 5 (by decide)
   obtain ⟨hv_5, hr_5⟩ := hy_5
   obtain ⟨hs_6, hy_6⟩ := hH347 6 (by decide)
   obtain ⟨hv_6, hr_6⟩ := hy_6
   obtain ⟨hs_7, hy_7⟩ := hH347 7 (by decide)
   obtain ⟨hv_7, hr_7⟩ := hy_7
   obtain ⟨hs_8, hy_8⟩ := hH347 8 (by decide)
   obtain ⟨hv_8, hr_8⟩ := hy_8
   obtain ⟨hs_9, hy_9⟩ := hH347 9 (by decide)
   obtain ⟨hv_9, hr_9⟩ := hy_9
   obtain ⟨hs_10, hy_10⟩ := hH347 10 (by decide)
   obtain ⟨hv_10, hr_10⟩ := hy_10
   obtain ⟨hs_11, hy_11⟩ := hH347 11 (by decide)
   obtain ⟨hv_11, hr_11⟩ := hy_11
   obtain ⟨hs_12, hy_12⟩ := hH347 12 (by decide)
   obtain ⟨hv_12, hr_12⟩ := hy_12
   obtain ⟨hs_13, hy_13⟩ := hH347 13 (by decide)
   obtain ⟨hv_13, hr_13⟩ := hy_13
   obtain ⟨hs_14, hy_14⟩ := hH347 14 (by decide)
   obtain ⟨hv_14, hr_14⟩ := hy_14
   obtain ⟨hs_15, hy_15⟩ := hH347 15 (by decide)
   obtain ⟨hv_15, hr_15⟩ := hy_15
   obtain ⟨hs_16, hy_16⟩ := hH347 16 (by decide)
   obtain ⟨hv_16, hr_16⟩ := hy_16
   obtain ⟨hs_17, hy_17⟩ := hH347 17 (by decide)
   obtain ⟨hv_17, hr_17⟩ := hy_17
   obtain ⟨hs_18, hy_18⟩ := hH347 18 (by decide)
   obtain ⟨hv_18, hr_18⟩ := hy_18
   obtain ⟨hs_19, hy_19⟩ := hH347 19 (by decide)
   obtain ⟨hv_19, hr_19⟩ := hy_19
   obtain ⟨hs_20, hy_20⟩ := hH347 20 (by decide)
   obtain ⟨hv_20, hr_20⟩ := hy_20
   obtain ⟨hs_21, hy_21⟩ := hH347 21 (by decide)
   obtain ⟨hv_21, hr_21⟩ := hy_21
   obtain ⟨hs_22, hy_22⟩ := hH347 22 (by decide)
   obtain ⟨hv_22, hr_22⟩ := hy_22
   obtain ⟨hs_23, hy_23⟩ := hH347 23 (by decide)
   obtain ⟨hv_23, hr_23⟩ := hy_23
   obtain ⟨hs_24, hy_24⟩ := hH347 24 (by decide)
   obtain ⟨hv_24, hr_24⟩ := hy_24
   obtain ⟨hs_25, hy_25⟩ := hH347 25 (by decide)
   obtain ⟨hv_25, hr_25⟩ := hy_25
   obtain ⟨hs_26, hy_26⟩ := hH347 26 (by decide)
   obtain ⟨hv_26, hr_26⟩ := hy_26
   obtain ⟨hs_27, hy_27⟩ := hH347 27 (by decide)
   obtain ⟨hv_27, hr_27⟩ := hy_27
   obtain ⟨hs_28, hy_28⟩ := hH347 28 (by decide)
   obtain ⟨hv_28, hr_28⟩ := hy_28
   obtain ⟨hs_29, hy_29⟩ := hH347 29 (by decide)
   obtain ⟨hv_29, hr_29⟩ := hy_29
   obtain ⟨hs_30, hy_30⟩ := hH347 30 (by decide)
   obtain ⟨hv_30, hr_30⟩ := hy_30
   obtain ⟨hs_31, hy_31⟩ := hH347 31 (by decide)
   obtain ⟨hv_31, hr_31⟩ := hy_31
   obtain ⟨hs_32, hy_32⟩ := hH347 32 (by decide)
   obtain ⟨hv_32, hr_32⟩ := hy_32
   obtain ⟨hs_33, hy_33⟩ := hH347 33 (by decide)
   obtain ⟨hv_33, hr_33⟩ := hy_33
   obtain ⟨hs_34, hy_34⟩ := hH347 34 (by decide)
   obtain ⟨hv_34, hr_34⟩ := hy_34
   obtain ⟨hs_35, hy_35⟩ := hH347 35 (by decide)
   obtain ⟨hv_35, hr_35⟩ := hy_35
   have hS349 : Sep NoB w w344 [(blk b101 3 [(Value.int .i64 lab)]), (blk b44 46 [(Value.int .i64 lo), (Value.int .i64 hi')]), (rndR true vl22 vs23 vb24 lv25 d), (blk b4 26 [rl, rs, (Value.int .i64 d.spread), rb]), (rndR false rl rs rb rlv d)] := by rw [show catR rsf348 0 36 = ([] : List Res) by (try simp only [catR, hr_0, hr_1, hr_2, hr_3, hr_4, hr_5, hr_6, hr_7, hr_8, hr_9, hr_10, hr_11, hr_12, hr_13, hr_14, hr_15, hr_16, hr_17, hr_18, hr_19, hr_20, hr_21, hr_22, hr_23, hr_24, hr_25, hr_26, hr_27, hr_28, hr_29, hr_30, hr_31, hr_32, hr_33, hr_34, hr_35]); (try rfl)] at hS346; exact hS346
   rw [hv_26] at hs_26
   have hA350 : Fr 157 [] [(141, (Value.bool (!false))), (10, (Value.int .i64 ((other).tmod 2001))), (7, (bptr b44 0)), (3, (bptr b4 0)), (1, (Value.int .i64 lab))] a343 := hA345.add (slot_ev hs_26 rfl); clear hA345
   rw [hv_30] at hs_30
   have hA351 : Fr 157 [] [(145, (Value.bool (decide (lo ≤ ((other).tmod 2001)) && decide (((other).tmod 2001) ≤ hi')))), (141, (Value.bool (!false))), (10, (Value.int .i64 ((other).tmod 2001))), (7, (bptr b44 0)), (3, (bptr b4 0)), (1, (Value.int .i64 lab))] a343 := hA350.add (slot_ev hs_30 rfl); clear hA350
   rw [hv_31] at hs_31
   have hA352 : Fr 157 [] [(146, (Value.int .i64 ((other).tmod 2001))), (145, (Value.bool (decide (lo ≤ ((other).tmod 2001)) && decide (((other).tmod 2001) ≤ hi')))), (141, (Value.bool (!false))), (10, (Value.int .i64 ((other).tmod 2001))), (7, (bptr b44 0)), (3, (bptr b4 0)), (1, (Value.int .i64 lab))] a343 := hA351.add (slot_ev hs_31 rfl); clear hA351
   rw [hv_33] at hs_33
   have hA353 : Fr 157 [] [(148, (Value.int .i64 lo)), (146, (Value.int .i64 ((other).tmod 2001))), (145, (Value.bool (decide (lo ≤ ((other).tmod 2001)) && decide (((other).tmod 2001) ≤ hi')))), (141, (Value.bool (!false))), (10, (Value.int .i64 ((other).tmod 2001))), (7, (bptr b44 0)), (3, (bptr b4 0)), (1, (Value.int .i64 lab))] a343 := hA352.add (slot_ev hs_33 rfl); clear hA352
   rw [hv_35] at hs_35
   have hA354 : Fr 157 [] [(150, (Value.int .i64 hi')), (148, (Value.int .i64 lo)), (146, (Value.int .i64 ((other).tmod 2001))), (145, (Value.bool (decide (lo ≤ ((other).tmod 2001)) && decide (((other).tmod 2001) ≤ hi')))), (141, (Value.bool (!false))), (10, (Value.int .i64 ((other).tmod 2001))), (7, (bptr b44 0)), (3, (bptr b4 0)), (1, (Value.int .i64 lab))] a343 := hA353.add (slot_ev hs_35 rfl); clear hA353
   clear hH347 hS346 hs_0 hs_1 hs_2 hs_3 hs_4 hs_5 hs_6 hs_7 hs_8 hs_9 hs_10 hs_11 hs_12 hs_13 hs_14 hs_15 hs_16 hs_17 hs_18 hs_19 hs_20 hs_21 hs_22 hs_23 hs_24 hs_25 hs_26 hs_27 hs_28 hs_29 hs_30 hs_31 hs_32 hs_33 hs_34 hs_35
   clear hr_0
   clear hv_0
   clear hr_1
   clear hv_1
   clear hr_2
   clear hv_2
   clear hr_3
   clear hv_3
   clear hr_4
   clear hv_4
   clear hr_5
   clear hv_5
   clear hr_6
   clear hv_6
   clear hr_7
   clear hv_7
   clear hr_8
   clear hv_8
   clear hr_9
   clear hv_9
   clear hr_10
   clear hv_10
   clear hr_11
   clear hv_11
   clear hr_12
   clear hv_12
   clear hr_13
   clear hv_13
   clear hr_14
   clear hv_14
   clear hr_15
   clear hv_15
   clear hr_16
   clear hv_16
   clear hr_17
   clear hv_17
   clear hr_18
   clear hv_18
   clear hr_19
   clear hv_19
   clear hr_20
   clear hv_20
   clear hr_21
   clear hv_21
   clear hr_22
   clear hv_22
   clear hr_23
   clear hv_23
   clear hr_24
   clear hv_24
   clear hr_25
   clear hv_25
   clear hr_26
   clear hv_26
   clear hr_27
   clear hv_27
   clear hr_28
   clear hv_28
   clear hr_29
   clear hv_29
   clear hr_30
   clear hv_30
   clear hr_31
   clear hv_31
   clear hr_32
   clear hv_32
   clear hr_33
   clear hv_33
   clear hr_34
   clear hv_34
   clear hr_35
   clear hv_35
   refine stwg hA354 (op_call rfl en_33 (ev3 (hA354.ev rfl) (hA354.ev rfl) (hA354.ev rfl)) (In_ok _ _ _ _)) rfl rfl rfl rfl (by decide) ?_
   rintro a355 _ _ ⟨rfl, rfl⟩ hA356; clear hA354 a343
   refine stg hA356 (op_eqlB un_4 rfl (hA356.ev rfl) (hA356.ev rfl)) rfl rfl rfl rfl (by decide) fun a358 hA359 => ?_; clear hA356 a355
   refine st hA359 (op_pick_t rfl (hA359.ev rfl) (hA359.ev rfl)) rfl rfl (by decide) fun a360 hA361 => ?_; clear hA359 a358
   refine st hA361 (op_move rfl (hA361.ev rfl)) rfl rfl (by decide) fun a362 hA363 => ?_; clear hA361 a360
   rcases Bool.eq_false_or_eq_true ((decide (lo ≤ ((other).tmod 2001)) && decide (((other).tmod 2001) ≤ hi'))) with hb364 | hb364
   ·skip
    rw [hb364] at hA363
    have hq365 := hb364; simp only [Bool.and_eq_true, Bool.and_eq_false_iff, decide_eq_true_eq, decide_eq_false_iff_not] at hq365
    refine stwg hA363 (op_call rfl en_18 ev0 (wakes_ok _)) rfl rfl rfl rfl (by decide) ?_
    rintro a366 _ w368 ⟨rfl, hE369⟩ hA367; have hS370 := hS349.step hE369; clear hE369 hA363 hS349 a362
    refine st hA367 (op_pick_t rfl (hA367.ev rfl) (hA367.ev rfl)) rfl rfl (by decide) fun a371 hA372 => ?_; clear hA367 a366
    refine st hA372 (op_assign rfl (hA372.ev rfl)) rfl rfl (by decide) fun a373 hA374 => ?_; clear hA372 a371
    refine wl_nil ?_
    refine then_n ?_
    refine c_ret ?_
    refine fin_run hA374 (.inl rfl) (run_results1 hA374 rfl (.tmp rfl)) ?_
    exact ⟨rfl, hS370.ext⟩
   ·skip
    rw [hb364] at hA363
    have hq375 := hb364; simp only [Bool.and_eq_true, Bool.and_eq_false_iff, decide_eq_true_eq, decide_eq_false_iff_not] at hq375
    refine stwg hA363 (op_call rfl en_18 ev0 (wakes_ok _)) rfl rfl rfl rfl (by decide) ?_
    rintro a376 _ w378 ⟨rfl, hE379⟩ hA377; have hS380 := hS349.step hE379; clear hE379 hA363 hS349 a362
    refine st hA377 (op_pick_t rfl (hA377.ev rfl) (hA377.ev rfl)) rfl rfl (by decide) fun a381 hA382 => ?_; clear hA377 a376
    refine st hA382 (op_assign rfl (hA382.ev rfl)) rfl rfl (by decide) fun a383 hA384 => ?_; clear hA382 a381
    refine wl_nil ?_
    refine then_n ?_
    refine c_ret ?_
    refine fin_run hA384 (.inl rfl) (run_results1 hA384 rfl (.tmp rfl)) ?_
    exact ⟨rfl, hS380.ext⟩

theorem RoundShifts_ok (rl rs rb : Value) (rlv : List Value) (d : RD) (w : World) (hR : RoundAt w rl rs rb rlv d) (lab : Int) (_ : -9223372036854775808 ≤ lab ∧ lab ≤ 9223372036854775807) (other : Int) (_ : -9223372036854775808 ≤ other ∧ other ≤ 9223372036854775807) : Calls Try.prog 6 #[.agg #[rl, rs, .int .i64 d.spread, rb], .int .i64 lab, .int .i64 other] w (Ret fun v w' => v = .bool true ∧ Ext NoB w w') := by
 rcases Bool.eq_false_or_eq_true (fewB d) with hf | hf
 ·by_cases hc : checkR d = 0
  ·rcases Bool.eq_false_or_eq_true (decide (0 ≤ lab) && decide (lab ≤ (d.tols.length : Int) - 1)) with hi | hi
   ·rcases Bool.eq_false_or_eq_true (explB d (off0.set lab.toNat true)) with hx | hx
    ·rcases shiftsR_cases hc hi hx with ⟨hs, hn⟩ | ⟨lo, hi', hs, h1, h2, h3, hn⟩
     ·exact RoundShifts_e rl rs rb rlv d w hR lab other hf hc hi hx hs hn
     ·exact RoundShifts_f rl rs rb rlv d w hR lab other hf hc hi hx lo hi' hs h1 h2 h3 hn
    ·exact RoundShifts_d rl rs rb rlv d w hR lab other hf hc hi hx
   ·exact RoundShifts_c rl rs rb rlv d w hR lab other hf hc hi
  ·exact RoundShifts_b rl rs rb rlv d w hR lab other hf hc
 ·exact RoundShifts_a rl rs rb rlv d w hR lab other hf

end Go.Proofs.Ytfhmigoddaaljaa
