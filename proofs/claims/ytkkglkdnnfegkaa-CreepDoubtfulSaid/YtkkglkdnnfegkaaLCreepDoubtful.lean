/-
  Walks through the functions of the seat, printed by a program of ours (gowalk), a theorem a function: what the call returns and what it leaves in memory.
-/
import Derived.Test.YtkkglkdnnfegkaaBc
import Derived.Test.YtkkglkdnnfegkaaBd
set_option linter.unusedSimpArgs false
set_option linter.unusedVariables false
namespace Go.Proofs.Ytkkglkdnnfegkaa
open Go.RowKit Go.Shelf Go.Eng
set_option maxHeartbeats 4000000 in
theorem CreepDoubtful_a (w : World) (R : List (Int × Int)) (vr : Value) (hm : SlAt w vr 2 R.length (pairs R)) (rs : List RunD) (lv : List Value) (vu : Value) (hx : RunsAt w vu lv rs) (l : List Int) (xl : Value) (hxl : SlAt w xl 1 l.length (ints l)) (hf : readyB R rs [] = false) :
  Calls Try.prog 13 #[(Value.agg #[vr]), vu, xl] w (Ret fun v w' => v = .bool true ∧ Ext NoB w w') := by
 refine calls_enter Try.func13 rfl fun a0 hA0 => ?_
 replace hA0 : Fr 143 [] [(0, (Value.agg #[vr])), (1, vu), (2, xl)] a0 := hA0
 have hS0 : Sep NoB w w [(sl xl 1 l.length (ints l)), (sl vr 2 R.length (pairs R)), (runsR false vu lv rs)] := sep_ro ⟨rfl, hxl, rfl, hm, rfl, hx, trivial⟩
 refine c_seq ?_
 refine c_region ?_
 refine stw hA0 (op_box hS0 rfl (hA0.ev rfl) (cs := [vr]) rfl) rfl rfl (by decide) ?_
 rintro a1 _ w3 ⟨b4, rfl, hS5⟩ hA2; clear hA0 hS0 a0
 refine st hA2 (op_assign rfl (evc _ _)) rfl rfl (by decide) fun a6 hA7 => ?_; clear hA2 a1
 refine wl_nil ?_
 refine then_n ?_
 refine c_seq ?_
 refine c_seq ?_
 refine c_region ?_
 refine st hA7 (op_loadA rfl ty_24 (hA7.ev rfl) (hS5.bk 0 rfl) (l := [vr]) rfl rfl) rfl rfl (by decide) fun a8 hA9 => ?_; clear hA7 a6
 refine st hA9 (op_move rfl (hA9.ev rfl)) rfl rfl (by decide) fun a10 hA11 => ?_; clear hA9 a8
 refine stw hA11 (op_call rfl en_27 (ev3 (hA11.ev rfl) (hA11.ev rfl) (evc _ _)) (ready_ok _ R _ (hS5.sk 2 rfl) rs _ _ (runs_at (hS5.ok 3 _ rfl)) ([]) _ (slAt_nil _ 3))) rfl rfl (by decide) ?_
 rintro a12 _ w14 ⟨rfl, hE15⟩ hA13; have hS16 := hS5.step hE15; clear hE15 hA11 hS5 a10
 rw [hf] at hA13
 refine st hA13 (op_not rfl (hA13.ev rfl)) rfl rfl (by decide) fun a17 hA18 => ?_; clear hA13 a12
 refine st hA18 (op_move rfl (hA18.ev rfl)) rfl rfl (by decide) fun a19 hA20 => ?_; clear hA18 a17
 refine skp hA20 rfl rfl rfl rfl rfl (by decide) fun a21 hA22 => ?_; clear hA20 a19
 refine skp hA22 rfl rfl rfl rfl rfl (by decide) fun a23 hA24 => ?_; clear hA22 a21
 refine skp hA24 rfl rfl rfl rfl rfl (by decide) fun a25 hA26 => ?_; clear hA24 a23
 refine st hA26 (op_pick_t rfl (hA26.ev rfl) (evc _ _)) rfl rfl (by decide) fun a27 hA28 => ?_; clear hA26 a25
 refine wl_nil ?_
 refine then_n ?_
 refine c_true hA28 rfl ?_
 refine c_seq ?_
 have hA29 := hA28.as [] rfl; clear hA28
 refine c_region ?_
 refine stw hA29 (op_call rfl en_17 ev0 (awake_ok _)) rfl rfl (by decide) ?_
 rintro a30 _ w32 ⟨rfl, hE33⟩ hA31; have hS34 := hS16.step hE33; clear hE33 hA29 hS16 a27
 refine st hA31 (op_assign rfl (hA31.ev rfl)) rfl rfl (by decide) fun a35 hA36 => ?_; clear hA31 a30
 refine wl_nil ?_
 refine then_n ?_
 refine c_ret ?_
 refine then_ret ?_
 refine fin_run hA36 (.inl rfl) (run_results1 hA36 rfl (.tmp rfl)) ?_
 exact ⟨rfl, hS34.ext⟩
set_option maxHeartbeats 4000000 in
theorem CreepDoubtful_z (w : World) (R : List (Int × Int)) (vr : Value) (hm : SlAt w vr 2 R.length (pairs R)) (rs : List RunD) (lv : List Value) (vu : Value) (hx : RunsAt w vu lv rs) (l : List Int) (xl : Value) (hxl : SlAt w xl 1 l.length (ints l)) (hf : readyB R rs [] = true) (hl : ¬ l.length ≤ 9) :
  Calls Try.prog 13 #[(Value.agg #[vr]), vu, xl] w (Ret fun v w' => v = .bool true ∧ Ext NoB w w') := by
 refine calls_enter Try.func13 rfl fun a0 hA0 => ?_
 replace hA0 : Fr 143 [] [(0, (Value.agg #[vr])), (1, vu), (2, xl)] a0 := hA0
 have hS0 : Sep NoB w w [(sl xl 1 l.length (ints l)), (sl vr 2 R.length (pairs R)), (runsR false vu lv rs)] := sep_ro ⟨rfl, hxl, rfl, hm, rfl, hx, trivial⟩
 refine c_seq ?_
 refine c_region ?_
 refine stw hA0 (op_box hS0 rfl (hA0.ev rfl) (cs := [vr]) rfl) rfl rfl (by decide) ?_
 rintro a1 _ w3 ⟨b4, rfl, hS5⟩ hA2; clear hA0 hS0 a0
 refine st hA2 (op_assign rfl (evc _ _)) rfl rfl (by decide) fun a6 hA7 => ?_; clear hA2 a1
 refine wl_nil ?_
 refine then_n ?_
 refine c_seq ?_
 refine c_seq ?_
 refine c_region ?_
 refine st hA7 (op_loadA rfl ty_24 (hA7.ev rfl) (hS5.bk 0 rfl) (l := [vr]) rfl rfl) rfl rfl (by decide) fun a8 hA9 => ?_; clear hA7 a6
 refine st hA9 (op_move rfl (hA9.ev rfl)) rfl rfl (by decide) fun a10 hA11 => ?_; clear hA9 a8
 refine stw hA11 (op_call rfl en_27 (ev3 (hA11.ev rfl) (hA11.ev rfl) (evc _ _)) (ready_ok _ R _ (hS5.sk 2 rfl) rs _ _ (runs_at (hS5.ok 3 _ rfl)) ([]) _ (slAt_nil _ 3))) rfl rfl (by decide) ?_
 rintro a12 _ w14 ⟨rfl, hE15⟩ hA13; have hS16 := hS5.step hE15; clear hE15 hA11 hS5 a10
 rw [hf] at hA13
 refine st hA13 (op_not rfl (hA13.ev rfl)) rfl rfl (by decide) fun a17 hA18 => ?_; clear hA13 a12
 refine st hA18 (op_move rfl (hA18.ev rfl)) rfl rfl (by decide) fun a19 hA20 => ?_; clear hA18 a17
 refine stg hA20 (op_move rfl (hA20.ev rfl)) rfl rfl rfl rfl (by decide) fun a21 hA22 => ?_; clear hA20 a19
 refine stg hA22 (op_lenS rfl un_40 (hA22.ev rfl) (hS16.sk 1 rfl)) rfl rfl rfl rfl (by decide) fun a23 hA24 => ?_; clear hA22 a21
 refine stg hA24 (op_gtr rfl (hA24.ev rfl) (evc _ _)) rfl rfl rfl rfl (by decide) fun a25 hA26 => ?_; clear hA24 a23
 have hd27 : 9 < (l.length : Int) := (by omega)
 rw [decide_eq_true hd27] at hA26
 refine st hA26 (op_pick_f rfl (hA26.ev rfl) (hA26.ev rfl)) rfl rfl (by decide) fun a28 hA29 => ?_; clear hA26 a25
 refine wl_nil ?_
 refine then_n ?_
 refine c_true hA29 rfl ?_
 refine c_seq ?_
 have hA30 := hA29.as [] rfl; clear hA29
 refine c_region ?_
 refine stw hA30 (op_call rfl en_17 ev0 (awake_ok _)) rfl rfl (by decide) ?_
 rintro a31 _ w33 ⟨rfl, hE34⟩ hA32; have hS35 := hS16.step hE34; clear hE34 hA30 hS16 a28
 refine st hA32 (op_assign rfl (hA32.ev rfl)) rfl rfl (by decide) fun a36 hA37 => ?_; clear hA32 a31
 refine wl_nil ?_
 refine then_n ?_
 refine c_ret ?_
 refine then_ret ?_
 refine fin_run hA37 (.inl rfl) (run_results1 hA37 rfl (.tmp rfl)) ?_
 exact ⟨rfl, hS35.ext⟩
set_option maxHeartbeats 4000000 in
theorem CreepDoubtful_b (w : World) (R : List (Int × Int)) (vr : Value) (hm : SlAt w vr 2 R.length (pairs R)) (rs : List RunD) (lv : List Value) (vu : Value) (hx : RunsAt w vu lv rs) (l : List Int) (xl : Value) (hxl : SlAt w xl 1 l.length (ints l)) (hf : readyB R rs [] = true) (hl : l.length ≤ 9) (hc : possF R rs = 9) (hn : possF R (woF rs l) = 9) :
  Calls Try.prog 13 #[(Value.agg #[vr]), vu, xl] w (Ret fun v w' => v = .bool true ∧ Ext NoB w w') := by
 refine calls_enter Try.func13 rfl fun a0 hA0 => ?_
 replace hA0 : Fr 143 [] [(0, (Value.agg #[vr])), (1, vu), (2, xl)] a0 := hA0
 have hrd := ready_is hf; have hth := hrd.1; have he := hrd.2.1; have h6 := hth.mat; have h9 := hth.runs; have h12 := hth.plan; have hp8 := hrd.2.2.1; have hsb := hrd.2.2.2; have hcm := check_mat (enter_mat he); have hR := hcm.1; have hR1 := hcm.2.1; have hR3 := hR.1; have hV := enter_runs he; have hrt := ratesF_len R rs; have hle := allowed_le (rs := rs) hR; have hdb := doubt_bd he; have hg := doubt_pos he; have hdz := doubt_zero he; have hwl1 := wo_len rs l; have hwl2 := wo_len rs (doubtF R rs); have hrw1 := ratesF_len R (woF rs l); have hrw2 := ratesF_len R (woF rs (doubtF R rs)); have hew := wo_enter (l := l) he; have hd0 : (doubtF R rs).length ≠ 0 := fun h => by have := hdz.2 h; omega
 have hS0 : Sep NoB w w [(sl xl 1 l.length (ints l)), (sl vr 2 R.length (pairs R)), (runsR false vu lv rs)] := sep_ro ⟨rfl, hxl, rfl, hm, rfl, hx, trivial⟩
 refine c_seq ?_
 refine c_region ?_
 refine stw hA0 (op_box hS0 rfl (hA0.ev rfl) (cs := [vr]) rfl) rfl rfl (by decide) ?_
 rintro a1 _ w3 ⟨b4, rfl, hS5⟩ hA2; clear hA0 hS0 a0
 refine st hA2 (op_assign rfl (evc _ _)) rfl rfl (by decide) fun a6 hA7 => ?_; clear hA2 a1
 refine wl_nil ?_
 refine then_n ?_
 refine c_seq ?_
 refine c_seq ?_
 refine c_region ?_
 refine st hA7 (op_loadA rfl ty_24 (hA7.ev rfl) (hS5.bk 0 rfl) (l := [vr]) rfl rfl) rfl rfl (by decide) fun a8 hA9 => ?_; clear hA7 a6
 refine st hA9 (op_move rfl (hA9.ev rfl)) rfl rfl (by decide) fun a10 hA11 => ?_; clear hA9 a8
 refine stw hA11 (op_call rfl en_27 (ev3 (hA11.ev rfl) (hA11.ev rfl) (evc _ _)) (ready_ok _ R _ (hS5.sk 2 rfl) rs _ _ (runs_at (hS5.ok 3 _ rfl)) ([]) _ (slAt_nil _ 3))) rfl rfl (by decide) ?_
 rintro a12 _ w14 ⟨rfl, hE15⟩ hA13; have hS16 := hS5.step hE15; clear hE15 hA11 hS5 a10
 rw [hf] at hA13
 refine st hA13 (op_not rfl (hA13.ev rfl)) rfl rfl (by decide) fun a17 hA18 => ?_; clear hA13 a12
 refine st hA18 (op_move rfl (hA18.ev rfl)) rfl rfl (by decide) fun a19 hA20 => ?_; clear hA18 a17
 refine stg hA20 (op_move rfl (hA20.ev rfl)) rfl rfl rfl rfl (by decide) fun a21 hA22 => ?_; clear hA20 a19
 refine stg hA22 (op_lenS rfl un_40 (hA22.ev rfl) (hS16.sk 1 rfl)) rfl rfl rfl rfl (by decide) fun a23 hA24 => ?_; clear hA22 a21
 refine stg hA24 (op_gtr rfl (hA24.ev rfl) (evc _ _)) rfl rfl rfl rfl (by decide) fun a25 hA26 => ?_; clear hA24 a23
 have hd27 : ¬ (9 < (l.length : Int)) := (by omega)
 rw [decide_eq_false hd27] at hA26
 refine st hA26 (op_pick_f rfl (hA26.ev rfl) (hA26.ev rfl)) rfl rfl (by decide) fun a28 hA29 => ?_; clear hA26 a25
 refine wl_nil ?_
 refine then_n ?_
 refine c_false hA29 rfl ?_
 refine c_skip ?_
 refine then_n ?_
 refine c_seq ?_
 have hA30 := hA29.as [(3, (bptr b4 0)), (1, vu), (2, xl)] rfl; clear hA29
 refine c_region ?_
 refine st hA30 (op_loadA rfl ty_24 (hA30.ev rfl) (hS16.bk 0 rfl) (l := [vr]) rfl rfl) rfl rfl (by decide) fun a31 hA32 => ?_; clear hA30 a28
 refine stw hA32 (op_call rfl en_19 (ev1 (hA32.ev rfl)) (Material_ok _ R _ (hS16.sk 2 rfl) hth.mat)) rfl rfl (by decide) ?_
 rintro a33 _ w35 ⟨u38, rfl, hT36⟩ hA34; have hS37 := hS16.callS hT36 rfl; clear hT36 hA32 hS16 a31
 refine st hA34 (op_move rfl (hA34.ev rfl)) rfl rfl (by decide) fun a39 hA40 => ?_; clear hA34 a33
 refine stw hA40 (op_call rfl en_20 (ev1 (hA40.ev rfl)) (Runs_ok _ rs _ _ (runs_at (hS37.ok 4 _ rfl)) h9 hth.segs)) rfl rfl (by decide) ?_
 rintro a41 v46 w43 ⟨lv47, hT44⟩ hA42; have hS45 := hS37.callS hT44 rfl; clear hT44 hA40 hS37 a39
 refine stw hA42 (op_call rfl en_43 (ev2 (hA42.ev rfl) (hA42.ev rfl)) (doubt_ok R rs lv47 u38 v46 _ (SlAt.of_row (hS45.ok_row 1 rfl)) (runs_at (hS45.ok 0 _ rfl)) (by omega) (by omega) he)) rfl rfl (by decide) ?_
 rintro a48 _ w50 ⟨u53, rfl, hT51⟩ hA49; have hS52 := hS45.callS hT51 rfl; clear hT51 hA42 hS45 a41
 refine st hA49 (op_move rfl (hA49.ev rfl)) rfl rfl (by decide) fun a54 hA55 => ?_; clear hA49 a48
 refine st hA55 (op_extract rfl (hA55.ev rfl) rfl) rfl rfl (by decide) fun a56 hA57 => ?_; clear hA55 a54
 refine st hA57 (op_extract rfl (hA57.ev rfl) rfl) rfl rfl (by decide) fun a58 hA59 => ?_; clear hA57 a56
 refine st hA59 (op_assign rfl (hA59.ev rfl)) rfl rfl (by decide) fun a60 hA61 => ?_; clear hA59 a58
 refine st hA61 (op_assign rfl (hA61.ev rfl)) rfl rfl (by decide) fun a62 hA63 => ?_; clear hA61 a60
 refine wl_nil ?_
 refine then_n ?_
 refine c_seq ?_
 refine c_seq ?_
 have hA64 := hA63.as [(8, (Value.int .i64 0)), (7, u53), (3, (bptr b4 0)), (1, vu), (2, xl)] rfl; clear hA63
 refine c_region ?_
 refine st hA64 (op_move rfl (hA64.ev rfl)) rfl rfl (by decide) fun a65 hA66 => ?_; clear hA64 a62
 refine st hA66 (op_neq rfl (hA66.ev rfl) (evc _ _)) rfl rfl (by decide) fun a67 hA68 => ?_; clear hA66 a65
 refine st hA68 (op_move rfl (hA68.ev rfl)) rfl rfl (by decide) fun a69 hA70 => ?_; clear hA68 a67
 refine stg hA70 (op_move rfl (hA70.ev rfl)) rfl rfl rfl rfl (by decide) fun a71 hA72 => ?_; clear hA70 a69
 refine stg hA72 (op_lenS rfl un_40 (hA72.ev rfl) (SlAt.of_row (hS52.ok_row 0 rfl))) rfl rfl rfl rfl (by decide) fun a73 hA74 => ?_; clear hA72 a71
 refine stg hA74 (op_move rfl (hA74.ev rfl)) rfl rfl rfl rfl (by decide) fun a75 hA76 => ?_; clear hA74 a73
 refine stg hA76 (op_lenS rfl un_25 (hA76.ev rfl) (runs_at (hS52.ok 6 _ rfl)).runs) rfl rfl rfl rfl (by decide) fun a77 hA78 => ?_; clear hA76 a75
 refine stg hA78 (op_gtr rfl (hA78.ev rfl) (hA78.ev rfl)) rfl rfl rfl rfl (by decide) fun a79 hA80 => ?_; clear hA78 a77
 have hd81 : ¬ ((rs.length : Int) < ((doubtF R rs).length : Int)) := (by omega)
 rw [decide_eq_false hd81] at hA80
 refine st hA80 (op_pick_f rfl (hA80.ev rfl) (hA80.ev rfl)) rfl rfl (by decide) fun a82 hA83 => ?_; clear hA80 a79
 refine wl_nil ?_
 refine then_n ?_
 refine c_false hA83 rfl ?_
 refine c_skip ?_
 refine then_n ?_
 refine c_seq ?_
 refine c_seq ?_
 have hA84 := hA83.as [(7, u53), (3, (bptr b4 0)), (1, vu), (2, xl)] rfl; clear hA83
 refine c_region ?_
 refine st hA84 (op_assign rfl (evc _ _)) rfl rfl (by decide) fun a85 hA86 => ?_; clear hA84 a82
 refine wl_nil ?_
 refine then_n ?_
 refine c_block ?_
 have hA87 := hA86.as [(9, (Value.int .i64 0)), (7, u53), (3, (bptr b4 0)), (1, vu), (2, xl)] rfl; clear hA86
 refine c_loop (G := Nat) (fun (k : Nat) a_ w_ => Fr 143 [] [(9, (Value.int .i64 (k : Int))), (7, u53), (3, (bptr b4 0)), (1, vu), (2, xl)] a_ ∧ Sep NoB w w_ [(row u53 3 1 ((doubtF R rs).length) (ints (doubtF R rs))), (runsR true v46 lv47 rs), (row u38 42 2 R.length (pairs R)), (blk b4 24 [vr]), (sl xl 1 l.length (ints l)), (sl vr 2 R.length (pairs R)), (runsR false vu lv rs)] ∧ (k ≤ (doubtF R rs).length)) (fun k => (doubtF R rs).length - k) 0 ⟨hA87.as _ rfl, hS52, by omega⟩ ?_
 clear hA87 hS52 a85
 rintro k a88 w90 ⟨hA89, hS91, hk⟩
 refine c_seq ?_
 refine c_seq ?_
 refine c_region ?_
 refine st hA89 (op_move rfl (hA89.ev rfl)) rfl rfl (by decide) fun a92 hA93 => ?_; clear hA89 a88
 refine st hA93 (op_move rfl (hA93.ev rfl)) rfl rfl (by decide) fun a94 hA95 => ?_; clear hA93 a92
 refine st hA95 (op_lenS rfl un_40 (hA95.ev rfl) (SlAt.of_row (hS91.ok_row 0 rfl))) rfl rfl (by decide) fun a96 hA97 => ?_; clear hA95 a94
 refine st hA97 (op_lss rfl (hA97.ev rfl) (hA97.ev rfl)) rfl rfl (by decide) fun a98 hA99 => ?_; clear hA97 a96
 refine wl_nil ?_
 refine then_n ?_
 by_cases hb100 : (k : Int) < ((doubtF R rs).length : Int)
 ·skip
  rw [decide_eq_true hb100] at hA99
  have hbk := hdb.2.1 k (by omega)
  refine c_true hA99 rfl ?_
  refine c_skip ?_
  refine then_n ?_
  refine c_seq ?_
  refine c_block ?_
  refine c_seq ?_
  have hA101 := hA99.as [(9, (Value.int .i64 (k : Int))), (7, u53), (3, (bptr b4 0)), (1, vu), (2, xl)] rfl; clear hA99
  by_cases hb103 : 0 < (k : Int)
  ·skip
   have hA104 := hA101.as [(9, (Value.int .i64 (k : Int))), (7, u53), (3, (bptr b4 0)), (1, vu), (2, xl)] rfl; clear hA101
   refine c_drawn mixed hA104 hS91 22 [[], [], [0, 1], [2], [], [4], [5], [3, 6], [7], [8], [9], [9, 10], [9, 11], [12], [12], [12, 13, 14], [12, 15], [12], [12], [12, 18], [12, 17, 19], [12, 20]] [(Yd.val u53), (Yd.val (Value.int .i64 (k : Int))), (Yd.val (eptr u53 (k * 1))), (Yd.val (Value.int .i64 ((doubtF R rs).getD k 0))), (Yd.val vu), (Yd.val (Value.int .i64 (rs.length : Int))), (Yd.val (Value.int .i64 ((rs.length : Int) - 1))), (Yd.val (Value.bool true)), (Yd.val (Value.bool (!true))), (Yd.val (Value.bool (!true))), (Yd.val (Value.int .i64 (k : Int))), (Yd.val (Value.bool true)), (Yd.val (Value.bool true)), (Yd.val u53), (Yd.val (Value.int .i64 (k : Int))), (Yd.val (eptr u53 (k * 1))), (Yd.val (Value.int .i64 ((doubtF R rs).getD k 0))), (Yd.val u53), (Yd.val (Value.int .i64 (k : Int))), (Yd.val (Value.int .i64 ((k : Int) - 1))), (Yd.val (eptr u53 (((k : Int) - 1).toNat * 1))), (Yd.val (Value.int .i64 ((doubtF R rs).getD (((k : Int) - 1).toNat) 0)))] (by decide +kernel) rfl rfl ?_ ?_
   ·skip
    refine ⟨fun a w hA hS hd => by exact opG_of rfl (dv (op_move rfl (hA.ev rfl)) hS rfl), ?_⟩
    refine ⟨fun a w hA hS hd => by exact opG_of rfl (dv (op_move rfl (hA.ev rfl)) hS rfl), ?_⟩
    refine ⟨fun a w hA hS hd => by have e0 := has_ev (hd 0 (by decide)) rfl (fun _ h => h); have e1 := has_ev (hd 1 (by decide)) rfl (fun _ h => h); exact opG_of rfl (dv (op_indexS rfl un_40 ty_3 (tmp_ev e0) (i := k) (tmp_ev e1) (SlAt.of_row (hS.ok_row 0 rfl)) (by decide) (by omega)) hS rfl), ?_⟩
    refine ⟨fun a w hA hS hd => by have e2 := has_ev (hd 2 (by decide)) rfl (fun _ h => h); exact opG_of rfl (dv (op_load1E rfl ty_3 (tmp_ev e2) (SlAt.of_row (hS.ok_row 0 rfl)) (ints_at (by omega))) hS rfl), ?_⟩
    refine ⟨fun a w hA hS hd => by exact opG_of rfl (dv (op_move rfl (hA.ev rfl)) hS rfl), ?_⟩
    refine ⟨fun a w hA hS hd => by have e4 := has_ev (hd 4 (by decide)) rfl (fun _ h => h); exact opG_of rfl (dv (op_lenS rfl un_25 (tmp_ev e4) (runs_at (hS.ok 6 _ rfl)).runs) hS rfl), ?_⟩
    refine ⟨fun a w hA hS hd => by have e5 := has_ev (hd 5 (by decide)) rfl (fun _ h => h); exact opG_of rfl (dv (op_sub rfl (tmp_ev e5) (evc _ _) (by omega) (by omega)) hS rfl), ?_⟩
    refine ⟨fun a w hA hS hd => by have e3 := has_ev (hd 3 (by decide)) rfl (fun _ h => h); have e6 := has_ev (hd 6 (by decide)) rfl (fun _ h => h); exact opG_of rfl (dv (op_call rfl en_24 (ev3 (tmp_ev e3) (evc _ _) (tmp_ev e6)) (In_ok _ _ _ _)) hS (by show Value.bool _ = _; simp only [(show (decide (0 ≤ ((doubtF R rs).getD k 0)) && decide (((doubtF R rs).getD k 0) ≤ ((rs.length : Int) - 1))) = true from (by simp only [Bool.and_eq_true, decide_eq_true_eq]; omega)), decide_true, decide_false, Bool.not_true, Bool.not_false])), ?_⟩
    refine ⟨fun a w hA hS hd => by have e7 := has_ev (hd 7 (by decide)) rfl (fun _ h => h); exact opG_of rfl (dv (op_not rfl (tmp_ev e7)) hS rfl), ?_⟩
    refine ⟨fun a w hA hS hd => by have e8 := has_ev (hd 8 (by decide)) rfl (fun _ h => h); exact opG_of rfl (dv (op_move rfl (tmp_ev e8)) hS rfl), ?_⟩
    refine ⟨fun a w hA hS hd => by have e9 := has_ev (hd 9 (by decide)) rfl (fun _ h => h); exact opG_yes rfl rfl e9 (dv (op_move rfl (hA.ev rfl)) hS rfl), ?_⟩
    refine ⟨fun a w hA hS hd => by have e9 := has_ev (hd 9 (by decide)) rfl (fun _ h => h); have e10 := has_ev (hd 10 (by decide)) rfl (fun _ h => h); exact opG_yes rfl rfl e9 (dv (op_gtr rfl (tmp_ev e10) (evc _ _)) hS (by show Value.bool _ = _; simp only [decide_eq_true hb103, decide_true, decide_false, Bool.not_true, Bool.not_false])), ?_⟩
    refine ⟨fun a w hA hS hd => by have e9 := has_ev (hd 9 (by decide)) rfl (fun _ h => h); have e11 := has_ev (hd 11 (by decide)) rfl (fun _ h => h); exact opG_yes rfl rfl e9 (dv (op_move rfl (tmp_ev e11)) hS rfl), ?_⟩
    refine ⟨fun a w hA hS hd => by have e12 := has_ev (hd 12 (by decide)) rfl (fun _ h => h); exact opG_yes rfl rfl e12 (dv (op_move rfl (hA.ev rfl)) hS rfl), ?_⟩
    refine ⟨fun a w hA hS hd => by have e12 := has_ev (hd 12 (by decide)) rfl (fun _ h => h); exact opG_yes rfl rfl e12 (dv (op_move rfl (hA.ev rfl)) hS rfl), ?_⟩
    refine ⟨fun a w hA hS hd => by have e12 := has_ev (hd 12 (by decide)) rfl (fun _ h => h); have e13 := has_ev (hd 13 (by decide)) rfl (fun _ h => h); have e14 := has_ev (hd 14 (by decide)) rfl (fun _ h => h); exact opG_yes rfl rfl e12 (dv (op_indexS rfl un_40 ty_3 (tmp_ev e13) (i := k) (tmp_ev e14) (SlAt.of_row (hS.ok_row 0 rfl)) (by decide) (by omega)) hS rfl), ?_⟩
    refine ⟨fun a w hA hS hd => by have e12 := has_ev (hd 12 (by decide)) rfl (fun _ h => h); have e15 := has_ev (hd 15 (by decide)) rfl (fun _ h => h); exact opG_yes rfl rfl e12 (dv (op_load1E rfl ty_3 (tmp_ev e15) (SlAt.of_row (hS.ok_row 0 rfl)) (ints_at (by omega))) hS rfl), ?_⟩
    refine ⟨fun a w hA hS hd => by have e12 := has_ev (hd 12 (by decide)) rfl (fun _ h => h); exact opG_yes rfl rfl e12 (dv (op_move rfl (hA.ev rfl)) hS rfl), ?_⟩
    refine ⟨fun a w hA hS hd => by have e12 := has_ev (hd 12 (by decide)) rfl (fun _ h => h); exact opG_yes rfl rfl e12 (dv (op_move rfl (hA.ev rfl)) hS rfl), ?_⟩
    refine ⟨fun a w hA hS hd => by have e12 := has_ev (hd 12 (by decide)) rfl (fun _ h => h); have e18 := has_ev (hd 18 (by decide)) rfl (fun _ h => h); exact opG_yes rfl rfl e12 (dv (op_sub rfl (tmp_ev e18) (evc _ _) (by omega) (by omega)) hS rfl), ?_⟩
    refine ⟨fun a w hA hS hd => by have e12 := has_ev (hd 12 (by decide)) rfl (fun _ h => h); have e17 := has_ev (hd 17 (by decide)) rfl (fun _ h => h); have e19 := has_ev (hd 19 (by decide)) rfl (fun _ h => h); exact opG_yes rfl rfl e12 (dv (op_indexS rfl un_40 ty_3 (tmp_ev e17) (i := ((k : Int) - 1).toNat) ((tmp_ev e19).trans (int_nat (by omega))) (SlAt.of_row (hS.ok_row 0 rfl)) (by decide) (by omega)) hS rfl), ?_⟩
    refine ⟨fun a w hA hS hd => by have e12 := has_ev (hd 12 (by decide)) rfl (fun _ h => h); have e20 := has_ev (hd 20 (by decide)) rfl (fun _ h => h); exact opG_yes rfl rfl e12 (dv (op_load1E rfl ty_3 (tmp_ev e20) (SlAt.of_row (hS.ok_row 0 rfl)) (ints_at (by omega))) hS rfl), ?_⟩
    trivial
   intro a106 w107 hA108 hS109 hH110; clear hA104 hS91
   have hA111 := hA108.add (has_ev (hH110 9 (by decide)) rfl (fun _ h => h)); clear hA108
   have hA112 := hA111.add (has_ev (hH110 12 (by decide)) rfl (fun _ h => h)); clear hA111
   have hA113 := hA112.add (has_ev (hH110 16 (by decide)) rfl (fun _ h => h)); clear hA112
   have hA114 := hA113.add (has_ev (hH110 21 (by decide)) rfl (fun _ h => h)); clear hA113
   clear hH110
   refine stg hA114 (op_leq rfl (hA114.ev rfl) (hA114.ev rfl)) rfl rfl rfl rfl (by decide) fun a115 hA116 => ?_; clear hA114 a106
   have hd117 : ¬ (((doubtF R rs).getD k 0) ≤ ((doubtF R rs).getD (((k : Int) - 1).toNat) 0)) := (by have hz_ := hdb.2.2 k (by omega) (by omega); rw [toNat_pred]; omega)
   rw [decide_eq_false hd117] at hA116
   refine stg hA116 (op_pick_t rfl (hA116.ev rfl) (hA116.ev rfl)) rfl rfl rfl rfl (by decide) fun a118 hA119 => ?_; clear hA116 a115
   refine st hA119 (op_pick_f rfl (hA119.ev rfl) (hA119.ev rfl)) rfl rfl (by decide) fun a120 hA121 => ?_; clear hA119 a118
   refine wl_nil ?_
   refine then_n ?_
   refine c_false hA121 rfl ?_
   refine c_skip ?_
   refine blk_n ?_
   refine then_n ?_
   have hA122 := hA121.as [(9, (Value.int .i64 (k : Int))), (7, u53), (3, (bptr b4 0)), (1, vu), (2, xl)] rfl; clear hA121
   refine c_region ?_
   refine st hA122 (op_move rfl (hA122.ev rfl)) rfl rfl (by decide) fun a123 hA124 => ?_; clear hA122 a120
   refine st hA124 (op_add rfl (hA124.ev rfl) (evc _ _) (by omega) (by omega)) rfl rfl (by decide) fun a125 hA126 => ?_; clear hA124 a123
   refine st hA126 (op_assign rfl (hA126.ev rfl)) rfl rfl (by decide) fun a127 hA128 => ?_; clear hA126 a125
   refine wl_nil ?_
   exact then_n ⟨k + 1, ⟨hA128.as _ rfl, hS109, by omega⟩, by omega⟩
  ·skip
   have hA129 := hA101.as [(9, (Value.int .i64 (k : Int))), (7, u53), (3, (bptr b4 0)), (1, vu), (2, xl)] rfl; clear hA101
   refine c_drawn mixed hA129 hS91 22 [[], [], [0, 1], [2], [], [4], [5], [3, 6], [7], [8], [9], [9, 10], [9, 11], [12], [12], [12, 13, 14], [12, 15], [12], [12], [12, 18], [12, 17, 19], [12, 20]] [(Yd.val u53), (Yd.val (Value.int .i64 (k : Int))), (Yd.val (eptr u53 (k * 1))), (Yd.val (Value.int .i64 ((doubtF R rs).getD k 0))), (Yd.val vu), (Yd.val (Value.int .i64 (rs.length : Int))), (Yd.val (Value.int .i64 ((rs.length : Int) - 1))), (Yd.val (Value.bool true)), (Yd.val (Value.bool (!true))), (Yd.val (Value.bool (!true))), (Yd.val (Value.int .i64 (k : Int))), (Yd.val (Value.bool false)), (Yd.val (Value.bool false)), (Yd.val undef), (Yd.val undef), (Yd.val undef), (Yd.val undef), (Yd.val undef), (Yd.val undef), (Yd.val undef), (Yd.val undef), (Yd.val undef)] (by decide +kernel) rfl rfl ?_ ?_
   ·skip
    refine ⟨fun a w hA hS hd => by exact opG_of rfl (dv (op_move rfl (hA.ev rfl)) hS rfl), ?_⟩
    refine ⟨fun a w hA hS hd => by exact opG_of rfl (dv (op_move rfl (hA.ev rfl)) hS rfl), ?_⟩
    refine ⟨fun a w hA hS hd => by have e0 := has_ev (hd 0 (by decide)) rfl (fun _ h => h); have e1 := has_ev (hd 1 (by decide)) rfl (fun _ h => h); exact opG_of rfl (dv (op_indexS rfl un_40 ty_3 (tmp_ev e0) (i := k) (tmp_ev e1) (SlAt.of_row (hS.ok_row 0 rfl)) (by decide) (by omega)) hS rfl), ?_⟩
    refine ⟨fun a w hA hS hd => by have e2 := has_ev (hd 2 (by decide)) rfl (fun _ h => h); exact opG_of rfl (dv (op_load1E rfl ty_3 (tmp_ev e2) (SlAt.of_row (hS.ok_row 0 rfl)) (ints_at (by omega))) hS rfl), ?_⟩
    refine ⟨fun a w hA hS hd => by exact opG_of rfl (dv (op_move rfl (hA.ev rfl)) hS rfl), ?_⟩
    refine ⟨fun a w hA hS hd => by have e4 := has_ev (hd 4 (by decide)) rfl (fun _ h => h); exact opG_of rfl (dv (op_lenS rfl un_25 (tmp_ev e4) (runs_at (hS.ok 6 _ rfl)).runs) hS rfl), ?_⟩
    refine ⟨fun a w hA hS hd => by have e5 := has_ev (hd 5 (by decide)) rfl (fun _ h => h); exact opG_of rfl (dv (op_sub rfl (tmp_ev e5) (evc _ _) (by omega) (by omega)) hS rfl), ?_⟩
    refine ⟨fun a w hA hS hd => by have e3 := has_ev (hd 3 (by decide)) rfl (fun _ h => h); have e6 := has_ev (hd 6 (by decide)) rfl (fun _ h => h); exact opG_of rfl (dv (op_call rfl en_24 (ev3 (tmp_ev e3) (evc _ _) (tmp_ev e6)) (In_ok _ _ _ _)) hS (by show Value.bool _ = _; simp only [(show (decide (0 ≤ ((doubtF R rs).getD k 0)) && decide (((doubtF R rs).getD k 0) ≤ ((rs.length : Int) - 1))) = true from (by simp only [Bool.and_eq_true, decide_eq_true_eq]; omega)), decide_true, decide_false, Bool.not_true, Bool.not_false])), ?_⟩
    refine ⟨fun a w hA hS hd => by have e7 := has_ev (hd 7 (by decide)) rfl (fun _ h => h); exact opG_of rfl (dv (op_not rfl (tmp_ev e7)) hS rfl), ?_⟩
    refine ⟨fun a w hA hS hd => by have e8 := has_ev (hd 8 (by decide)) rfl (fun _ h => h); exact opG_of rfl (dv (op_move rfl (tmp_ev e8)) hS rfl), ?_⟩
    refine ⟨fun a w hA hS hd => by have e9 := has_ev (hd 9 (by decide)) rfl (fun _ h => h); exact opG_yes rfl rfl e9 (dv (op_move rfl (hA.ev rfl)) hS rfl), ?_⟩
    refine ⟨fun a w hA hS hd => by have e9 := has_ev (hd 9 (by decide)) rfl (fun _ h => h); have e10 := has_ev (hd 10 (by decide)) rfl (fun _ h => h); exact opG_yes rfl rfl e9 (dv (op_gtr rfl (tmp_ev e10) (evc _ _)) hS (by show Value.bool _ = _; simp only [decide_eq_false hb103, decide_true, decide_false, Bool.not_true, Bool.not_false])), ?_⟩
    refine ⟨fun a w hA hS hd => by have e9 := has_ev (hd 9 (by decide)) rfl (fun _ h => h); have e11 := has_ev (hd 11 (by decide)) rfl (fun _ h => h); exact opG_yes rfl rfl e9 (dv (op_move rfl (tmp_ev e11)) hS rfl), ?_⟩
    refine ⟨fun a w hA hS hd => by have e12 := has_ev (hd 12 (by decide)) rfl (fun _ h => h); exact opG_no rfl rfl e12 rfl (dskip hS rfl), ?_⟩
    refine ⟨fun a w hA hS hd => by have e12 := has_ev (hd 12 (by decide)) rfl (fun _ h => h); exact opG_no rfl rfl e12 rfl (dskip hS rfl), ?_⟩
    refine ⟨fun a w hA hS hd => by have e12 := has_ev (hd 12 (by decide)) rfl (fun _ h => h); have e13 := has_ev (hd 13 (by decide)) rfl (fun _ h => h); have e14 := has_ev (hd 14 (by decide)) rfl (fun _ h => h); exact opG_no rfl rfl e12 rfl (dskip hS rfl), ?_⟩
    refine ⟨fun a w hA hS hd => by have e12 := has_ev (hd 12 (by decide)) rfl (fun _ h => h); have e15 := has_ev (hd 15 (by decide)) rfl (fun _ h => h); exact opG_no rfl rfl e12 rfl (dskip hS rfl), ?_⟩
    refine ⟨fun a w hA hS hd => by have e12 := has_ev (hd 12 (by decide)) rfl (fun _ h => h); exact opG_no rfl rfl e12 rfl (dskip hS rfl), ?_⟩
    refine ⟨fun a w hA hS hd => by have e12 := has_ev (hd 12 (by decide)) rfl (fun _ h => h); exact opG_no rfl rfl e12 rfl (dskip hS rfl), ?_⟩
    refine ⟨fun a w hA hS hd => by have e12 := has_ev (hd 12 (by decide)) rfl (fun _ h => h); have e18 := has_ev (hd 18 (by decide)) rfl (fun _ h => h); exact opG_no rfl rfl e12 rfl (dskip hS rfl), ?_⟩
    refine ⟨fun a w hA hS hd => by have e12 := has_ev (hd 12 (by decide)) rfl (fun _ h => h); have e17 := has_ev (hd 17 (by decide)) rfl (fun _ h => h); have e19 := has_ev (hd 19 (by decide)) rfl (fun _ h => h); exact opG_no rfl rfl e12 rfl (dskip hS rfl), ?_⟩
    refine ⟨fun a w hA hS hd => by have e12 := has_ev (hd 12 (by decide)) rfl (fun _ h => h); have e20 := has_ev (hd 20 (by decide)) rfl (fun _ h => h); exact opG_no rfl rfl e12 rfl (dskip hS rfl), ?_⟩
    trivial
   intro a131 w132 hA133 hS134 hH135; clear hA129 hS91
   have hA136 := hA133.add (has_ev (hH135 9 (by decide)) rfl (fun _ h => h)); clear hA133
   have hA137 := hA136.add (has_ev (hH135 12 (by decide)) rfl (fun _ h => h)); clear hA136
   have hA138 := hA137.add (has_ev (hH135 16 (by decide)) rfl (fun _ h => h)); clear hA137
   have hA139 := hA138.add (has_ev (hH135 21 (by decide)) rfl (fun _ h => h)); clear hA138
   clear hH135
   refine skp hA139 rfl rfl rfl rfl rfl (by decide) fun a140 hA141 => ?_; clear hA139 a131
   refine stg hA141 (op_pick_f rfl (hA141.ev rfl) (evc _ _)) rfl rfl rfl rfl (by decide) fun a142 hA143 => ?_; clear hA141 a140
   refine st hA143 (op_pick_f rfl (hA143.ev rfl) (hA143.ev rfl)) rfl rfl (by decide) fun a144 hA145 => ?_; clear hA143 a142
   refine wl_nil ?_
   refine then_n ?_
   refine c_false hA145 rfl ?_
   refine c_skip ?_
   refine blk_n ?_
   refine then_n ?_
   have hA146 := hA145.as [(9, (Value.int .i64 (k : Int))), (7, u53), (3, (bptr b4 0)), (1, vu), (2, xl)] rfl; clear hA145
   refine c_region ?_
   refine st hA146 (op_move rfl (hA146.ev rfl)) rfl rfl (by decide) fun a147 hA148 => ?_; clear hA146 a144
   refine st hA148 (op_add rfl (hA148.ev rfl) (evc _ _) (by omega) (by omega)) rfl rfl (by decide) fun a149 hA150 => ?_; clear hA148 a147
   refine st hA150 (op_assign rfl (hA150.ev rfl)) rfl rfl (by decide) fun a151 hA152 => ?_; clear hA150 a149
   refine wl_nil ?_
   exact then_n ⟨k + 1, ⟨hA152.as _ rfl, hS134, by omega⟩, by omega⟩
 ·skip
  rw [decide_eq_false hb100] at hA99
  refine c_false hA99 rfl ?_
  refine c_exit ?_
  refine then_exit ?_
  refine then_exit ?_
  refine blk_hit ?_
  refine then_n ?_
  refine c_seq ?_
  refine c_region ?_
  refine st hA99 (op_loadA rfl ty_24 (hA99.ev rfl) (hS91.bk 3 rfl) (l := [vr]) rfl rfl) rfl rfl (by decide) fun a153 hA154 => ?_; clear hA99 a98
  refine stw hA154 (op_call rfl en_19 (ev1 (hA154.ev rfl)) (Material_ok _ R _ (hS91.sk 5 rfl) hth.mat)) rfl rfl (by decide) ?_
  rintro a155 _ w157 ⟨u160, rfl, hT158⟩ hA156; have hS159 := hS91.callS hT158 rfl; clear hT158 hA154 hS91 a153
  refine st hA156 (op_move rfl (hA156.ev rfl)) rfl rfl (by decide) fun a161 hA162 => ?_; clear hA156 a155
  refine stw hA162 (op_call rfl en_20 (ev1 (hA162.ev rfl)) (Runs_ok _ rs _ _ (runs_at (hS159.ok 7 _ rfl)) h9 hth.segs)) rfl rfl (by decide) ?_
  rintro a163 v168 w165 ⟨lv169, hT166⟩ hA164; have hS167 := hS159.callS hT166 rfl; clear hT166 hA162 hS159 a161
  refine stw hA164 (op_call rfl en_18 (ev2 (hA164.ev rfl) (hA164.ev rfl)) (rates_bad R rs lv169 u160 v168 _ (SlAt.of_row (hS167.ok_row 1 rfl)) (runs_at (hS167.ok 0 _ rfl)) (by omega) (by omega) (by omega))) rfl rfl (by decide) ?_
  rintro a170 _ w172 ⟨rfl, hE173⟩ hA171; have hS174 := hS167.step hE173; clear hE173 hA164 hS167 a163
  refine st hA171 (op_move rfl (hA171.ev rfl)) rfl rfl (by decide) fun a175 hA176 => ?_; clear hA171 a170
  refine st hA176 (op_extract rfl (hA176.ev rfl) rfl) rfl rfl (by decide) fun a177 hA178 => ?_; clear hA176 a175
  refine st hA178 (op_extract rfl (hA178.ev rfl) rfl) rfl rfl (by decide) fun a179 hA180 => ?_; clear hA178 a177
  refine st hA180 (op_extract rfl (hA180.ev rfl) rfl) rfl rfl (by decide) fun a181 hA182 => ?_; clear hA180 a179
  refine st hA182 (op_assign rfl (hA182.ev rfl)) rfl rfl (by decide) fun a183 hA184 => ?_; clear hA182 a181
  refine st hA184 (op_assign rfl (hA184.ev rfl)) rfl rfl (by decide) fun a185 hA186 => ?_; clear hA184 a183
  refine st hA186 (op_assign rfl (hA186.ev rfl)) rfl rfl (by decide) fun a187 hA188 => ?_; clear hA186 a185
  refine wl_nil ?_
  refine then_n ?_
  refine c_seq ?_
  have hA189 := hA188.as [(12, (Value.int .i64 (possF R rs))), (7, u53), (3, (bptr b4 0)), (1, vu), (2, xl)] rfl; clear hA188
  refine c_region ?_
  refine st hA189 (op_loadA rfl ty_24 (hA189.ev rfl) (hS174.bk 5 rfl) (l := [vr]) rfl rfl) rfl rfl (by decide) fun a190 hA191 => ?_; clear hA189 a187
  refine stw hA191 (op_call rfl en_19 (ev1 (hA191.ev rfl)) (Material_ok _ R _ (hS174.sk 7 rfl) hth.mat)) rfl rfl (by decide) ?_
  rintro a192 _ w194 ⟨u197, rfl, hT195⟩ hA193; have hS196 := hS174.callS hT195 rfl; clear hT195 hA191 hS174 a190
  refine st hA193 (op_move rfl (hA193.ev rfl)) rfl rfl (by decide) fun a198 hA199 => ?_; clear hA193 a192
  refine st hA199 (op_move rfl (hA199.ev rfl)) rfl rfl (by decide) fun a200 hA201 => ?_; clear hA199 a198
  refine stw hA201 (op_call rfl en_46 (ev2 (hA201.ev rfl) (hA201.ev rfl)) (Without_ok _ rs _ _ (runs_at (hS196.ok 9 _ rfl)) (doubtF R rs) _ (SlAt.of_row (hS196.ok_row 3 rfl)) (by omega) (by omega))) rfl rfl (by decide) ?_
  rintro a202 v208 w204 ⟨hE205, hO206⟩ hA203; have hS207 := hS196.new_row hE205 hO206; clear hE205 hO206 hA201 hS196 a200
  have hS209 : Sep NoB w w204 (segsR false (woV lv rs.length (doubtF R rs)) (woF rs (doubtF R rs)) :: [(row v208 54 3 ((woF rs (doubtF R rs)).length) (vtrips (runV (woV lv rs.length (doubtF R rs)) (woF rs (doubtF R rs))))), (row u197 42 2 R.length (pairs R)), (runsR true v168 lv169 rs), (row u160 42 2 R.length (pairs R)), (row u53 3 1 ((doubtF R rs).length) (ints (doubtF R rs))), (runsR true v46 lv47 rs), (row u38 42 2 R.length (pairs R)), (blk b4 24 [vr]), (sl xl 1 l.length (ints l)), (sl vr 2 R.length (pairs R)), (runsR false vu lv rs)]) := hS207.segs_sel (woSel (doubtF R rs) rs.length) (i := 10) rfl (fun _ h => woSel_lt h); clear hS207
  have hS210 : Sep NoB w w204 [(row v208 54 3 ((woF rs (doubtF R rs)).length) (vtrips (runV (woV lv rs.length (doubtF R rs)) (woF rs (doubtF R rs))))), (segsR false (woV lv rs.length (doubtF R rs)) (woF rs (doubtF R rs))), (row u197 42 2 R.length (pairs R)), (runsR true v168 lv169 rs), (row u160 42 2 R.length (pairs R)), (row u53 3 1 ((doubtF R rs).length) (ints (doubtF R rs))), (runsR true v46 lv47 rs), (row u38 42 2 R.length (pairs R)), (blk b4 24 [vr]), (sl xl 1 l.length (ints l)), (sl vr 2 R.length (pairs R)), (runsR false vu lv rs)] := hS209.keep [1, 0, 2, 3, 4, 5, 6, 7, 8, 9, 10, 11] (by decide) _ rfl rfl; clear hS209
  have hS211 := hS210.runs_ro rfl; clear hS210
  refine stw hA203 (op_call rfl en_20 (ev1 (hA203.ev rfl)) (Runs_ok _ (woF rs (doubtF R rs)) _ _ (runs_at (hS211.ok 0 _ rfl)) (by have := wo_len rs (doubtF R rs); omega) (wo_segs hth.segs))) rfl rfl (by decide) ?_
  rintro a212 v217 w214 ⟨lv218, hT215⟩ hA213; have hS216 := hS211.callS hT215 rfl; clear hT215 hA203 hS211 a202
  refine stw hA213 (op_call rfl en_18 (ev2 (hA213.ev rfl) (hA213.ev rfl)) (rates_ok R (woF rs (doubtF R rs)) lv218 u197 v217 _ (SlAt.of_row (hS216.ok_row 2 rfl)) (runs_at (hS216.ok 0 _ rfl)) (by omega) (by omega) hg)) rfl rfl (by decide) ?_
  rintro a219 _ w221 ⟨u224, rfl, hT222⟩ hA220
  have hS223 : Sep NoB w w221 [(row u224 42 2 R.length (pairs (ratesF R (woF rs (doubtF R rs))))), (runsR true v217 lv218 (woF rs (doubtF R rs))), (runsR false v208 (woV lv rs.length (doubtF R rs)) (woF rs (doubtF R rs))), (row u197 42 2 R.length (pairs R)), (runsR true v168 lv169 rs), (row u160 42 2 R.length (pairs R)), (row u53 3 1 ((doubtF R rs).length) (ints (doubtF R rs))), (runsR true v46 lv47 rs), (row u38 42 2 R.length (pairs R)), (blk b4 24 [vr]), (sl xl 1 l.length (ints l)), (sl vr 2 R.length (pairs R)), (runsR false vu lv rs)] := hS216.callS hT222 rfl; clear hT222 hA213 hS216 a212
  refine st hA220 (op_move rfl (hA220.ev rfl)) rfl rfl (by decide) fun a225 hA226 => ?_; clear hA220 a219
  refine st hA226 (op_extract rfl (hA226.ev rfl) rfl) rfl rfl (by decide) fun a227 hA228 => ?_; clear hA226 a225
  refine st hA228 (op_extract rfl (hA228.ev rfl) rfl) rfl rfl (by decide) fun a229 hA230 => ?_; clear hA228 a227
  refine st hA230 (op_extract rfl (hA230.ev rfl) rfl) rfl rfl (by decide) fun a231 hA232 => ?_; clear hA230 a229
  refine st hA232 (op_assign rfl (hA232.ev rfl)) rfl rfl (by decide) fun a233 hA234 => ?_; clear hA232 a231
  refine st hA234 (op_assign rfl (hA234.ev rfl)) rfl rfl (by decide) fun a235 hA236 => ?_; clear hA234 a233
  refine st hA236 (op_assign rfl (hA236.ev rfl)) rfl rfl (by decide) fun a237 hA238 => ?_; clear hA236 a235
  refine wl_nil ?_
  refine then_n ?_
  refine c_seq ?_
  have hA239 := hA238.as [(15, (Value.int .i64 0)), (12, (Value.int .i64 (possF R rs))), (7, u53), (3, (bptr b4 0)), (1, vu), (2, xl)] rfl; clear hA238
  refine c_region ?_
  refine st hA239 (op_loadA rfl ty_24 (hA239.ev rfl) (hS223.bk 9 rfl) (l := [vr]) rfl rfl) rfl rfl (by decide) fun a240 hA241 => ?_; clear hA239 a237
  refine stw hA241 (op_call rfl en_19 (ev1 (hA241.ev rfl)) (Material_ok _ R _ (hS223.sk 11 rfl) hth.mat)) rfl rfl (by decide) ?_
  rintro a242 _ w244 ⟨u247, rfl, hT245⟩ hA243; have hS246 := hS223.callS hT245 rfl; clear hT245 hA241 hS223 a240
  refine st hA243 (op_move rfl (hA243.ev rfl)) rfl rfl (by decide) fun a248 hA249 => ?_; clear hA243 a242
  refine st hA249 (op_move rfl (hA249.ev rfl)) rfl rfl (by decide) fun a250 hA251 => ?_; clear hA249 a248
  refine stw hA251 (op_call rfl en_46 (ev2 (hA251.ev rfl) (hA251.ev rfl)) (Without_ok _ rs _ _ (runs_at (hS246.ok 13 _ rfl)) l _ (hS246.sk 11 rfl) (by omega) (by omega))) rfl rfl (by decide) ?_
  rintro a252 v258 w254 ⟨hE255, hO256⟩ hA253; have hS257 := hS246.new_row hE255 hO256; clear hE255 hO256 hA251 hS246 a250
  have hS259 : Sep NoB w w254 (segsR false (woV lv rs.length l) (woF rs l) :: [(row v258 54 3 ((woF rs l).length) (vtrips (runV (woV lv rs.length l) (woF rs l)))), (row u247 42 2 R.length (pairs R)), (row u224 42 2 R.length (pairs (ratesF R (woF rs (doubtF R rs))))), (runsR true v217 lv218 (woF rs (doubtF R rs))), (runsR false v208 (woV lv rs.length (doubtF R rs)) (woF rs (doubtF R rs))), (row u197 42 2 R.length (pairs R)), (runsR true v168 lv169 rs), (row u160 42 2 R.length (pairs R)), (row u53 3 1 ((doubtF R rs).length) (ints (doubtF R rs))), (runsR true v46 lv47 rs), (row u38 42 2 R.length (pairs R)), (blk b4 24 [vr]), (sl xl 1 l.length (ints l)), (sl vr 2 R.length (pairs R)), (runsR false vu lv rs)]) := hS257.segs_sel (woSel l rs.length) (i := 14) rfl (fun _ h => woSel_lt h); clear hS257
  have hS260 : Sep NoB w w254 [(row v258 54 3 ((woF rs l).length) (vtrips (runV (woV lv rs.length l) (woF rs l)))), (segsR false (woV lv rs.length l) (woF rs l)), (row u247 42 2 R.length (pairs R)), (row u224 42 2 R.length (pairs (ratesF R (woF rs (doubtF R rs))))), (runsR true v217 lv218 (woF rs (doubtF R rs))), (runsR false v208 (woV lv rs.length (doubtF R rs)) (woF rs (doubtF R rs))), (row u197 42 2 R.length (pairs R)), (runsR true v168 lv169 rs), (row u160 42 2 R.length (pairs R)), (row u53 3 1 ((doubtF R rs).length) (ints (doubtF R rs))), (runsR true v46 lv47 rs), (row u38 42 2 R.length (pairs R)), (blk b4 24 [vr]), (sl xl 1 l.length (ints l)), (sl vr 2 R.length (pairs R)), (runsR false vu lv rs)] := hS259.keep [1, 0, 2, 3, 4, 5, 6, 7, 8, 9, 10, 11, 12, 13, 14, 15] (by decide) _ rfl rfl; clear hS259
  have hS261 := hS260.runs_ro rfl; clear hS260
  refine stw hA253 (op_call rfl en_20 (ev1 (hA253.ev rfl)) (Runs_ok _ (woF rs l) _ _ (runs_at (hS261.ok 0 _ rfl)) (by have := wo_len rs l; omega) (wo_segs hth.segs))) rfl rfl (by decide) ?_
  rintro a262 v267 w264 ⟨lv268, hT265⟩ hA263; have hS266 := hS261.callS hT265 rfl; clear hT265 hA253 hS261 a252
  refine stw hA263 (op_call rfl en_18 (ev2 (hA263.ev rfl) (hA263.ev rfl)) (rates_bad R (woF rs l) lv268 u247 v267 _ (SlAt.of_row (hS266.ok_row 2 rfl)) (runs_at (hS266.ok 0 _ rfl)) (by omega) (by omega) (by omega))) rfl rfl (by decide) ?_
  rintro a269 _ w271 ⟨rfl, hE272⟩ hA270; have hS273 := hS266.step hE272; clear hE272 hA263 hS266 a262
  refine st hA270 (op_move rfl (hA270.ev rfl)) rfl rfl (by decide) fun a274 hA275 => ?_; clear hA270 a269
  refine st hA275 (op_extract rfl (hA275.ev rfl) rfl) rfl rfl (by decide) fun a276 hA277 => ?_; clear hA275 a274
  refine st hA277 (op_extract rfl (hA277.ev rfl) rfl) rfl rfl (by decide) fun a278 hA279 => ?_; clear hA277 a276
  refine st hA279 (op_extract rfl (hA279.ev rfl) rfl) rfl rfl (by decide) fun a280 hA281 => ?_; clear hA279 a278
  refine st hA281 (op_assign rfl (hA281.ev rfl)) rfl rfl (by decide) fun a282 hA283 => ?_; clear hA281 a280
  refine st hA283 (op_assign rfl (hA283.ev rfl)) rfl rfl (by decide) fun a284 hA285 => ?_; clear hA283 a282
  refine st hA285 (op_assign rfl (hA285.ev rfl)) rfl rfl (by decide) fun a286 hA287 => ?_; clear hA285 a284
  refine wl_nil ?_
  refine then_n ?_
  refine c_seq ?_
  have hA288 := hA287.as [(18, (Value.int .i64 (possF R (woF rs l)))), (15, (Value.int .i64 0)), (12, (Value.int .i64 (possF R rs))), (7, u53), (1, vu), (2, xl)] rfl; clear hA287
  refine c_region ?_
  refine st hA288 (op_move rfl (hA288.ev rfl)) rfl rfl (by decide) fun a289 hA290 => ?_; clear hA288 a286
  refine st hA290 (op_lenS rfl un_25 (hA290.ev rfl) (runs_at (hS273.ok 15 _ rfl)).runs) rfl rfl (by decide) fun a291 hA292 => ?_; clear hA290 a289
  refine st hA292 (op_move rfl (hA292.ev rfl)) rfl rfl (by decide) fun a293 hA294 => ?_; clear hA292 a291
  refine st hA294 (op_move rfl (hA294.ev rfl)) rfl rfl (by decide) fun a295 hA296 => ?_; clear hA294 a293
  refine stw hA296 (op_call rfl en_46 (ev2 (hA296.ev rfl) (hA296.ev rfl)) (Without_ok _ rs _ _ (runs_at (hS273.ok 15 _ rfl)) l _ (hS273.sk 13 rfl) (by omega) (by omega))) rfl rfl (by decide) ?_
  rintro a297 v303 w299 ⟨hE300, hO301⟩ hA298; have hS302 := hS273.new_row hE300 hO301; clear hE300 hO301 hA296 hS273 a295
  have hS304 : Sep NoB w w299 (segsR false (woV lv rs.length l) (woF rs l) :: [(row v303 54 3 ((woF rs l).length) (vtrips (runV (woV lv rs.length l) (woF rs l)))), (runsR true v267 lv268 (woF rs l)), (runsR false v258 (woV lv rs.length l) (woF rs l)), (row u247 42 2 R.length (pairs R)), (row u224 42 2 R.length (pairs (ratesF R (woF rs (doubtF R rs))))), (runsR true v217 lv218 (woF rs (doubtF R rs))), (runsR false v208 (woV lv rs.length (doubtF R rs)) (woF rs (doubtF R rs))), (row u197 42 2 R.length (pairs R)), (runsR true v168 lv169 rs), (row u160 42 2 R.length (pairs R)), (row u53 3 1 ((doubtF R rs).length) (ints (doubtF R rs))), (runsR true v46 lv47 rs), (row u38 42 2 R.length (pairs R)), (blk b4 24 [vr]), (sl xl 1 l.length (ints l)), (sl vr 2 R.length (pairs R)), (runsR false vu lv rs)]) := hS302.segs_sel (woSel l rs.length) (i := 16) rfl (fun _ h => woSel_lt h); clear hS302
  have hS305 : Sep NoB w w299 [(row v303 54 3 ((woF rs l).length) (vtrips (runV (woV lv rs.length l) (woF rs l)))), (segsR false (woV lv rs.length l) (woF rs l)), (runsR true v267 lv268 (woF rs l)), (runsR false v258 (woV lv rs.length l) (woF rs l)), (row u247 42 2 R.length (pairs R)), (row u224 42 2 R.length (pairs (ratesF R (woF rs (doubtF R rs))))), (runsR true v217 lv218 (woF rs (doubtF R rs))), (runsR false v208 (woV lv rs.length (doubtF R rs)) (woF rs (doubtF R rs))), (row u197 42 2 R.length (pairs R)), (runsR true v168 lv169 rs), (row u160 42 2 R.length (pairs R)), (row u53 3 1 ((doubtF R rs).length) (ints (doubtF R rs))), (runsR true v46 lv47 rs), (row u38 42 2 R.length (pairs R)), (blk b4 24 [vr]), (sl xl 1 l.length (ints l)), (sl vr 2 R.length (pairs R)), (runsR false vu lv rs)] := hS304.keep [1, 0, 2, 3, 4, 5, 6, 7, 8, 9, 10, 11, 12, 13, 14, 15, 16, 17] (by decide) _ rfl rfl; clear hS304
  have hS306 := hS305.runs_ro rfl; clear hS305
  refine st hA298 (op_lenS rfl un_25 (hA298.ev rfl) (runs_at (hS306.ok 0 _ rfl)).runs) rfl rfl (by decide) fun a307 hA308 => ?_; clear hA298 a297
  refine st hA308 (op_sub rfl (hA308.ev rfl) (hA308.ev rfl) (by omega) (by omega)) rfl rfl (by decide) fun a309 hA310 => ?_; clear hA308 a307
  refine st hA310 (op_assign rfl (hA310.ev rfl)) rfl rfl (by decide) fun a311 hA312 => ?_; clear hA310 a309
  refine wl_nil ?_
  refine then_n ?_
  refine c_seq ?_
  have hA313 := hA312.as [(19, (Value.int .i64 ((rs.length : Int) - ((woF rs l).length : Int)))), (18, (Value.int .i64 (possF R (woF rs l)))), (15, (Value.int .i64 0)), (12, (Value.int .i64 (possF R rs))), (7, u53)] rfl; clear hA312
  refine c_region ?_
  refine st hA313 (op_move rfl (hA313.ev rfl)) rfl rfl (by decide) fun a314 hA315 => ?_; clear hA313 a311
  refine st hA315 (op_eql rfl (hA315.ev rfl) (evc _ _)) rfl rfl (by decide) fun a316 hA317 => ?_; clear hA315 a314
  have hd318 : ¬ ((possF R rs) = 0) := (by omega)
  rw [decide_eq_false hd318] at hA317
  refine st hA317 (op_move rfl (hA317.ev rfl)) rfl rfl (by decide) fun a319 hA320 => ?_; clear hA317 a316
  refine st hA320 (op_lenS rfl un_40 (hA320.ev rfl) (SlAt.of_row (hS306.ok_row 10 rfl))) rfl rfl (by decide) fun a321 hA322 => ?_; clear hA320 a319
  refine st hA322 (op_eql rfl (hA322.ev rfl) (evc _ _)) rfl rfl (by decide) fun a323 hA324 => ?_; clear hA322 a321
  have hd325 : ¬ (((doubtF R rs).length : Int) = 0) := (by omega)
  rw [decide_eq_false hd325] at hA324
  refine st hA324 (op_eqlB un_4 rfl (hA324.ev rfl) (hA324.ev rfl)) rfl rfl (by decide) fun a326 hA327 => ?_; clear hA324 a323
  refine st hA327 (op_move rfl (hA327.ev rfl)) rfl rfl (by decide) fun a328 hA329 => ?_; clear hA327 a326
  refine stg hA329 (op_move rfl (hA329.ev rfl)) rfl rfl rfl rfl (by decide) fun a330 hA331 => ?_; clear hA329 a328
  refine stg hA331 (op_eql rfl (hA331.ev rfl) (evc _ _)) rfl rfl rfl rfl (by decide) fun a332 hA333 => ?_; clear hA331 a330
  refine st hA333 (op_pick_t rfl (hA333.ev rfl) (hA333.ev rfl)) rfl rfl (by decide) fun a334 hA335 => ?_; clear hA333 a332
  refine st hA335 (op_move rfl (hA335.ev rfl)) rfl rfl (by decide) fun a336 hA337 => ?_; clear hA335 a334
  refine stg hA337 (op_move rfl (hA337.ev rfl)) rfl rfl rfl rfl (by decide) fun a338 hA339 => ?_; clear hA337 a336
  refine stg hA339 (op_eql rfl (hA339.ev rfl) (evc _ _)) rfl rfl rfl rfl (by decide) fun a340 hA341 => ?_; clear hA339 a338
  have hd342 : (possF R (woF rs l)) = 9 := (by omega)
  rw [decide_eq_true hd342] at hA341
  refine stg hA341 (op_move rfl (hA341.ev rfl)) rfl rfl rfl rfl (by decide) fun a343 hA344 => ?_; clear hA341 a340
  refine skp hA344 rfl rfl rfl rfl rfl (by decide) fun a345 hA346 => ?_; clear hA344 a343
  refine skp hA346 rfl rfl rfl rfl rfl (by decide) fun a347 hA348 => ?_; clear hA346 a345
  refine skp hA348 rfl rfl rfl rfl rfl (by decide) fun a349 hA350 => ?_; clear hA348 a347
  refine skpU hA350 rfl rfl rfl rfl (by decide) fun a351 hA352 => ?_; clear hA350 a349
  refine skpU hA352 rfl rfl rfl rfl (by decide) fun a353 hA354 => ?_; clear hA352 a351
  refine skpU hA354 rfl rfl rfl rfl (by decide) fun a355 hA356 => ?_; clear hA354 a353
  refine skpU hA356 rfl rfl rfl rfl (by decide) fun a357 hA358 => ?_; clear hA356 a355
  refine skp hA358 rfl rfl rfl rfl rfl (by decide) fun a359 hA360 => ?_; clear hA358 a357
  refine stg hA360 (op_pick_t rfl (hA360.ev rfl) (evc _ _)) rfl rfl rfl rfl (by decide) fun a361 hA362 => ?_; clear hA360 a359
  refine st hA362 (op_pick_t rfl (hA362.ev rfl) (hA362.ev rfl)) rfl rfl (by decide) fun a363 hA364 => ?_; clear hA362 a361
  refine st hA364 (op_move rfl (hA364.ev rfl)) rfl rfl (by decide) fun a365 hA366 => ?_; clear hA364 a363
  refine stwg hA366 (op_call rfl en_17 ev0 (awake_ok _)) rfl rfl rfl rfl (by decide) ?_
  rintro a367 _ w369 ⟨rfl, hE370⟩ hA368; have hS371 := hS306.step hE370; clear hE370 hA366 hS306 a365
  refine st hA368 (op_pick_t rfl (hA368.ev rfl) (hA368.ev rfl)) rfl rfl (by decide) fun a372 hA373 => ?_; clear hA368 a367
  refine st hA373 (op_assign rfl (hA373.ev rfl)) rfl rfl (by decide) fun a374 hA375 => ?_; clear hA373 a372
  refine wl_nil ?_
  refine then_n ?_
  refine c_ret ?_
  refine fin_run hA375 (.inl rfl) (run_results1 hA375 rfl (.tmp rfl)) ?_
  exact ⟨rfl, hS371.ext⟩
set_option maxHeartbeats 4000000 in
theorem CreepDoubtful_c (w : World) (R : List (Int × Int)) (vr : Value) (hm : SlAt w vr 2 R.length (pairs R)) (rs : List RunD) (lv : List Value) (vu : Value) (hx : RunsAt w vu lv rs) (l : List Int) (xl : Value) (hxl : SlAt w xl 1 l.length (ints l)) (hf : readyB R rs [] = true) (hl : l.length ≤ 9) (hc : possF R rs = 9) (hn : possF R (woF rs l) = 0) :
  Calls Try.prog 13 #[(Value.agg #[vr]), vu, xl] w (Ret fun v w' => v = .bool true ∧ Ext NoB w w') := by
 refine calls_enter Try.func13 rfl fun a0 hA0 => ?_
 replace hA0 : Fr 143 [] [(0, (Value.agg #[vr])), (1, vu), (2, xl)] a0 := hA0
 have hrd := ready_is hf; have hth := hrd.1; have he := hrd.2.1; have h6 := hth.mat; have h9 := hth.runs; have h12 := hth.plan; have hp8 := hrd.2.2.1; have hsb := hrd.2.2.2; have hcm := check_mat (enter_mat he); have hR := hcm.1; have hR1 := hcm.2.1; have hR3 := hR.1; have hV := enter_runs he; have hrt := ratesF_len R rs; have hle := allowed_le (rs := rs) hR; have hdb := doubt_bd he; have hg := doubt_pos he; have hdz := doubt_zero he; have hwl1 := wo_len rs l; have hwl2 := wo_len rs (doubtF R rs); have hrw1 := ratesF_len R (woF rs l); have hrw2 := ratesF_len R (woF rs (doubtF R rs)); have hew := wo_enter (l := l) he; have hd0 : (doubtF R rs).length ≠ 0 := (fun h => by have := hdz.2 h; omega); have hdl := doubt_least he hn
 have hS0 : Sep NoB w w [(sl xl 1 l.length (ints l)), (sl vr 2 R.length (pairs R)), (runsR false vu lv rs)] := sep_ro ⟨rfl, hxl, rfl, hm, rfl, hx, trivial⟩
 refine c_seq ?_
 refine c_region ?_
 refine stw hA0 (op_box hS0 rfl (hA0.ev rfl) (cs := [vr]) rfl) rfl rfl (by decide) ?_
 rintro a1 _ w3 ⟨b4, rfl, hS5⟩ hA2; clear hA0 hS0 a0
 refine st hA2 (op_assign rfl (evc _ _)) rfl rfl (by decide) fun a6 hA7 => ?_; clear hA2 a1
 refine wl_nil ?_
 refine then_n ?_
 refine c_seq ?_
 refine c_seq ?_
 refine c_region ?_
 refine st hA7 (op_loadA rfl ty_24 (hA7.ev rfl) (hS5.bk 0 rfl) (l := [vr]) rfl rfl) rfl rfl (by decide) fun a8 hA9 => ?_; clear hA7 a6
 refine st hA9 (op_move rfl (hA9.ev rfl)) rfl rfl (by decide) fun a10 hA11 => ?_; clear hA9 a8
 refine stw hA11 (op_call rfl en_27 (ev3 (hA11.ev rfl) (hA11.ev rfl) (evc _ _)) (ready_ok _ R _ (hS5.sk 2 rfl) rs _ _ (runs_at (hS5.ok 3 _ rfl)) ([]) _ (slAt_nil _ 3))) rfl rfl (by decide) ?_
 rintro a12 _ w14 ⟨rfl, hE15⟩ hA13; have hS16 := hS5.step hE15; clear hE15 hA11 hS5 a10
 rw [hf] at hA13
 refine st hA13 (op_not rfl (hA13.ev rfl)) rfl rfl (by decide) fun a17 hA18 => ?_; clear hA13 a12
 refine st hA18 (op_move rfl (hA18.ev rfl)) rfl rfl (by decide) fun a19 hA20 => ?_; clear hA18 a17
 refine stg hA20 (op_move rfl (hA20.ev rfl)) rfl rfl rfl rfl (by decide) fun a21 hA22 => ?_; clear hA20 a19
 refine stg hA22 (op_lenS rfl un_40 (hA22.ev rfl) (hS16.sk 1 rfl)) rfl rfl rfl rfl (by decide) fun a23 hA24 => ?_; clear hA22 a21
 refine stg hA24 (op_gtr rfl (hA24.ev rfl) (evc _ _)) rfl rfl rfl rfl (by decide) fun a25 hA26 => ?_; clear hA24 a23
 have hd27 : ¬ (9 < (l.length : Int)) := (by omega)
 rw [decide_eq_false hd27] at hA26
 refine st hA26 (op_pick_f rfl (hA26.ev rfl) (hA26.ev rfl)) rfl rfl (by decide) fun a28 hA29 => ?_; clear hA26 a25
 refine wl_nil ?_
 refine then_n ?_
 refine c_false hA29 rfl ?_
 refine c_skip ?_
 refine then_n ?_
 refine c_seq ?_
 have hA30 := hA29.as [(3, (bptr b4 0)), (1, vu), (2, xl)] rfl; clear hA29
 refine c_region ?_
 refine st hA30 (op_loadA rfl ty_24 (hA30.ev rfl) (hS16.bk 0 rfl) (l := [vr]) rfl rfl) rfl rfl (by decide) fun a31 hA32 => ?_; clear hA30 a28
 refine stw hA32 (op_call rfl en_19 (ev1 (hA32.ev rfl)) (Material_ok _ R _ (hS16.sk 2 rfl) hth.mat)) rfl rfl (by decide) ?_
 rintro a33 _ w35 ⟨u38, rfl, hT36⟩ hA34; have hS37 := hS16.callS hT36 rfl; clear hT36 hA32 hS16 a31
 refine st hA34 (op_move rfl (hA34.ev rfl)) rfl rfl (by decide) fun a39 hA40 => ?_; clear hA34 a33
 refine stw hA40 (op_call rfl en_20 (ev1 (hA40.ev rfl)) (Runs_ok _ rs _ _ (runs_at (hS37.ok 4 _ rfl)) h9 hth.segs)) rfl rfl (by decide) ?_
 rintro a41 v46 w43 ⟨lv47, hT44⟩ hA42; have hS45 := hS37.callS hT44 rfl; clear hT44 hA40 hS37 a39
 refine stw hA42 (op_call rfl en_43 (ev2 (hA42.ev rfl) (hA42.ev rfl)) (doubt_ok R rs lv47 u38 v46 _ (SlAt.of_row (hS45.ok_row 1 rfl)) (runs_at (hS45.ok 0 _ rfl)) (by omega) (by omega) he)) rfl rfl (by decide) ?_
 rintro a48 _ w50 ⟨u53, rfl, hT51⟩ hA49; have hS52 := hS45.callS hT51 rfl; clear hT51 hA42 hS45 a41
 refine st hA49 (op_move rfl (hA49.ev rfl)) rfl rfl (by decide) fun a54 hA55 => ?_; clear hA49 a48
 refine st hA55 (op_extract rfl (hA55.ev rfl) rfl) rfl rfl (by decide) fun a56 hA57 => ?_; clear hA55 a54
 refine st hA57 (op_extract rfl (hA57.ev rfl) rfl) rfl rfl (by decide) fun a58 hA59 => ?_; clear hA57 a56
 refine st hA59 (op_assign rfl (hA59.ev rfl)) rfl rfl (by decide) fun a60 hA61 => ?_; clear hA59 a58
 refine st hA61 (op_assign rfl (hA61.ev rfl)) rfl rfl (by decide) fun a62 hA63 => ?_; clear hA61 a60
 refine wl_nil ?_
 refine then_n ?_
 refine c_seq ?_
 refine c_seq ?_
 have hA64 := hA63.as [(8, (Value.int .i64 0)), (7, u53), (3, (bptr b4 0)), (1, vu), (2, xl)] rfl; clear hA63
 refine c_region ?_
 refine st hA64 (op_move rfl (hA64.ev rfl)) rfl rfl (by decide) fun a65 hA66 => ?_; clear hA64 a62
 refine st hA66 (op_neq rfl (hA66.ev rfl) (evc _ _)) rfl rfl (by decide) fun a67 hA68 => ?_; clear hA66 a65
 refine st hA68 (op_move rfl (hA68.ev rfl)) rfl rfl (by decide) fun a69 hA70 => ?_; clear hA68 a67
 refine stg hA70 (op_move rfl (hA70.ev rfl)) rfl rfl rfl rfl (by decide) fun a71 hA72 => ?_; clear hA70 a69
 refine stg hA72 (op_lenS rfl un_40 (hA72.ev rfl) (SlAt.of_row (hS52.ok_row 0 rfl))) rfl rfl rfl rfl (by decide) fun a73 hA74 => ?_; clear hA72 a71
 refine stg hA74 (op_move rfl (hA74.ev rfl)) rfl rfl rfl rfl (by decide) fun a75 hA76 => ?_; clear hA74 a73
 refine stg hA76 (op_lenS rfl un_25 (hA76.ev rfl) (runs_at (hS52.ok 6 _ rfl)).runs) rfl rfl rfl rfl (by decide) fun a77 hA78 => ?_; clear hA76 a75
 refine stg hA78 (op_gtr rfl (hA78.ev rfl) (hA78.ev rfl)) rfl rfl rfl rfl (by decide) fun a79 hA80 => ?_; clear hA78 a77
 have hd81 : ¬ ((rs.length : Int) < ((doubtF R rs).length : Int)) := (by omega)
 rw [decide_eq_false hd81] at hA80
 refine st hA80 (op_pick_f rfl (hA80.ev rfl) (hA80.ev rfl)) rfl rfl (by decide) fun a82 hA83 => ?_; clear hA80 a79
 refine wl_nil ?_
 refine then_n ?_
 refine c_false hA83 rfl ?_
 refine c_skip ?_
 refine then_n ?_
 refine c_seq ?_
 refine c_seq ?_
 have hA84 := hA83.as [(7, u53), (3, (bptr b4 0)), (1, vu), (2, xl)] rfl; clear hA83
 refine c_region ?_
 refine st hA84 (op_assign rfl (evc _ _)) rfl rfl (by decide) fun a85 hA86 => ?_; clear hA84 a82
 refine wl_nil ?_
 refine then_n ?_
 refine c_block ?_
 have hA87 := hA86.as [(9, (Value.int .i64 0)), (7, u53), (3, (bptr b4 0)), (1, vu), (2, xl)] rfl; clear hA86
 refine c_loop (G := Nat) (fun (k : Nat) a_ w_ => Fr 143 [] [(9, (Value.int .i64 (k : Int))), (7, u53), (3, (bptr b4 0)), (1, vu), (2, xl)] a_ ∧ Sep NoB w w_ [(row u53 3 1 ((doubtF R rs).length) (ints (doubtF R rs))), (runsR true v46 lv47 rs), (row u38 42 2 R.length (pairs R)), (blk b4 24 [vr]), (sl xl 1 l.length (ints l)), (sl vr 2 R.length (pairs R)), (runsR false vu lv rs)] ∧ (k ≤ (doubtF R rs).length)) (fun k => (doubtF R rs).length - k) 0 ⟨hA87.as _ rfl, hS52, by omega⟩ ?_
 clear hA87 hS52 a85
 rintro k a88 w90 ⟨hA89, hS91, hk⟩
 refine c_seq ?_
 refine c_seq ?_
 refine c_region ?_
 refine st hA89 (op_move rfl (hA89.ev rfl)) rfl rfl (by decide) fun a92 hA93 => ?_; clear hA89 a88
 refine st hA93 (op_move rfl (hA93.ev rfl)) rfl rfl (by decide) fun a94 hA95 => ?_; clear hA93 a92
 refine st hA95 (op_lenS rfl un_40 (hA95.ev rfl) (SlAt.of_row (hS91.ok_row 0 rfl))) rfl rfl (by decide) fun a96 hA97 => ?_; clear hA95 a94
 refine st hA97 (op_lss rfl (hA97.ev rfl) (hA97.ev rfl)) rfl rfl (by decide) fun a98 hA99 => ?_; clear hA97 a96
 refine wl_nil ?_
 refine then_n ?_
 by_cases hb100 : (k : Int) < ((doubtF R rs).length : Int)
 ·skip
  rw [decide_eq_true hb100] at hA99
  have hbk := hdb.2.1 k (by omega)
  refine c_true hA99 rfl ?_
  refine c_skip ?_
  refine then_n ?_
  refine c_seq ?_
  refine c_block ?_
  refine c_seq ?_
  have hA101 := hA99.as [(9, (Value.int .i64 (k : Int))), (7, u53), (3, (bptr b4 0)), (1, vu), (2, xl)] rfl; clear hA99
  by_cases hb103 : 0 < (k : Int)
  ·skip
   have hA104 := hA101.as [(9, (Value.int .i64 (k : Int))), (7, u53), (3, (bptr b4 0)), (1, vu), (2, xl)] rfl; clear hA101
   refine c_drawn mixed hA104 hS91 22 [[], [], [0, 1], [2], [], [4], [5], [3, 6], [7], [8], [9], [9, 10], [9, 11], [12], [12], [12, 13, 14], [12, 15], [12], [12], [12, 18], [12, 17, 19], [12, 20]] [(Yd.val u53), (Yd.val (Value.int .i64 (k : Int))), (Yd.val (eptr u53 (k * 1))), (Yd.val (Value.int .i64 ((doubtF R rs).getD k 0))), (Yd.val vu), (Yd.val (Value.int .i64 (rs.length : Int))), (Yd.val (Value.int .i64 ((rs.length : Int) - 1))), (Yd.val (Value.bool true)), (Yd.val (Value.bool (!true))), (Yd.val (Value.bool (!true))), (Yd.val (Value.int .i64 (k : Int))), (Yd.val (Value.bool true)), (Yd.val (Value.bool true)), (Yd.val u53), (Yd.val (Value.int .i64 (k : Int))), (Yd.val (eptr u53 (k * 1))), (Yd.val (Value.int .i64 ((doubtF R rs).getD k 0))), (Yd.val u53), (Yd.val (Value.int .i64 (k : Int))), (Yd.val (Value.int .i64 ((k : Int) - 1))), (Yd.val (eptr u53 (((k : Int) - 1).toNat * 1))), (Yd.val (Value.int .i64 ((doubtF R rs).getD (((k : Int) - 1).toNat) 0)))] (by decide +kernel) rfl rfl ?_ ?_
   ·skip
    refine ⟨fun a w hA hS hd => by exact opG_of rfl (dv (op_move rfl (hA.ev rfl)) hS rfl), ?_⟩
    refine ⟨fun a w hA hS hd => by exact opG_of rfl (dv (op_move rfl (hA.ev rfl)) hS rfl), ?_⟩
    refine ⟨fun a w hA hS hd => by have e0 := has_ev (hd 0 (by decide)) rfl (fun _ h => h); have e1 := has_ev (hd 1 (by decide)) rfl (fun _ h => h); exact opG_of rfl (dv (op_indexS rfl un_40 ty_3 (tmp_ev e0) (i := k) (tmp_ev e1) (SlAt.of_row (hS.ok_row 0 rfl)) (by decide) (by omega)) hS rfl), ?_⟩
    refine ⟨fun a w hA hS hd => by have e2 := has_ev (hd 2 (by decide)) rfl (fun _ h => h); exact opG_of rfl (dv (op_load1E rfl ty_3 (tmp_ev e2) (SlAt.of_row (hS.ok_row 0 rfl)) (ints_at (by omega))) hS rfl), ?_⟩
    refine ⟨fun a w hA hS hd => by exact opG_of rfl (dv (op_move rfl (hA.ev rfl)) hS rfl), ?_⟩
    refine ⟨fun a w hA hS hd => by have e4 := has_ev (hd 4 (by decide)) rfl (fun _ h => h); exact opG_of rfl (dv (op_lenS rfl un_25 (tmp_ev e4) (runs_at (hS.ok 6 _ rfl)).runs) hS rfl), ?_⟩
    refine ⟨fun a w hA hS hd => by have e5 := has_ev (hd 5 (by decide)) rfl (fun _ h => h); exact opG_of rfl (dv (op_sub rfl (tmp_ev e5) (evc _ _) (by omega) (by omega)) hS rfl), ?_⟩
    refine ⟨fun a w hA hS hd => by have e3 := has_ev (hd 3 (by decide)) rfl (fun _ h => h); have e6 := has_ev (hd 6 (by decide)) rfl (fun _ h => h); exact opG_of rfl (dv (op_call rfl en_24 (ev3 (tmp_ev e3) (evc _ _) (tmp_ev e6)) (In_ok _ _ _ _)) hS (by show Value.bool _ = _; simp only [(show (decide (0 ≤ ((doubtF R rs).getD k 0)) && decide (((doubtF R rs).getD k 0) ≤ ((rs.length : Int) - 1))) = true from (by simp only [Bool.and_eq_true, decide_eq_true_eq]; omega)), decide_true, decide_false, Bool.not_true, Bool.not_false])), ?_⟩
    refine ⟨fun a w hA hS hd => by have e7 := has_ev (hd 7 (by decide)) rfl (fun _ h => h); exact opG_of rfl (dv (op_not rfl (tmp_ev e7)) hS rfl), ?_⟩
    refine ⟨fun a w hA hS hd => by have e8 := has_ev (hd 8 (by decide)) rfl (fun _ h => h); exact opG_of rfl (dv (op_move rfl (tmp_ev e8)) hS rfl), ?_⟩
    refine ⟨fun a w hA hS hd => by have e9 := has_ev (hd 9 (by decide)) rfl (fun _ h => h); exact opG_yes rfl rfl e9 (dv (op_move rfl (hA.ev rfl)) hS rfl), ?_⟩
    refine ⟨fun a w hA hS hd => by have e9 := has_ev (hd 9 (by decide)) rfl (fun _ h => h); have e10 := has_ev (hd 10 (by decide)) rfl (fun _ h => h); exact opG_yes rfl rfl e9 (dv (op_gtr rfl (tmp_ev e10) (evc _ _)) hS (by show Value.bool _ = _; simp only [decide_eq_true hb103, decide_true, decide_false, Bool.not_true, Bool.not_false])), ?_⟩
    refine ⟨fun a w hA hS hd => by have e9 := has_ev (hd 9 (by decide)) rfl (fun _ h => h); have e11 := has_ev (hd 11 (by decide)) rfl (fun _ h => h); exact opG_yes rfl rfl e9 (dv (op_move rfl (tmp_ev e11)) hS rfl), ?_⟩
    refine ⟨fun a w hA hS hd => by have e12 := has_ev (hd 12 (by decide)) rfl (fun _ h => h); exact opG_yes rfl rfl e12 (dv (op_move rfl (hA.ev rfl)) hS rfl), ?_⟩
    refine ⟨fun a w hA hS hd => by have e12 := has_ev (hd 12 (by decide)) rfl (fun _ h => h); exact opG_yes rfl rfl e12 (dv (op_move rfl (hA.ev rfl)) hS rfl), ?_⟩
    refine ⟨fun a w hA hS hd => by have e12 := has_ev (hd 12 (by decide)) rfl (fun _ h => h); have e13 := has_ev (hd 13 (by decide)) rfl (fun _ h => h); have e14 := has_ev (hd 14 (by decide)) rfl (fun _ h => h); exact opG_yes rfl rfl e12 (dv (op_indexS rfl un_40 ty_3 (tmp_ev e13) (i := k) (tmp_ev e14) (SlAt.of_row (hS.ok_row 0 rfl)) (by decide) (by omega)) hS rfl), ?_⟩
    refine ⟨fun a w hA hS hd => by have e12 := has_ev (hd 12 (by decide)) rfl (fun _ h => h); have e15 := has_ev (hd 15 (by decide)) rfl (fun _ h => h); exact opG_yes rfl rfl e12 (dv (op_load1E rfl ty_3 (tmp_ev e15) (SlAt.of_row (hS.ok_row 0 rfl)) (ints_at (by omega))) hS rfl), ?_⟩
    refine ⟨fun a w hA hS hd => by have e12 := has_ev (hd 12 (by decide)) rfl (fun _ h => h); exact opG_yes rfl rfl e12 (dv (op_move rfl (hA.ev rfl)) hS rfl), ?_⟩
    refine ⟨fun a w hA hS hd => by have e12 := has_ev (hd 12 (by decide)) rfl (fun _ h => h); exact opG_yes rfl rfl e12 (dv (op_move rfl (hA.ev rfl)) hS rfl), ?_⟩
    refine ⟨fun a w hA hS hd => by have e12 := has_ev (hd 12 (by decide)) rfl (fun _ h => h); have e18 := has_ev (hd 18 (by decide)) rfl (fun _ h => h); exact opG_yes rfl rfl e12 (dv (op_sub rfl (tmp_ev e18) (evc _ _) (by omega) (by omega)) hS rfl), ?_⟩
    refine ⟨fun a w hA hS hd => by have e12 := has_ev (hd 12 (by decide)) rfl (fun _ h => h); have e17 := has_ev (hd 17 (by decide)) rfl (fun _ h => h); have e19 := has_ev (hd 19 (by decide)) rfl (fun _ h => h); exact opG_yes rfl rfl e12 (dv (op_indexS rfl un_40 ty_3 (tmp_ev e17) (i := ((k : Int) - 1).toNat) ((tmp_ev e19).trans (int_nat (by omega))) (SlAt.of_row (hS.ok_row 0 rfl)) (by decide) (by omega)) hS rfl), ?_⟩
    refine ⟨fun a w hA hS hd => by have e12 := has_ev (hd 12 (by decide)) rfl (fun _ h => h); have e20 := has_ev (hd 20 (by decide)) rfl (fun _ h => h); exact opG_yes rfl rfl e12 (dv (op_load1E rfl ty_3 (tmp_ev e20) (SlAt.of_row (hS.ok_row 0 rfl)) (ints_at (by omega))) hS rfl), ?_⟩
    trivial
   intro a106 w107 hA108 hS109 hH110; clear hA104 hS91
   have hA111 := hA108.add (has_ev (hH110 9 (by decide)) rfl (fun _ h => h)); clear hA108
   have hA112 := hA111.add (has_ev (hH110 12 (by decide)) rfl (fun _ h => h)); clear hA111
   have hA113 := hA112.add (has_ev (hH110 16 (by decide)) rfl (fun _ h => h)); clear hA112
   have hA114 := hA113.add (has_ev (hH110 21 (by decide)) rfl (fun _ h => h)); clear hA113
   clear hH110
   refine stg hA114 (op_leq rfl (hA114.ev rfl) (hA114.ev rfl)) rfl rfl rfl rfl (by decide) fun a115 hA116 => ?_; clear hA114 a106
   have hd117 : ¬ (((doubtF R rs).getD k 0) ≤ ((doubtF R rs).getD (((k : Int) - 1).toNat) 0)) := (by have hz_ := hdb.2.2 k (by omega) (by omega); rw [toNat_pred]; omega)
   rw [decide_eq_false hd117] at hA116
   refine stg hA116 (op_pick_t rfl (hA116.ev rfl) (hA116.ev rfl)) rfl rfl rfl rfl (by decide) fun a118 hA119 => ?_; clear hA116 a115
   refine st hA119 (op_pick_f rfl (hA119.ev rfl) (hA119.ev rfl)) rfl rfl (by decide) fun a120 hA121 => ?_; clear hA119 a118
   refine wl_nil ?_
   refine then_n ?_
   refine c_false hA121 rfl ?_
   refine c_skip ?_
   refine blk_n ?_
   refine then_n ?_
   have hA122 := hA121.as [(9, (Value.int .i64 (k : Int))), (7, u53), (3, (bptr b4 0)), (1, vu), (2, xl)] rfl; clear hA121
   refine c_region ?_
   refine st hA122 (op_move rfl (hA122.ev rfl)) rfl rfl (by decide) fun a123 hA124 => ?_; clear hA122 a120
   refine st hA124 (op_add rfl (hA124.ev rfl) (evc _ _) (by omega) (by omega)) rfl rfl (by decide) fun a125 hA126 => ?_; clear hA124 a123
   refine st hA126 (op_assign rfl (hA126.ev rfl)) rfl rfl (by decide) fun a127 hA128 => ?_; clear hA126 a125
   refine wl_nil ?_
   exact then_n ⟨k + 1, ⟨hA128.as _ rfl, hS109, by omega⟩, by omega⟩
  ·skip
   have hA129 := hA101.as [(9, (Value.int .i64 (k : Int))), (7, u53), (3, (bptr b4 0)), (1, vu), (2, xl)] rfl; clear hA101
   refine c_drawn mixed hA129 hS91 22 [[], [], [0, 1], [2], [], [4], [5], [3, 6], [7], [8], [9], [9, 10], [9, 11], [12], [12], [12, 13, 14], [12, 15], [12], [12], [12, 18], [12, 17, 19], [12, 20]] [(Yd.val u53), (Yd.val (Value.int .i64 (k : Int))), (Yd.val (eptr u53 (k * 1))), (Yd.val (Value.int .i64 ((doubtF R rs).getD k 0))), (Yd.val vu), (Yd.val (Value.int .i64 (rs.length : Int))), (Yd.val (Value.int .i64 ((rs.length : Int) - 1))), (Yd.val (Value.bool true)), (Yd.val (Value.bool (!true))), (Yd.val (Value.bool (!true))), (Yd.val (Value.int .i64 (k : Int))), (Yd.val (Value.bool false)), (Yd.val (Value.bool false)), (Yd.val undef), (Yd.val undef), (Yd.val undef), (Yd.val undef), (Yd.val undef), (Yd.val undef), (Yd.val undef), (Yd.val undef), (Yd.val undef)] (by decide +kernel) rfl rfl ?_ ?_
   ·skip
    refine ⟨fun a w hA hS hd => by exact opG_of rfl (dv (op_move rfl (hA.ev rfl)) hS rfl), ?_⟩
    refine ⟨fun a w hA hS hd => by exact opG_of rfl (dv (op_move rfl (hA.ev rfl)) hS rfl), ?_⟩
    refine ⟨fun a w hA hS hd => by have e0 := has_ev (hd 0 (by decide)) rfl (fun _ h => h); have e1 := has_ev (hd 1 (by decide)) rfl (fun _ h => h); exact opG_of rfl (dv (op_indexS rfl un_40 ty_3 (tmp_ev e0) (i := k) (tmp_ev e1) (SlAt.of_row (hS.ok_row 0 rfl)) (by decide) (by omega)) hS rfl), ?_⟩
    refine ⟨fun a w hA hS hd => by have e2 := has_ev (hd 2 (by decide)) rfl (fun _ h => h); exact opG_of rfl (dv (op_load1E rfl ty_3 (tmp_ev e2) (SlAt.of_row (hS.ok_row 0 rfl)) (ints_at (by omega))) hS rfl), ?_⟩
    refine ⟨fun a w hA hS hd => by exact opG_of rfl (dv (op_move rfl (hA.ev rfl)) hS rfl), ?_⟩
    refine ⟨fun a w hA hS hd => by have e4 := has_ev (hd 4 (by decide)) rfl (fun _ h => h); exact opG_of rfl (dv (op_lenS rfl un_25 (tmp_ev e4) (runs_at (hS.ok 6 _ rfl)).runs) hS rfl), ?_⟩
    refine ⟨fun a w hA hS hd => by have e5 := has_ev (hd 5 (by decide)) rfl (fun _ h => h); exact opG_of rfl (dv (op_sub rfl (tmp_ev e5) (evc _ _) (by omega) (by omega)) hS rfl), ?_⟩
    refine ⟨fun a w hA hS hd => by have e3 := has_ev (hd 3 (by decide)) rfl (fun _ h => h); have e6 := has_ev (hd 6 (by decide)) rfl (fun _ h => h); exact opG_of rfl (dv (op_call rfl en_24 (ev3 (tmp_ev e3) (evc _ _) (tmp_ev e6)) (In_ok _ _ _ _)) hS (by show Value.bool _ = _; simp only [(show (decide (0 ≤ ((doubtF R rs).getD k 0)) && decide (((doubtF R rs).getD k 0) ≤ ((rs.length : Int) - 1))) = true from (by simp only [Bool.and_eq_true, decide_eq_true_eq]; omega)), decide_true, decide_false, Bool.not_true, Bool.not_false])), ?_⟩
    refine ⟨fun a w hA hS hd => by have e7 := has_ev (hd 7 (by decide)) rfl (fun _ h => h); exact opG_of rfl (dv (op_not rfl (tmp_ev e7)) hS rfl), ?_⟩
    refine ⟨fun a w hA hS hd => by have e8 := has_ev (hd 8 (by decide)) rfl (fun _ h => h); exact opG_of rfl (dv (op_move rfl (tmp_ev e8)) hS rfl), ?_⟩
    refine ⟨fun a w hA hS hd => by have e9 := has_ev (hd 9 (by decide)) rfl (fun _ h => h); exact opG_yes rfl rfl e9 (dv (op_move rfl (hA.ev rfl)) hS rfl), ?_⟩
    refine ⟨fun a w hA hS hd => by have e9 := has_ev (hd 9 (by decide)) rfl (fun _ h => h); have e10 := has_ev (hd 10 (by decide)) rfl (fun _ h => h); exact opG_yes rfl rfl e9 (dv (op_gtr rfl (tmp_ev e10) (evc _ _)) hS (by show Value.bool _ = _; simp only [decide_eq_false hb103, decide_true, decide_false, Bool.not_true, Bool.not_false])), ?_⟩
    refine ⟨fun a w hA hS hd => by have e9 := has_ev (hd 9 (by decide)) rfl (fun _ h => h); have e11 := has_ev (hd 11 (by decide)) rfl (fun _ h => h); exact opG_yes rfl rfl e9 (dv (op_move rfl (tmp_ev e11)) hS rfl), ?_⟩
    refine ⟨fun a w hA hS hd => by have e12 := has_ev (hd 12 (by decide)) rfl (fun _ h => h); exact opG_no rfl rfl e12 rfl (dskip hS rfl), ?_⟩
    refine ⟨fun a w hA hS hd => by have e12 := has_ev (hd 12 (by decide)) rfl (fun _ h => h); exact opG_no rfl rfl e12 rfl (dskip hS rfl), ?_⟩
    refine ⟨fun a w hA hS hd => by have e12 := has_ev (hd 12 (by decide)) rfl (fun _ h => h); have e13 := has_ev (hd 13 (by decide)) rfl (fun _ h => h); have e14 := has_ev (hd 14 (by decide)) rfl (fun _ h => h); exact opG_no rfl rfl e12 rfl (dskip hS rfl), ?_⟩
    refine ⟨fun a w hA hS hd => by have e12 := has_ev (hd 12 (by decide)) rfl (fun _ h => h); have e15 := has_ev (hd 15 (by decide)) rfl (fun _ h => h); exact opG_no rfl rfl e12 rfl (dskip hS rfl), ?_⟩
    refine ⟨fun a w hA hS hd => by have e12 := has_ev (hd 12 (by decide)) rfl (fun _ h => h); exact opG_no rfl rfl e12 rfl (dskip hS rfl), ?_⟩
    refine ⟨fun a w hA hS hd => by have e12 := has_ev (hd 12 (by decide)) rfl (fun _ h => h); exact opG_no rfl rfl e12 rfl (dskip hS rfl), ?_⟩
    refine ⟨fun a w hA hS hd => by have e12 := has_ev (hd 12 (by decide)) rfl (fun _ h => h); have e18 := has_ev (hd 18 (by decide)) rfl (fun _ h => h); exact opG_no rfl rfl e12 rfl (dskip hS rfl), ?_⟩
    refine ⟨fun a w hA hS hd => by have e12 := has_ev (hd 12 (by decide)) rfl (fun _ h => h); have e17 := has_ev (hd 17 (by decide)) rfl (fun _ h => h); have e19 := has_ev (hd 19 (by decide)) rfl (fun _ h => h); exact opG_no rfl rfl e12 rfl (dskip hS rfl), ?_⟩
    refine ⟨fun a w hA hS hd => by have e12 := has_ev (hd 12 (by decide)) rfl (fun _ h => h); have e20 := has_ev (hd 20 (by decide)) rfl (fun _ h => h); exact opG_no rfl rfl e12 rfl (dskip hS rfl), ?_⟩
    trivial
   intro a131 w132 hA133 hS134 hH135; clear hA129 hS91
   have hA136 := hA133.add (has_ev (hH135 9 (by decide)) rfl (fun _ h => h)); clear hA133
   have hA137 := hA136.add (has_ev (hH135 12 (by decide)) rfl (fun _ h => h)); clear hA136
   have hA138 := hA137.add (has_ev (hH135 16 (by decide)) rfl (fun _ h => h)); clear hA137
   have hA139 := hA138.add (has_ev (hH135 21 (by decide)) rfl (fun _ h => h)); clear hA138
   clear hH135
   refine skp hA139 rfl rfl rfl rfl rfl (by decide) fun a140 hA141 => ?_; clear hA139 a131
   refine stg hA141 (op_pick_f rfl (hA141.ev rfl) (evc _ _)) rfl rfl rfl rfl (by decide) fun a142 hA143 => ?_; clear hA141 a140
   refine st hA143 (op_pick_f rfl (hA143.ev rfl) (hA143.ev rfl)) rfl rfl (by decide) fun a144 hA145 => ?_; clear hA143 a142
   refine wl_nil ?_
   refine then_n ?_
   refine c_false hA145 rfl ?_
   refine c_skip ?_
   refine blk_n ?_
   refine then_n ?_
   have hA146 := hA145.as [(9, (Value.int .i64 (k : Int))), (7, u53), (3, (bptr b4 0)), (1, vu), (2, xl)] rfl; clear hA145
   refine c_region ?_
   refine st hA146 (op_move rfl (hA146.ev rfl)) rfl rfl (by decide) fun a147 hA148 => ?_; clear hA146 a144
   refine st hA148 (op_add rfl (hA148.ev rfl) (evc _ _) (by omega) (by omega)) rfl rfl (by decide) fun a149 hA150 => ?_; clear hA148 a147
   refine st hA150 (op_assign rfl (hA150.ev rfl)) rfl rfl (by decide) fun a151 hA152 => ?_; clear hA150 a149
   refine wl_nil ?_
   exact then_n ⟨k + 1, ⟨hA152.as _ rfl, hS134, by omega⟩, by omega⟩
 ·skip
  rw [decide_eq_false hb100] at hA99
  refine c_false hA99 rfl ?_
  refine c_exit ?_
  refine then_exit ?_
  refine then_exit ?_
  refine blk_hit ?_
  refine then_n ?_
  refine c_seq ?_
  refine c_region ?_
  refine st hA99 (op_loadA rfl ty_24 (hA99.ev rfl) (hS91.bk 3 rfl) (l := [vr]) rfl rfl) rfl rfl (by decide) fun a153 hA154 => ?_; clear hA99 a98
  refine stw hA154 (op_call rfl en_19 (ev1 (hA154.ev rfl)) (Material_ok _ R _ (hS91.sk 5 rfl) hth.mat)) rfl rfl (by decide) ?_
  rintro a155 _ w157 ⟨u160, rfl, hT158⟩ hA156; have hS159 := hS91.callS hT158 rfl; clear hT158 hA154 hS91 a153
  refine st hA156 (op_move rfl (hA156.ev rfl)) rfl rfl (by decide) fun a161 hA162 => ?_; clear hA156 a155
  refine stw hA162 (op_call rfl en_20 (ev1 (hA162.ev rfl)) (Runs_ok _ rs _ _ (runs_at (hS159.ok 7 _ rfl)) h9 hth.segs)) rfl rfl (by decide) ?_
  rintro a163 v168 w165 ⟨lv169, hT166⟩ hA164; have hS167 := hS159.callS hT166 rfl; clear hT166 hA162 hS159 a161
  refine stw hA164 (op_call rfl en_18 (ev2 (hA164.ev rfl) (hA164.ev rfl)) (rates_bad R rs lv169 u160 v168 _ (SlAt.of_row (hS167.ok_row 1 rfl)) (runs_at (hS167.ok 0 _ rfl)) (by omega) (by omega) (by omega))) rfl rfl (by decide) ?_
  rintro a170 _ w172 ⟨rfl, hE173⟩ hA171; have hS174 := hS167.step hE173; clear hE173 hA164 hS167 a163
  refine st hA171 (op_move rfl (hA171.ev rfl)) rfl rfl (by decide) fun a175 hA176 => ?_; clear hA171 a170
  refine st hA176 (op_extract rfl (hA176.ev rfl) rfl) rfl rfl (by decide) fun a177 hA178 => ?_; clear hA176 a175
  refine st hA178 (op_extract rfl (hA178.ev rfl) rfl) rfl rfl (by decide) fun a179 hA180 => ?_; clear hA178 a177
  refine st hA180 (op_extract rfl (hA180.ev rfl) rfl) rfl rfl (by decide) fun a181 hA182 => ?_; clear hA180 a179
  refine st hA182 (op_assign rfl (hA182.ev rfl)) rfl rfl (by decide) fun a183 hA184 => ?_; clear hA182 a181
  refine st hA184 (op_assign rfl (hA184.ev rfl)) rfl rfl (by decide) fun a185 hA186 => ?_; clear hA184 a183
  refine st hA186 (op_assign rfl (hA186.ev rfl)) rfl rfl (by decide) fun a187 hA188 => ?_; clear hA186 a185
  refine wl_nil ?_
  refine then_n ?_
  refine c_seq ?_
  have hA189 := hA188.as [(12, (Value.int .i64 (possF R rs))), (7, u53), (3, (bptr b4 0)), (1, vu), (2, xl)] rfl; clear hA188
  refine c_region ?_
  refine st hA189 (op_loadA rfl ty_24 (hA189.ev rfl) (hS174.bk 5 rfl) (l := [vr]) rfl rfl) rfl rfl (by decide) fun a190 hA191 => ?_; clear hA189 a187
  refine stw hA191 (op_call rfl en_19 (ev1 (hA191.ev rfl)) (Material_ok _ R _ (hS174.sk 7 rfl) hth.mat)) rfl rfl (by decide) ?_
  rintro a192 _ w194 ⟨u197, rfl, hT195⟩ hA193; have hS196 := hS174.callS hT195 rfl; clear hT195 hA191 hS174 a190
  refine st hA193 (op_move rfl (hA193.ev rfl)) rfl rfl (by decide) fun a198 hA199 => ?_; clear hA193 a192
  refine st hA199 (op_move rfl (hA199.ev rfl)) rfl rfl (by decide) fun a200 hA201 => ?_; clear hA199 a198
  refine stw hA201 (op_call rfl en_46 (ev2 (hA201.ev rfl) (hA201.ev rfl)) (Without_ok _ rs _ _ (runs_at (hS196.ok 9 _ rfl)) (doubtF R rs) _ (SlAt.of_row (hS196.ok_row 3 rfl)) (by omega) (by omega))) rfl rfl (by decide) ?_
  rintro a202 v208 w204 ⟨hE205, hO206⟩ hA203; have hS207 := hS196.new_row hE205 hO206; clear hE205 hO206 hA201 hS196 a200
  have hS209 : Sep NoB w w204 (segsR false (woV lv rs.length (doubtF R rs)) (woF rs (doubtF R rs)) :: [(row v208 54 3 ((woF rs (doubtF R rs)).length) (vtrips (runV (woV lv rs.length (doubtF R rs)) (woF rs (doubtF R rs))))), (row u197 42 2 R.length (pairs R)), (runsR true v168 lv169 rs), (row u160 42 2 R.length (pairs R)), (row u53 3 1 ((doubtF R rs).length) (ints (doubtF R rs))), (runsR true v46 lv47 rs), (row u38 42 2 R.length (pairs R)), (blk b4 24 [vr]), (sl xl 1 l.length (ints l)), (sl vr 2 R.length (pairs R)), (runsR false vu lv rs)]) := hS207.segs_sel (woSel (doubtF R rs) rs.length) (i := 10) rfl (fun _ h => woSel_lt h); clear hS207
  have hS210 : Sep NoB w w204 [(row v208 54 3 ((woF rs (doubtF R rs)).length) (vtrips (runV (woV lv rs.length (doubtF R rs)) (woF rs (doubtF R rs))))), (segsR false (woV lv rs.length (doubtF R rs)) (woF rs (doubtF R rs))), (row u197 42 2 R.length (pairs R)), (runsR true v168 lv169 rs), (row u160 42 2 R.length (pairs R)), (row u53 3 1 ((doubtF R rs).length) (ints (doubtF R rs))), (runsR true v46 lv47 rs), (row u38 42 2 R.length (pairs R)), (blk b4 24 [vr]), (sl xl 1 l.length (ints l)), (sl vr 2 R.length (pairs R)), (runsR false vu lv rs)] := hS209.keep [1, 0, 2, 3, 4, 5, 6, 7, 8, 9, 10, 11] (by decide) _ rfl rfl; clear hS209
  have hS211 := hS210.runs_ro rfl; clear hS210
  refine stw hA203 (op_call rfl en_20 (ev1 (hA203.ev rfl)) (Runs_ok _ (woF rs (doubtF R rs)) _ _ (runs_at (hS211.ok 0 _ rfl)) (by have := wo_len rs (doubtF R rs); omega) (wo_segs hth.segs))) rfl rfl (by decide) ?_
  rintro a212 v217 w214 ⟨lv218, hT215⟩ hA213; have hS216 := hS211.callS hT215 rfl; clear hT215 hA203 hS211 a202
  refine stw hA213 (op_call rfl en_18 (ev2 (hA213.ev rfl) (hA213.ev rfl)) (rates_ok R (woF rs (doubtF R rs)) lv218 u197 v217 _ (SlAt.of_row (hS216.ok_row 2 rfl)) (runs_at (hS216.ok 0 _ rfl)) (by omega) (by omega) hg)) rfl rfl (by decide) ?_
  rintro a219 _ w221 ⟨u224, rfl, hT222⟩ hA220
  have hS223 : Sep NoB w w221 [(row u224 42 2 R.length (pairs (ratesF R (woF rs (doubtF R rs))))), (runsR true v217 lv218 (woF rs (doubtF R rs))), (runsR false v208 (woV lv rs.length (doubtF R rs)) (woF rs (doubtF R rs))), (row u197 42 2 R.length (pairs R)), (runsR true v168 lv169 rs), (row u160 42 2 R.length (pairs R)), (row u53 3 1 ((doubtF R rs).length) (ints (doubtF R rs))), (runsR true v46 lv47 rs), (row u38 42 2 R.length (pairs R)), (blk b4 24 [vr]), (sl xl 1 l.length (ints l)), (sl vr 2 R.length (pairs R)), (runsR false vu lv rs)] := hS216.callS hT222 rfl; clear hT222 hA213 hS216 a212
  refine st hA220 (op_move rfl (hA220.ev rfl)) rfl rfl (by decide) fun a225 hA226 => ?_; clear hA220 a219
  refine st hA226 (op_extract rfl (hA226.ev rfl) rfl) rfl rfl (by decide) fun a227 hA228 => ?_; clear hA226 a225
  refine st hA228 (op_extract rfl (hA228.ev rfl) rfl) rfl rfl (by decide) fun a229 hA230 => ?_; clear hA228 a227
  refine st hA230 (op_extract rfl (hA230.ev rfl) rfl) rfl rfl (by decide) fun a231 hA232 => ?_; clear hA230 a229
  refine st hA232 (op_assign rfl (hA232.ev rfl)) rfl rfl (by decide) fun a233 hA234 => ?_; clear hA232 a231
  refine st hA234 (op_assign rfl (hA234.ev rfl)) rfl rfl (by decide) fun a235 hA236 => ?_; clear hA234 a233
  refine st hA236 (op_assign rfl (hA236.ev rfl)) rfl rfl (by decide) fun a237 hA238 => ?_; clear hA236 a235
  refine wl_nil ?_
  refine then_n ?_
  refine c_seq ?_
  have hA239 := hA238.as [(15, (Value.int .i64 0)), (12, (Value.int .i64 (possF R rs))), (7, u53), (3, (bptr b4 0)), (1, vu), (2, xl)] rfl; clear hA238
  refine c_region ?_
  refine st hA239 (op_loadA rfl ty_24 (hA239.ev rfl) (hS223.bk 9 rfl) (l := [vr]) rfl rfl) rfl rfl (by decide) fun a240 hA241 => ?_; clear hA239 a237
  refine stw hA241 (op_call rfl en_19 (ev1 (hA241.ev rfl)) (Material_ok _ R _ (hS223.sk 11 rfl) hth.mat)) rfl rfl (by decide) ?_
  rintro a242 _ w244 ⟨u247, rfl, hT245⟩ hA243; have hS246 := hS223.callS hT245 rfl; clear hT245 hA241 hS223 a240
  refine st hA243 (op_move rfl (hA243.ev rfl)) rfl rfl (by decide) fun a248 hA249 => ?_; clear hA243 a242
  refine st hA249 (op_move rfl (hA249.ev rfl)) rfl rfl (by decide) fun a250 hA251 => ?_; clear hA249 a248
  refine stw hA251 (op_call rfl en_46 (ev2 (hA251.ev rfl) (hA251.ev rfl)) (Without_ok _ rs _ _ (runs_at (hS246.ok 13 _ rfl)) l _ (hS246.sk 11 rfl) (by omega) (by omega))) rfl rfl (by decide) ?_
  rintro a252 v258 w254 ⟨hE255, hO256⟩ hA253; have hS257 := hS246.new_row hE255 hO256; clear hE255 hO256 hA251 hS246 a250
  have hS259 : Sep NoB w w254 (segsR false (woV lv rs.length l) (woF rs l) :: [(row v258 54 3 ((woF rs l).length) (vtrips (runV (woV lv rs.length l) (woF rs l)))), (row u247 42 2 R.length (pairs R)), (row u224 42 2 R.length (pairs (ratesF R (woF rs (doubtF R rs))))), (runsR true v217 lv218 (woF rs (doubtF R rs))), (runsR false v208 (woV lv rs.length (doubtF R rs)) (woF rs (doubtF R rs))), (row u197 42 2 R.length (pairs R)), (runsR true v168 lv169 rs), (row u160 42 2 R.length (pairs R)), (row u53 3 1 ((doubtF R rs).length) (ints (doubtF R rs))), (runsR true v46 lv47 rs), (row u38 42 2 R.length (pairs R)), (blk b4 24 [vr]), (sl xl 1 l.length (ints l)), (sl vr 2 R.length (pairs R)), (runsR false vu lv rs)]) := hS257.segs_sel (woSel l rs.length) (i := 14) rfl (fun _ h => woSel_lt h); clear hS257
  have hS260 : Sep NoB w w254 [(row v258 54 3 ((woF rs l).length) (vtrips (runV (woV lv rs.length l) (woF rs l)))), (segsR false (woV lv rs.length l) (woF rs l)), (row u247 42 2 R.length (pairs R)), (row u224 42 2 R.length (pairs (ratesF R (woF rs (doubtF R rs))))), (runsR true v217 lv218 (woF rs (doubtF R rs))), (runsR false v208 (woV lv rs.length (doubtF R rs)) (woF rs (doubtF R rs))), (row u197 42 2 R.length (pairs R)), (runsR true v168 lv169 rs), (row u160 42 2 R.length (pairs R)), (row u53 3 1 ((doubtF R rs).length) (ints (doubtF R rs))), (runsR true v46 lv47 rs), (row u38 42 2 R.length (pairs R)), (blk b4 24 [vr]), (sl xl 1 l.length (ints l)), (sl vr 2 R.length (pairs R)), (runsR false vu lv rs)] := hS259.keep [1, 0, 2, 3, 4, 5, 6, 7, 8, 9, 10, 11, 12, 13, 14, 15] (by decide) _ rfl rfl; clear hS259
  have hS261 := hS260.runs_ro rfl; clear hS260
  refine stw hA253 (op_call rfl en_20 (ev1 (hA253.ev rfl)) (Runs_ok _ (woF rs l) _ _ (runs_at (hS261.ok 0 _ rfl)) (by have := wo_len rs l; omega) (wo_segs hth.segs))) rfl rfl (by decide) ?_
  rintro a262 v267 w264 ⟨lv268, hT265⟩ hA263; have hS266 := hS261.callS hT265 rfl; clear hT265 hA253 hS261 a252
  refine stw hA263 (op_call rfl en_18 (ev2 (hA263.ev rfl) (hA263.ev rfl)) (rates_ok R (woF rs l) lv268 u247 v267 _ (SlAt.of_row (hS266.ok_row 2 rfl)) (runs_at (hS266.ok 0 _ rfl)) (by omega) (by omega) hn)) rfl rfl (by decide) ?_
  rintro a269 _ w271 ⟨u274, rfl, hT272⟩ hA270
  have hS273 : Sep NoB w w271 [(row u274 42 2 R.length (pairs (ratesF R (woF rs l)))), (runsR true v267 lv268 (woF rs l)), (runsR false v258 (woV lv rs.length l) (woF rs l)), (row u247 42 2 R.length (pairs R)), (row u224 42 2 R.length (pairs (ratesF R (woF rs (doubtF R rs))))), (runsR true v217 lv218 (woF rs (doubtF R rs))), (runsR false v208 (woV lv rs.length (doubtF R rs)) (woF rs (doubtF R rs))), (row u197 42 2 R.length (pairs R)), (runsR true v168 lv169 rs), (row u160 42 2 R.length (pairs R)), (row u53 3 1 ((doubtF R rs).length) (ints (doubtF R rs))), (runsR true v46 lv47 rs), (row u38 42 2 R.length (pairs R)), (blk b4 24 [vr]), (sl xl 1 l.length (ints l)), (sl vr 2 R.length (pairs R)), (runsR false vu lv rs)] := hS266.callS hT272 rfl; clear hT272 hA263 hS266 a262
  refine st hA270 (op_move rfl (hA270.ev rfl)) rfl rfl (by decide) fun a275 hA276 => ?_; clear hA270 a269
  refine st hA276 (op_extract rfl (hA276.ev rfl) rfl) rfl rfl (by decide) fun a277 hA278 => ?_; clear hA276 a275
  refine st hA278 (op_extract rfl (hA278.ev rfl) rfl) rfl rfl (by decide) fun a279 hA280 => ?_; clear hA278 a277
  refine st hA280 (op_extract rfl (hA280.ev rfl) rfl) rfl rfl (by decide) fun a281 hA282 => ?_; clear hA280 a279
  refine st hA282 (op_assign rfl (hA282.ev rfl)) rfl rfl (by decide) fun a283 hA284 => ?_; clear hA282 a281
  refine st hA284 (op_assign rfl (hA284.ev rfl)) rfl rfl (by decide) fun a285 hA286 => ?_; clear hA284 a283
  refine st hA286 (op_assign rfl (hA286.ev rfl)) rfl rfl (by decide) fun a287 hA288 => ?_; clear hA286 a285
  refine wl_nil ?_
  refine then_n ?_
  refine c_seq ?_
  have hA289 := hA288.as [(18, (Value.int .i64 0)), (15, (Value.int .i64 0)), (12, (Value.int .i64 (possF R rs))), (7, u53), (1, vu), (2, xl)] rfl; clear hA288
  refine c_region ?_
  refine st hA289 (op_move rfl (hA289.ev rfl)) rfl rfl (by decide) fun a290 hA291 => ?_; clear hA289 a287
  refine st hA291 (op_lenS rfl un_25 (hA291.ev rfl) (runs_at (hS273.ok 16 _ rfl)).runs) rfl rfl (by decide) fun a292 hA293 => ?_; clear hA291 a290
  refine st hA293 (op_move rfl (hA293.ev rfl)) rfl rfl (by decide) fun a294 hA295 => ?_; clear hA293 a292
  refine st hA295 (op_move rfl (hA295.ev rfl)) rfl rfl (by decide) fun a296 hA297 => ?_; clear hA295 a294
  refine stw hA297 (op_call rfl en_46 (ev2 (hA297.ev rfl) (hA297.ev rfl)) (Without_ok _ rs _ _ (runs_at (hS273.ok 16 _ rfl)) l _ (hS273.sk 14 rfl) (by omega) (by omega))) rfl rfl (by decide) ?_
  rintro a298 v304 w300 ⟨hE301, hO302⟩ hA299; have hS303 := hS273.new_row hE301 hO302; clear hE301 hO302 hA297 hS273 a296
  have hS305 : Sep NoB w w300 (segsR false (woV lv rs.length l) (woF rs l) :: [(row v304 54 3 ((woF rs l).length) (vtrips (runV (woV lv rs.length l) (woF rs l)))), (row u274 42 2 R.length (pairs (ratesF R (woF rs l)))), (runsR true v267 lv268 (woF rs l)), (runsR false v258 (woV lv rs.length l) (woF rs l)), (row u247 42 2 R.length (pairs R)), (row u224 42 2 R.length (pairs (ratesF R (woF rs (doubtF R rs))))), (runsR true v217 lv218 (woF rs (doubtF R rs))), (runsR false v208 (woV lv rs.length (doubtF R rs)) (woF rs (doubtF R rs))), (row u197 42 2 R.length (pairs R)), (runsR true v168 lv169 rs), (row u160 42 2 R.length (pairs R)), (row u53 3 1 ((doubtF R rs).length) (ints (doubtF R rs))), (runsR true v46 lv47 rs), (row u38 42 2 R.length (pairs R)), (blk b4 24 [vr]), (sl xl 1 l.length (ints l)), (sl vr 2 R.length (pairs R)), (runsR false vu lv rs)]) := hS303.segs_sel (woSel l rs.length) (i := 17) rfl (fun _ h => woSel_lt h); clear hS303
  have hS306 : Sep NoB w w300 [(row v304 54 3 ((woF rs l).length) (vtrips (runV (woV lv rs.length l) (woF rs l)))), (segsR false (woV lv rs.length l) (woF rs l)), (row u274 42 2 R.length (pairs (ratesF R (woF rs l)))), (runsR true v267 lv268 (woF rs l)), (runsR false v258 (woV lv rs.length l) (woF rs l)), (row u247 42 2 R.length (pairs R)), (row u224 42 2 R.length (pairs (ratesF R (woF rs (doubtF R rs))))), (runsR true v217 lv218 (woF rs (doubtF R rs))), (runsR false v208 (woV lv rs.length (doubtF R rs)) (woF rs (doubtF R rs))), (row u197 42 2 R.length (pairs R)), (runsR true v168 lv169 rs), (row u160 42 2 R.length (pairs R)), (row u53 3 1 ((doubtF R rs).length) (ints (doubtF R rs))), (runsR true v46 lv47 rs), (row u38 42 2 R.length (pairs R)), (blk b4 24 [vr]), (sl xl 1 l.length (ints l)), (sl vr 2 R.length (pairs R)), (runsR false vu lv rs)] := hS305.keep [1, 0, 2, 3, 4, 5, 6, 7, 8, 9, 10, 11, 12, 13, 14, 15, 16, 17, 18] (by decide) _ rfl rfl; clear hS305
  have hS307 := hS306.runs_ro rfl; clear hS306
  refine st hA299 (op_lenS rfl un_25 (hA299.ev rfl) (runs_at (hS307.ok 0 _ rfl)).runs) rfl rfl (by decide) fun a308 hA309 => ?_; clear hA299 a298
  refine st hA309 (op_sub rfl (hA309.ev rfl) (hA309.ev rfl) (by omega) (by omega)) rfl rfl (by decide) fun a310 hA311 => ?_; clear hA309 a308
  refine st hA311 (op_assign rfl (hA311.ev rfl)) rfl rfl (by decide) fun a312 hA313 => ?_; clear hA311 a310
  refine wl_nil ?_
  refine then_n ?_
  refine c_seq ?_
  have hA314 := hA313.as [(19, (Value.int .i64 ((rs.length : Int) - ((woF rs l).length : Int)))), (18, (Value.int .i64 0)), (15, (Value.int .i64 0)), (12, (Value.int .i64 (possF R rs))), (7, u53)] rfl; clear hA313
  refine c_region ?_
  refine st hA314 (op_move rfl (hA314.ev rfl)) rfl rfl (by decide) fun a315 hA316 => ?_; clear hA314 a312
  refine st hA316 (op_eql rfl (hA316.ev rfl) (evc _ _)) rfl rfl (by decide) fun a317 hA318 => ?_; clear hA316 a315
  have hd319 : ¬ ((possF R rs) = 0) := (by omega)
  rw [decide_eq_false hd319] at hA318
  refine st hA318 (op_move rfl (hA318.ev rfl)) rfl rfl (by decide) fun a320 hA321 => ?_; clear hA318 a317
  refine st hA321 (op_lenS rfl un_40 (hA321.ev rfl) (SlAt.of_row (hS307.ok_row 11 rfl))) rfl rfl (by decide) fun a322 hA323 => ?_; clear hA321 a320
  refine st hA323 (op_eql rfl (hA323.ev rfl) (evc _ _)) rfl rfl (by decide) fun a324 hA325 => ?_; clear hA323 a322
  have hd326 : ¬ (((doubtF R rs).length : Int) = 0) := (by omega)
  rw [decide_eq_false hd326] at hA325
  refine st hA325 (op_eqlB un_4 rfl (hA325.ev rfl) (hA325.ev rfl)) rfl rfl (by decide) fun a327 hA328 => ?_; clear hA325 a324
  refine st hA328 (op_move rfl (hA328.ev rfl)) rfl rfl (by decide) fun a329 hA330 => ?_; clear hA328 a327
  refine stg hA330 (op_move rfl (hA330.ev rfl)) rfl rfl rfl rfl (by decide) fun a331 hA332 => ?_; clear hA330 a329
  refine stg hA332 (op_eql rfl (hA332.ev rfl) (evc _ _)) rfl rfl rfl rfl (by decide) fun a333 hA334 => ?_; clear hA332 a331
  refine st hA334 (op_pick_t rfl (hA334.ev rfl) (hA334.ev rfl)) rfl rfl (by decide) fun a335 hA336 => ?_; clear hA334 a333
  refine st hA336 (op_move rfl (hA336.ev rfl)) rfl rfl (by decide) fun a337 hA338 => ?_; clear hA336 a335
  refine stg hA338 (op_move rfl (hA338.ev rfl)) rfl rfl rfl rfl (by decide) fun a339 hA340 => ?_; clear hA338 a337
  refine stg hA340 (op_eql rfl (hA340.ev rfl) (evc _ _)) rfl rfl rfl rfl (by decide) fun a341 hA342 => ?_; clear hA340 a339
  refine stg hA342 (op_move rfl (hA342.ev rfl)) rfl rfl rfl rfl (by decide) fun a343 hA344 => ?_; clear hA342 a341
  refine stg hA344 (op_move rfl (hA344.ev rfl)) rfl rfl rfl rfl (by decide) fun a345 hA346 => ?_; clear hA344 a343
  refine stg hA346 (op_eql rfl (hA346.ev rfl) (evc _ _)) rfl rfl rfl rfl (by decide) fun a347 hA348 => ?_; clear hA346 a345
  refine stg hA348 (op_move rfl (hA348.ev rfl)) rfl rfl rfl rfl (by decide) fun a349 hA350 => ?_; clear hA348 a347
  refine stg hA350 (op_move rfl (hA350.ev rfl)) rfl rfl rfl rfl (by decide) fun a351 hA352 => ?_; clear hA350 a349
  refine stg hA352 (op_move rfl (hA352.ev rfl)) rfl rfl rfl rfl (by decide) fun a353 hA354 => ?_; clear hA352 a351
  refine stg hA354 (op_lenS rfl un_40 (hA354.ev rfl) (SlAt.of_row (hS307.ok_row 11 rfl))) rfl rfl rfl rfl (by decide) fun a355 hA356 => ?_; clear hA354 a353
  refine stg hA356 (op_geq rfl (hA356.ev rfl) (hA356.ev rfl)) rfl rfl rfl rfl (by decide) fun a357 hA358 => ?_; clear hA356 a355
  have hd359 : ((doubtF R rs).length : Int) ≤ ((rs.length : Int) - ((woF rs l).length : Int)) := (by omega)
  rw [decide_eq_true hd359] at hA358
  refine stg hA358 (op_pick_t rfl (hA358.ev rfl) (hA358.ev rfl)) rfl rfl rfl rfl (by decide) fun a360 hA361 => ?_; clear hA358 a357
  refine stg hA361 (op_pick_f rfl (hA361.ev rfl) (hA361.ev rfl)) rfl rfl rfl rfl (by decide) fun a362 hA363 => ?_; clear hA361 a360
  refine st hA363 (op_pick_t rfl (hA363.ev rfl) (hA363.ev rfl)) rfl rfl (by decide) fun a364 hA365 => ?_; clear hA363 a362
  refine st hA365 (op_move rfl (hA365.ev rfl)) rfl rfl (by decide) fun a366 hA367 => ?_; clear hA365 a364
  refine stwg hA367 (op_call rfl en_17 ev0 (awake_ok _)) rfl rfl rfl rfl (by decide) ?_
  rintro a368 _ w370 ⟨rfl, hE371⟩ hA369; have hS372 := hS307.step hE371; clear hE371 hA367 hS307 a366
  refine st hA369 (op_pick_t rfl (hA369.ev rfl) (hA369.ev rfl)) rfl rfl (by decide) fun a373 hA374 => ?_; clear hA369 a368
  refine st hA374 (op_assign rfl (hA374.ev rfl)) rfl rfl (by decide) fun a375 hA376 => ?_; clear hA374 a373
  refine wl_nil ?_
  refine then_n ?_
  refine c_ret ?_
  refine fin_run hA376 (.inl rfl) (run_results1 hA376 rfl (.tmp rfl)) ?_
  exact ⟨rfl, hS372.ext⟩
set_option maxHeartbeats 4000000 in
theorem CreepDoubtful_d (w : World) (R : List (Int × Int)) (vr : Value) (hm : SlAt w vr 2 R.length (pairs R)) (rs : List RunD) (lv : List Value) (vu : Value) (hx : RunsAt w vu lv rs) (l : List Int) (xl : Value) (hxl : SlAt w xl 1 l.length (ints l)) (hf : readyB R rs [] = true) (hl : l.length ≤ 9) (hc : possF R rs = 0) (hn : possF R (woF rs l) = 9) :
  Calls Try.prog 13 #[(Value.agg #[vr]), vu, xl] w (Ret fun v w' => v = .bool true ∧ Ext NoB w w') := by
 refine calls_enter Try.func13 rfl fun a0 hA0 => ?_
 replace hA0 : Fr 143 [] [(0, (Value.agg #[vr])), (1, vu), (2, xl)] a0 := hA0
 have hrd := ready_is hf; have hth := hrd.1; have he := hrd.2.1; have h6 := hth.mat; have h9 := hth.runs; have h12 := hth.plan; have hp8 := hrd.2.2.1; have hsb := hrd.2.2.2; have hcm := check_mat (enter_mat he); have hR := hcm.1; have hR1 := hcm.2.1; have hR3 := hR.1; have hV := enter_runs he; have hrt := ratesF_len R rs; have hle := allowed_le (rs := rs) hR; have hdb := doubt_bd he; have hg := doubt_pos he; have hdz := doubt_zero he; have hwl1 := wo_len rs l; have hwl2 := wo_len rs (doubtF R rs); have hrw1 := ratesF_len R (woF rs l); have hrw2 := ratesF_len R (woF rs (doubtF R rs)); have hew := wo_enter (l := l) he; have hd0 : (doubtF R rs).length = 0 := hdz.1 hc
 have hS0 : Sep NoB w w [(sl xl 1 l.length (ints l)), (sl vr 2 R.length (pairs R)), (runsR false vu lv rs)] := sep_ro ⟨rfl, hxl, rfl, hm, rfl, hx, trivial⟩
 refine c_seq ?_
 refine c_region ?_
 refine stw hA0 (op_box hS0 rfl (hA0.ev rfl) (cs := [vr]) rfl) rfl rfl (by decide) ?_
 rintro a1 _ w3 ⟨b4, rfl, hS5⟩ hA2; clear hA0 hS0 a0
 refine st hA2 (op_assign rfl (evc _ _)) rfl rfl (by decide) fun a6 hA7 => ?_; clear hA2 a1
 refine wl_nil ?_
 refine then_n ?_
 refine c_seq ?_
 refine c_seq ?_
 refine c_region ?_
 refine st hA7 (op_loadA rfl ty_24 (hA7.ev rfl) (hS5.bk 0 rfl) (l := [vr]) rfl rfl) rfl rfl (by decide) fun a8 hA9 => ?_; clear hA7 a6
 refine st hA9 (op_move rfl (hA9.ev rfl)) rfl rfl (by decide) fun a10 hA11 => ?_; clear hA9 a8
 refine stw hA11 (op_call rfl en_27 (ev3 (hA11.ev rfl) (hA11.ev rfl) (evc _ _)) (ready_ok _ R _ (hS5.sk 2 rfl) rs _ _ (runs_at (hS5.ok 3 _ rfl)) ([]) _ (slAt_nil _ 3))) rfl rfl (by decide) ?_
 rintro a12 _ w14 ⟨rfl, hE15⟩ hA13; have hS16 := hS5.step hE15; clear hE15 hA11 hS5 a10
 rw [hf] at hA13
 refine st hA13 (op_not rfl (hA13.ev rfl)) rfl rfl (by decide) fun a17 hA18 => ?_; clear hA13 a12
 refine st hA18 (op_move rfl (hA18.ev rfl)) rfl rfl (by decide) fun a19 hA20 => ?_; clear hA18 a17
 refine stg hA20 (op_move rfl (hA20.ev rfl)) rfl rfl rfl rfl (by decide) fun a21 hA22 => ?_; clear hA20 a19
 refine stg hA22 (op_lenS rfl un_40 (hA22.ev rfl) (hS16.sk 1 rfl)) rfl rfl rfl rfl (by decide) fun a23 hA24 => ?_; clear hA22 a21
 refine stg hA24 (op_gtr rfl (hA24.ev rfl) (evc _ _)) rfl rfl rfl rfl (by decide) fun a25 hA26 => ?_; clear hA24 a23
 have hd27 : ¬ (9 < (l.length : Int)) := (by omega)
 rw [decide_eq_false hd27] at hA26
 refine st hA26 (op_pick_f rfl (hA26.ev rfl) (hA26.ev rfl)) rfl rfl (by decide) fun a28 hA29 => ?_; clear hA26 a25
 refine wl_nil ?_
 refine then_n ?_
 refine c_false hA29 rfl ?_
 refine c_skip ?_
 refine then_n ?_
 refine c_seq ?_
 have hA30 := hA29.as [(3, (bptr b4 0)), (1, vu), (2, xl)] rfl; clear hA29
 refine c_region ?_
 refine st hA30 (op_loadA rfl ty_24 (hA30.ev rfl) (hS16.bk 0 rfl) (l := [vr]) rfl rfl) rfl rfl (by decide) fun a31 hA32 => ?_; clear hA30 a28
 refine stw hA32 (op_call rfl en_19 (ev1 (hA32.ev rfl)) (Material_ok _ R _ (hS16.sk 2 rfl) hth.mat)) rfl rfl (by decide) ?_
 rintro a33 _ w35 ⟨u38, rfl, hT36⟩ hA34; have hS37 := hS16.callS hT36 rfl; clear hT36 hA32 hS16 a31
 refine st hA34 (op_move rfl (hA34.ev rfl)) rfl rfl (by decide) fun a39 hA40 => ?_; clear hA34 a33
 refine stw hA40 (op_call rfl en_20 (ev1 (hA40.ev rfl)) (Runs_ok _ rs _ _ (runs_at (hS37.ok 4 _ rfl)) h9 hth.segs)) rfl rfl (by decide) ?_
 rintro a41 v46 w43 ⟨lv47, hT44⟩ hA42; have hS45 := hS37.callS hT44 rfl; clear hT44 hA40 hS37 a39
 refine stw hA42 (op_call rfl en_43 (ev2 (hA42.ev rfl) (hA42.ev rfl)) (doubt_ok R rs lv47 u38 v46 _ (SlAt.of_row (hS45.ok_row 1 rfl)) (runs_at (hS45.ok 0 _ rfl)) (by omega) (by omega) he)) rfl rfl (by decide) ?_
 rintro a48 _ w50 ⟨u53, rfl, hT51⟩ hA49; have hS52 := hS45.callS hT51 rfl; clear hT51 hA42 hS45 a41
 refine st hA49 (op_move rfl (hA49.ev rfl)) rfl rfl (by decide) fun a54 hA55 => ?_; clear hA49 a48
 refine st hA55 (op_extract rfl (hA55.ev rfl) rfl) rfl rfl (by decide) fun a56 hA57 => ?_; clear hA55 a54
 refine st hA57 (op_extract rfl (hA57.ev rfl) rfl) rfl rfl (by decide) fun a58 hA59 => ?_; clear hA57 a56
 refine st hA59 (op_assign rfl (hA59.ev rfl)) rfl rfl (by decide) fun a60 hA61 => ?_; clear hA59 a58
 refine st hA61 (op_assign rfl (hA61.ev rfl)) rfl rfl (by decide) fun a62 hA63 => ?_; clear hA61 a60
 refine wl_nil ?_
 refine then_n ?_
 refine c_seq ?_
 refine c_seq ?_
 have hA64 := hA63.as [(8, (Value.int .i64 0)), (7, u53), (3, (bptr b4 0)), (1, vu), (2, xl)] rfl; clear hA63
 refine c_region ?_
 refine st hA64 (op_move rfl (hA64.ev rfl)) rfl rfl (by decide) fun a65 hA66 => ?_; clear hA64 a62
 refine st hA66 (op_neq rfl (hA66.ev rfl) (evc _ _)) rfl rfl (by decide) fun a67 hA68 => ?_; clear hA66 a65
 refine st hA68 (op_move rfl (hA68.ev rfl)) rfl rfl (by decide) fun a69 hA70 => ?_; clear hA68 a67
 refine stg hA70 (op_move rfl (hA70.ev rfl)) rfl rfl rfl rfl (by decide) fun a71 hA72 => ?_; clear hA70 a69
 refine stg hA72 (op_lenS rfl un_40 (hA72.ev rfl) (SlAt.of_row (hS52.ok_row 0 rfl))) rfl rfl rfl rfl (by decide) fun a73 hA74 => ?_; clear hA72 a71
 refine stg hA74 (op_move rfl (hA74.ev rfl)) rfl rfl rfl rfl (by decide) fun a75 hA76 => ?_; clear hA74 a73
 refine stg hA76 (op_lenS rfl un_25 (hA76.ev rfl) (runs_at (hS52.ok 6 _ rfl)).runs) rfl rfl rfl rfl (by decide) fun a77 hA78 => ?_; clear hA76 a75
 refine stg hA78 (op_gtr rfl (hA78.ev rfl) (hA78.ev rfl)) rfl rfl rfl rfl (by decide) fun a79 hA80 => ?_; clear hA78 a77
 have hd81 : ¬ ((rs.length : Int) < ((doubtF R rs).length : Int)) := (by omega)
 rw [decide_eq_false hd81] at hA80
 refine st hA80 (op_pick_f rfl (hA80.ev rfl) (hA80.ev rfl)) rfl rfl (by decide) fun a82 hA83 => ?_; clear hA80 a79
 refine wl_nil ?_
 refine then_n ?_
 refine c_false hA83 rfl ?_
 refine c_skip ?_
 refine then_n ?_
 refine c_seq ?_
 refine c_seq ?_
 have hA84 := hA83.as [(7, u53), (3, (bptr b4 0)), (1, vu), (2, xl)] rfl; clear hA83
 refine c_region ?_
 refine st hA84 (op_assign rfl (evc _ _)) rfl rfl (by decide) fun a85 hA86 => ?_; clear hA84 a82
 refine wl_nil ?_
 refine then_n ?_
 refine c_block ?_
 have hA87 := hA86.as [(9, (Value.int .i64 0)), (7, u53), (3, (bptr b4 0)), (1, vu), (2, xl)] rfl; clear hA86
 refine c_loop (G := Nat) (fun (k : Nat) a_ w_ => Fr 143 [] [(9, (Value.int .i64 (k : Int))), (7, u53), (3, (bptr b4 0)), (1, vu), (2, xl)] a_ ∧ Sep NoB w w_ [(row u53 3 1 ((doubtF R rs).length) (ints (doubtF R rs))), (runsR true v46 lv47 rs), (row u38 42 2 R.length (pairs R)), (blk b4 24 [vr]), (sl xl 1 l.length (ints l)), (sl vr 2 R.length (pairs R)), (runsR false vu lv rs)] ∧ (k ≤ (doubtF R rs).length)) (fun k => (doubtF R rs).length - k) 0 ⟨hA87.as _ rfl, hS52, by omega⟩ ?_
 clear hA87 hS52 a85
 rintro k a88 w90 ⟨hA89, hS91, hk⟩
 refine c_seq ?_
 refine c_seq ?_
 refine c_region ?_
 refine st hA89 (op_move rfl (hA89.ev rfl)) rfl rfl (by decide) fun a92 hA93 => ?_; clear hA89 a88
 refine st hA93 (op_move rfl (hA93.ev rfl)) rfl rfl (by decide) fun a94 hA95 => ?_; clear hA93 a92
 refine st hA95 (op_lenS rfl un_40 (hA95.ev rfl) (SlAt.of_row (hS91.ok_row 0 rfl))) rfl rfl (by decide) fun a96 hA97 => ?_; clear hA95 a94
 refine st hA97 (op_lss rfl (hA97.ev rfl) (hA97.ev rfl)) rfl rfl (by decide) fun a98 hA99 => ?_; clear hA97 a96
 refine wl_nil ?_
 refine then_n ?_
 by_cases hb100 : (k : Int) < ((doubtF R rs).length : Int)
 ·skip
  rw [decide_eq_true hb100] at hA99
  have hbk := hdb.2.1 k (by omega)
  refine c_true hA99 rfl ?_
  refine c_skip ?_
  refine then_n ?_
  refine c_seq ?_
  refine c_block ?_
  refine c_seq ?_
  have hA101 := hA99.as [(9, (Value.int .i64 (k : Int))), (7, u53), (3, (bptr b4 0)), (1, vu), (2, xl)] rfl; clear hA99
  by_cases hb103 : 0 < (k : Int)
  ·skip
   have hA104 := hA101.as [(9, (Value.int .i64 (k : Int))), (7, u53), (3, (bptr b4 0)), (1, vu), (2, xl)] rfl; clear hA101
   refine c_drawn mixed hA104 hS91 22 [[], [], [0, 1], [2], [], [4], [5], [3, 6], [7], [8], [9], [9, 10], [9, 11], [12], [12], [12, 13, 14], [12, 15], [12], [12], [12, 18], [12, 17, 19], [12, 20]] [(Yd.val u53), (Yd.val (Value.int .i64 (k : Int))), (Yd.val (eptr u53 (k * 1))), (Yd.val (Value.int .i64 ((doubtF R rs).getD k 0))), (Yd.val vu), (Yd.val (Value.int .i64 (rs.length : Int))), (Yd.val (Value.int .i64 ((rs.length : Int) - 1))), (Yd.val (Value.bool true)), (Yd.val (Value.bool (!true))), (Yd.val (Value.bool (!true))), (Yd.val (Value.int .i64 (k : Int))), (Yd.val (Value.bool true)), (Yd.val (Value.bool true)), (Yd.val u53), (Yd.val (Value.int .i64 (k : Int))), (Yd.val (eptr u53 (k * 1))), (Yd.val (Value.int .i64 ((doubtF R rs).getD k 0))), (Yd.val u53), (Yd.val (Value.int .i64 (k : Int))), (Yd.val (Value.int .i64 ((k : Int) - 1))), (Yd.val (eptr u53 (((k : Int) - 1).toNat * 1))), (Yd.val (Value.int .i64 ((doubtF R rs).getD (((k : Int) - 1).toNat) 0)))] (by decide +kernel) rfl rfl ?_ ?_
   ·skip
    refine ⟨fun a w hA hS hd => by exact opG_of rfl (dv (op_move rfl (hA.ev rfl)) hS rfl), ?_⟩
    refine ⟨fun a w hA hS hd => by exact opG_of rfl (dv (op_move rfl (hA.ev rfl)) hS rfl), ?_⟩
    refine ⟨fun a w hA hS hd => by have e0 := has_ev (hd 0 (by decide)) rfl (fun _ h => h); have e1 := has_ev (hd 1 (by decide)) rfl (fun _ h => h); exact opG_of rfl (dv (op_indexS rfl un_40 ty_3 (tmp_ev e0) (i := k) (tmp_ev e1) (SlAt.of_row (hS.ok_row 0 rfl)) (by decide) (by omega)) hS rfl), ?_⟩
    refine ⟨fun a w hA hS hd => by have e2 := has_ev (hd 2 (by decide)) rfl (fun _ h => h); exact opG_of rfl (dv (op_load1E rfl ty_3 (tmp_ev e2) (SlAt.of_row (hS.ok_row 0 rfl)) (ints_at (by omega))) hS rfl), ?_⟩
    refine ⟨fun a w hA hS hd => by exact opG_of rfl (dv (op_move rfl (hA.ev rfl)) hS rfl), ?_⟩
    refine ⟨fun a w hA hS hd => by have e4 := has_ev (hd 4 (by decide)) rfl (fun _ h => h); exact opG_of rfl (dv (op_lenS rfl un_25 (tmp_ev e4) (runs_at (hS.ok 6 _ rfl)).runs) hS rfl), ?_⟩
    refine ⟨fun a w hA hS hd => by have e5 := has_ev (hd 5 (by decide)) rfl (fun _ h => h); exact opG_of rfl (dv (op_sub rfl (tmp_ev e5) (evc _ _) (by omega) (by omega)) hS rfl), ?_⟩
    refine ⟨fun a w hA hS hd => by have e3 := has_ev (hd 3 (by decide)) rfl (fun _ h => h); have e6 := has_ev (hd 6 (by decide)) rfl (fun _ h => h); exact opG_of rfl (dv (op_call rfl en_24 (ev3 (tmp_ev e3) (evc _ _) (tmp_ev e6)) (In_ok _ _ _ _)) hS (by show Value.bool _ = _; simp only [(show (decide (0 ≤ ((doubtF R rs).getD k 0)) && decide (((doubtF R rs).getD k 0) ≤ ((rs.length : Int) - 1))) = true from (by simp only [Bool.and_eq_true, decide_eq_true_eq]; omega)), decide_true, decide_false, Bool.not_true, Bool.not_false])), ?_⟩
    refine ⟨fun a w hA hS hd => by have e7 := has_ev (hd 7 (by decide)) rfl (fun _ h => h); exact opG_of rfl (dv (op_not rfl (tmp_ev e7)) hS rfl), ?_⟩
    refine ⟨fun a w hA hS hd => by have e8 := has_ev (hd 8 (by decide)) rfl (fun _ h => h); exact opG_of rfl (dv (op_move rfl (tmp_ev e8)) hS rfl), ?_⟩
    refine ⟨fun a w hA hS hd => by have e9 := has_ev (hd 9 (by decide)) rfl (fun _ h => h); exact opG_yes rfl rfl e9 (dv (op_move rfl (hA.ev rfl)) hS rfl), ?_⟩
    refine ⟨fun a w hA hS hd => by have e9 := has_ev (hd 9 (by decide)) rfl (fun _ h => h); have e10 := has_ev (hd 10 (by decide)) rfl (fun _ h => h); exact opG_yes rfl rfl e9 (dv (op_gtr rfl (tmp_ev e10) (evc _ _)) hS (by show Value.bool _ = _; simp only [decide_eq_true hb103, decide_true, decide_false, Bool.not_true, Bool.not_false])), ?_⟩
    refine ⟨fun a w hA hS hd => by have e9 := has_ev (hd 9 (by decide)) rfl (fun _ h => h); have e11 := has_ev (hd 11 (by decide)) rfl (fun _ h => h); exact opG_yes rfl rfl e9 (dv (op_move rfl (tmp_ev e11)) hS rfl), ?_⟩
    refine ⟨fun a w hA hS hd => by have e12 := has_ev (hd 12 (by decide)) rfl (fun _ h => h); exact opG_yes rfl rfl e12 (dv (op_move rfl (hA.ev rfl)) hS rfl), ?_⟩
    refine ⟨fun a w hA hS hd => by have e12 := has_ev (hd 12 (by decide)) rfl (fun _ h => h); exact opG_yes rfl rfl e12 (dv (op_move rfl (hA.ev rfl)) hS rfl), ?_⟩
    refine ⟨fun a w hA hS hd => by have e12 := has_ev (hd 12 (by decide)) rfl (fun _ h => h); have e13 := has_ev (hd 13 (by decide)) rfl (fun _ h => h); have e14 := has_ev (hd 14 (by decide)) rfl (fun _ h => h); exact opG_yes rfl rfl e12 (dv (op_indexS rfl un_40 ty_3 (tmp_ev e13) (i := k) (tmp_ev e14) (SlAt.of_row (hS.ok_row 0 rfl)) (by decide) (by omega)) hS rfl), ?_⟩
    refine ⟨fun a w hA hS hd => by have e12 := has_ev (hd 12 (by decide)) rfl (fun _ h => h); have e15 := has_ev (hd 15 (by decide)) rfl (fun _ h => h); exact opG_yes rfl rfl e12 (dv (op_load1E rfl ty_3 (tmp_ev e15) (SlAt.of_row (hS.ok_row 0 rfl)) (ints_at (by omega))) hS rfl), ?_⟩
    refine ⟨fun a w hA hS hd => by have e12 := has_ev (hd 12 (by decide)) rfl (fun _ h => h); exact opG_yes rfl rfl e12 (dv (op_move rfl (hA.ev rfl)) hS rfl), ?_⟩
    refine ⟨fun a w hA hS hd => by have e12 := has_ev (hd 12 (by decide)) rfl (fun _ h => h); exact opG_yes rfl rfl e12 (dv (op_move rfl (hA.ev rfl)) hS rfl), ?_⟩
    refine ⟨fun a w hA hS hd => by have e12 := has_ev (hd 12 (by decide)) rfl (fun _ h => h); have e18 := has_ev (hd 18 (by decide)) rfl (fun _ h => h); exact opG_yes rfl rfl e12 (dv (op_sub rfl (tmp_ev e18) (evc _ _) (by omega) (by omega)) hS rfl), ?_⟩
    refine ⟨fun a w hA hS hd => by have e12 := has_ev (hd 12 (by decide)) rfl (fun _ h => h); have e17 := has_ev (hd 17 (by decide)) rfl (fun _ h => h); have e19 := has_ev (hd 19 (by decide)) rfl (fun _ h => h); exact opG_yes rfl rfl e12 (dv (op_indexS rfl un_40 ty_3 (tmp_ev e17) (i := ((k : Int) - 1).toNat) ((tmp_ev e19).trans (int_nat (by omega))) (SlAt.of_row (hS.ok_row 0 rfl)) (by decide) (by omega)) hS rfl), ?_⟩
    refine ⟨fun a w hA hS hd => by have e12 := has_ev (hd 12 (by decide)) rfl (fun _ h => h); have e20 := has_ev (hd 20 (by decide)) rfl (fun _ h => h); exact opG_yes rfl rfl e12 (dv (op_load1E rfl ty_3 (tmp_ev e20) (SlAt.of_row (hS.ok_row 0 rfl)) (ints_at (by omega))) hS rfl), ?_⟩
    trivial
   intro a106 w107 hA108 hS109 hH110; clear hA104 hS91
   have hA111 := hA108.add (has_ev (hH110 9 (by decide)) rfl (fun _ h => h)); clear hA108
   have hA112 := hA111.add (has_ev (hH110 12 (by decide)) rfl (fun _ h => h)); clear hA111
   have hA113 := hA112.add (has_ev (hH110 16 (by decide)) rfl (fun _ h => h)); clear hA112
   have hA114 := hA113.add (has_ev (hH110 21 (by decide)) rfl (fun _ h => h)); clear hA113
   clear hH110
   refine stg hA114 (op_leq rfl (hA114.ev rfl) (hA114.ev rfl)) rfl rfl rfl rfl (by decide) fun a115 hA116 => ?_; clear hA114 a106
   have hd117 : ¬ (((doubtF R rs).getD k 0) ≤ ((doubtF R rs).getD (((k : Int) - 1).toNat) 0)) := (by have hz_ := hdb.2.2 k (by omega) (by omega); rw [toNat_pred]; omega)
   rw [decide_eq_false hd117] at hA116
   refine stg hA116 (op_pick_t rfl (hA116.ev rfl) (hA116.ev rfl)) rfl rfl rfl rfl (by decide) fun a118 hA119 => ?_; clear hA116 a115
   refine st hA119 (op_pick_f rfl (hA119.ev rfl) (hA119.ev rfl)) rfl rfl (by decide) fun a120 hA121 => ?_; clear hA119 a118
   refine wl_nil ?_
   refine then_n ?_
   refine c_false hA121 rfl ?_
   refine c_skip ?_
   refine blk_n ?_
   refine then_n ?_
   have hA122 := hA121.as [(9, (Value.int .i64 (k : Int))), (7, u53), (3, (bptr b4 0)), (1, vu), (2, xl)] rfl; clear hA121
   refine c_region ?_
   refine st hA122 (op_move rfl (hA122.ev rfl)) rfl rfl (by decide) fun a123 hA124 => ?_; clear hA122 a120
   refine st hA124 (op_add rfl (hA124.ev rfl) (evc _ _) (by omega) (by omega)) rfl rfl (by decide) fun a125 hA126 => ?_; clear hA124 a123
   refine st hA126 (op_assign rfl (hA126.ev rfl)) rfl rfl (by decide) fun a127 hA128 => ?_; clear hA126 a125
   refine wl_nil ?_
   exact then_n ⟨k + 1, ⟨hA128.as _ rfl, hS109, by omega⟩, by omega⟩
  ·skip
   have hA129 := hA101.as [(9, (Value.int .i64 (k : Int))), (7, u53), (3, (bptr b4 0)), (1, vu), (2, xl)] rfl; clear hA101
   refine c_drawn mixed hA129 hS91 22 [[], [], [0, 1], [2], [], [4], [5], [3, 6], [7], [8], [9], [9, 10], [9, 11], [12], [12], [12, 13, 14], [12, 15], [12], [12], [12, 18], [12, 17, 19], [12, 20]] [(Yd.val u53), (Yd.val (Value.int .i64 (k : Int))), (Yd.val (eptr u53 (k * 1))), (Yd.val (Value.int .i64 ((doubtF R rs).getD k 0))), (Yd.val vu), (Yd.val (Value.int .i64 (rs.length : Int))), (Yd.val (Value.int .i64 ((rs.length : Int) - 1))), (Yd.val (Value.bool true)), (Yd.val (Value.bool (!true))), (Yd.val (Value.bool (!true))), (Yd.val (Value.int .i64 (k : Int))), (Yd.val (Value.bool false)), (Yd.val (Value.bool false)), (Yd.val undef), (Yd.val undef), (Yd.val undef), (Yd.val undef), (Yd.val undef), (Yd.val undef), (Yd.val undef), (Yd.val undef), (Yd.val undef)] (by decide +kernel) rfl rfl ?_ ?_
   ·skip
    refine ⟨fun a w hA hS hd => by exact opG_of rfl (dv (op_move rfl (hA.ev rfl)) hS rfl), ?_⟩
    refine ⟨fun a w hA hS hd => by exact opG_of rfl (dv (op_move rfl (hA.ev rfl)) hS rfl), ?_⟩
    refine ⟨fun a w hA hS hd => by have e0 := has_ev (hd 0 (by decide)) rfl (fun _ h => h); have e1 := has_ev (hd 1 (by decide)) rfl (fun _ h => h); exact opG_of rfl (dv (op_indexS rfl un_40 ty_3 (tmp_ev e0) (i := k) (tmp_ev e1) (SlAt.of_row (hS.ok_row 0 rfl)) (by decide) (by omega)) hS rfl), ?_⟩
    refine ⟨fun a w hA hS hd => by have e2 := has_ev (hd 2 (by decide)) rfl (fun _ h => h); exact opG_of rfl (dv (op_load1E rfl ty_3 (tmp_ev e2) (SlAt.of_row (hS.ok_row 0 rfl)) (ints_at (by omega))) hS rfl), ?_⟩
    refine ⟨fun a w hA hS hd => by exact opG_of rfl (dv (op_move rfl (hA.ev rfl)) hS rfl), ?_⟩
    refine ⟨fun a w hA hS hd => by have e4 := has_ev (hd 4 (by decide)) rfl (fun _ h => h); exact opG_of rfl (dv (op_lenS rfl un_25 (tmp_ev e4) (runs_at (hS.ok 6 _ rfl)).runs) hS rfl), ?_⟩
    refine ⟨fun a w hA hS hd => by have e5 := has_ev (hd 5 (by decide)) rfl (fun _ h => h); exact opG_of rfl (dv (op_sub rfl (tmp_ev e5) (evc _ _) (by omega) (by omega)) hS rfl), ?_⟩
    refine ⟨fun a w hA hS hd => by have e3 := has_ev (hd 3 (by decide)) rfl (fun _ h => h); have e6 := has_ev (hd 6 (by decide)) rfl (fun _ h => h); exact opG_of rfl (dv (op_call rfl en_24 (ev3 (tmp_ev e3) (evc _ _) (tmp_ev e6)) (In_ok _ _ _ _)) hS (by show Value.bool _ = _; simp only [(show (decide (0 ≤ ((doubtF R rs).getD k 0)) && decide (((doubtF R rs).getD k 0) ≤ ((rs.length : Int) - 1))) = true from (by simp only [Bool.and_eq_true, decide_eq_true_eq]; omega)), decide_true, decide_false, Bool.not_true, Bool.not_false])), ?_⟩
    refine ⟨fun a w hA hS hd => by have e7 := has_ev (hd 7 (by decide)) rfl (fun _ h => h); exact opG_of rfl (dv (op_not rfl (tmp_ev e7)) hS rfl), ?_⟩
    refine ⟨fun a w hA hS hd => by have e8 := has_ev (hd 8 (by decide)) rfl (fun _ h => h); exact opG_of rfl (dv (op_move rfl (tmp_ev e8)) hS rfl), ?_⟩
    refine ⟨fun a w hA hS hd => by have e9 := has_ev (hd 9 (by decide)) rfl (fun _ h => h); exact opG_yes rfl rfl e9 (dv (op_move rfl (hA.ev rfl)) hS rfl), ?_⟩
    refine ⟨fun a w hA hS hd => by have e9 := has_ev (hd 9 (by decide)) rfl (fun _ h => h); have e10 := has_ev (hd 10 (by decide)) rfl (fun _ h => h); exact opG_yes rfl rfl e9 (dv (op_gtr rfl (tmp_ev e10) (evc _ _)) hS (by show Value.bool _ = _; simp only [decide_eq_false hb103, decide_true, decide_false, Bool.not_true, Bool.not_false])), ?_⟩
    refine ⟨fun a w hA hS hd => by have e9 := has_ev (hd 9 (by decide)) rfl (fun _ h => h); have e11 := has_ev (hd 11 (by decide)) rfl (fun _ h => h); exact opG_yes rfl rfl e9 (dv (op_move rfl (tmp_ev e11)) hS rfl), ?_⟩
    refine ⟨fun a w hA hS hd => by have e12 := has_ev (hd 12 (by decide)) rfl (fun _ h => h); exact opG_no rfl rfl e12 rfl (dskip hS rfl), ?_⟩
    refine ⟨fun a w hA hS hd => by have e12 := has_ev (hd 12 (by decide)) rfl (fun _ h => h); exact opG_no rfl rfl e12 rfl (dskip hS rfl), ?_⟩
    refine ⟨fun a w hA hS hd => by have e12 := has_ev (hd 12 (by decide)) rfl (fun _ h => h); have e13 := has_ev (hd 13 (by decide)) rfl (fun _ h => h); have e14 := has_ev (hd 14 (by decide)) rfl (fun _ h => h); exact opG_no rfl rfl e12 rfl (dskip hS rfl), ?_⟩
    refine ⟨fun a w hA hS hd => by have e12 := has_ev (hd 12 (by decide)) rfl (fun _ h => h); have e15 := has_ev (hd 15 (by decide)) rfl (fun _ h => h); exact opG_no rfl rfl e12 rfl (dskip hS rfl), ?_⟩
    refine ⟨fun a w hA hS hd => by have e12 := has_ev (hd 12 (by decide)) rfl (fun _ h => h); exact opG_no rfl rfl e12 rfl (dskip hS rfl), ?_⟩
    refine ⟨fun a w hA hS hd => by have e12 := has_ev (hd 12 (by decide)) rfl (fun _ h => h); exact opG_no rfl rfl e12 rfl (dskip hS rfl), ?_⟩
    refine ⟨fun a w hA hS hd => by have e12 := has_ev (hd 12 (by decide)) rfl (fun _ h => h); have e18 := has_ev (hd 18 (by decide)) rfl (fun _ h => h); exact opG_no rfl rfl e12 rfl (dskip hS rfl), ?_⟩
    refine ⟨fun a w hA hS hd => by have e12 := has_ev (hd 12 (by decide)) rfl (fun _ h => h); have e17 := has_ev (hd 17 (by decide)) rfl (fun _ h => h); have e19 := has_ev (hd 19 (by decide)) rfl (fun _ h => h); exact opG_no rfl rfl e12 rfl (dskip hS rfl), ?_⟩
    refine ⟨fun a w hA hS hd => by have e12 := has_ev (hd 12 (by decide)) rfl (fun _ h => h); have e20 := has_ev (hd 20 (by decide)) rfl (fun _ h => h); exact opG_no rfl rfl e12 rfl (dskip hS rfl), ?_⟩
    trivial
   intro a131 w132 hA133 hS134 hH135; clear hA129 hS91
   have hA136 := hA133.add (has_ev (hH135 9 (by decide)) rfl (fun _ h => h)); clear hA133
   have hA137 := hA136.add (has_ev (hH135 12 (by decide)) rfl (fun _ h => h)); clear hA136
   have hA138 := hA137.add (has_ev (hH135 16 (by decide)) rfl (fun _ h => h)); clear hA137
   have hA139 := hA138.add (has_ev (hH135 21 (by decide)) rfl (fun _ h => h)); clear hA138
   clear hH135
   refine skp hA139 rfl rfl rfl rfl rfl (by decide) fun a140 hA141 => ?_; clear hA139 a131
   refine stg hA141 (op_pick_f rfl (hA141.ev rfl) (evc _ _)) rfl rfl rfl rfl (by decide) fun a142 hA143 => ?_; clear hA141 a140
   refine st hA143 (op_pick_f rfl (hA143.ev rfl) (hA143.ev rfl)) rfl rfl (by decide) fun a144 hA145 => ?_; clear hA143 a142
   refine wl_nil ?_
   refine then_n ?_
   refine c_false hA145 rfl ?_
   refine c_skip ?_
   refine blk_n ?_
   refine then_n ?_
   have hA146 := hA145.as [(9, (Value.int .i64 (k : Int))), (7, u53), (3, (bptr b4 0)), (1, vu), (2, xl)] rfl; clear hA145
   refine c_region ?_
   refine st hA146 (op_move rfl (hA146.ev rfl)) rfl rfl (by decide) fun a147 hA148 => ?_; clear hA146 a144
   refine st hA148 (op_add rfl (hA148.ev rfl) (evc _ _) (by omega) (by omega)) rfl rfl (by decide) fun a149 hA150 => ?_; clear hA148 a147
   refine st hA150 (op_assign rfl (hA150.ev rfl)) rfl rfl (by decide) fun a151 hA152 => ?_; clear hA150 a149
   refine wl_nil ?_
   exact then_n ⟨k + 1, ⟨hA152.as _ rfl, hS134, by omega⟩, by omega⟩
 ·skip
  rw [decide_eq_false hb100] at hA99
  refine c_false hA99 rfl ?_
  refine c_exit ?_
  refine then_exit ?_
  refine then_exit ?_
  refine blk_hit ?_
  refine then_n ?_
  refine c_seq ?_
  refine c_region ?_
  refine st hA99 (op_loadA rfl ty_24 (hA99.ev rfl) (hS91.bk 3 rfl) (l := [vr]) rfl rfl) rfl rfl (by decide) fun a153 hA154 => ?_; clear hA99 a98
  refine stw hA154 (op_call rfl en_19 (ev1 (hA154.ev rfl)) (Material_ok _ R _ (hS91.sk 5 rfl) hth.mat)) rfl rfl (by decide) ?_
  rintro a155 _ w157 ⟨u160, rfl, hT158⟩ hA156; have hS159 := hS91.callS hT158 rfl; clear hT158 hA154 hS91 a153
  refine st hA156 (op_move rfl (hA156.ev rfl)) rfl rfl (by decide) fun a161 hA162 => ?_; clear hA156 a155
  refine stw hA162 (op_call rfl en_20 (ev1 (hA162.ev rfl)) (Runs_ok _ rs _ _ (runs_at (hS159.ok 7 _ rfl)) h9 hth.segs)) rfl rfl (by decide) ?_
  rintro a163 v168 w165 ⟨lv169, hT166⟩ hA164; have hS167 := hS159.callS hT166 rfl; clear hT166 hA162 hS159 a161
  refine stw hA164 (op_call rfl en_18 (ev2 (hA164.ev rfl) (hA164.ev rfl)) (rates_ok R rs lv169 u160 v168 _ (SlAt.of_row (hS167.ok_row 1 rfl)) (runs_at (hS167.ok 0 _ rfl)) (by omega) (by omega) hc)) rfl rfl (by decide) ?_
  rintro a170 _ w172 ⟨u175, rfl, hT173⟩ hA171
  have hS174 : Sep NoB w w172 [(row u175 42 2 R.length (pairs (ratesF R rs))), (runsR true v168 lv169 rs), (row u160 42 2 R.length (pairs R)), (row u53 3 1 ((doubtF R rs).length) (ints (doubtF R rs))), (runsR true v46 lv47 rs), (row u38 42 2 R.length (pairs R)), (blk b4 24 [vr]), (sl xl 1 l.length (ints l)), (sl vr 2 R.length (pairs R)), (runsR false vu lv rs)] := hS167.callS hT173 rfl; clear hT173 hA164 hS167 a163
  refine st hA171 (op_move rfl (hA171.ev rfl)) rfl rfl (by decide) fun a176 hA177 => ?_; clear hA171 a170
  refine st hA177 (op_extract rfl (hA177.ev rfl) rfl) rfl rfl (by decide) fun a178 hA179 => ?_; clear hA177 a176
  refine st hA179 (op_extract rfl (hA179.ev rfl) rfl) rfl rfl (by decide) fun a180 hA181 => ?_; clear hA179 a178
  refine st hA181 (op_extract rfl (hA181.ev rfl) rfl) rfl rfl (by decide) fun a182 hA183 => ?_; clear hA181 a180
  refine st hA183 (op_assign rfl (hA183.ev rfl)) rfl rfl (by decide) fun a184 hA185 => ?_; clear hA183 a182
  refine st hA185 (op_assign rfl (hA185.ev rfl)) rfl rfl (by decide) fun a186 hA187 => ?_; clear hA185 a184
  refine st hA187 (op_assign rfl (hA187.ev rfl)) rfl rfl (by decide) fun a188 hA189 => ?_; clear hA187 a186
  refine wl_nil ?_
  refine then_n ?_
  refine c_seq ?_
  have hA190 := hA189.as [(12, (Value.int .i64 0)), (7, u53), (3, (bptr b4 0)), (1, vu), (2, xl)] rfl; clear hA189
  refine c_region ?_
  refine st hA190 (op_loadA rfl ty_24 (hA190.ev rfl) (hS174.bk 6 rfl) (l := [vr]) rfl rfl) rfl rfl (by decide) fun a191 hA192 => ?_; clear hA190 a188
  refine stw hA192 (op_call rfl en_19 (ev1 (hA192.ev rfl)) (Material_ok _ R _ (hS174.sk 8 rfl) hth.mat)) rfl rfl (by decide) ?_
  rintro a193 _ w195 ⟨u198, rfl, hT196⟩ hA194; have hS197 := hS174.callS hT196 rfl; clear hT196 hA192 hS174 a191
  refine st hA194 (op_move rfl (hA194.ev rfl)) rfl rfl (by decide) fun a199 hA200 => ?_; clear hA194 a193
  refine st hA200 (op_move rfl (hA200.ev rfl)) rfl rfl (by decide) fun a201 hA202 => ?_; clear hA200 a199
  refine stw hA202 (op_call rfl en_46 (ev2 (hA202.ev rfl) (hA202.ev rfl)) (Without_ok _ rs _ _ (runs_at (hS197.ok 10 _ rfl)) (doubtF R rs) _ (SlAt.of_row (hS197.ok_row 4 rfl)) (by omega) (by omega))) rfl rfl (by decide) ?_
  rintro a203 v209 w205 ⟨hE206, hO207⟩ hA204; have hS208 := hS197.new_row hE206 hO207; clear hE206 hO207 hA202 hS197 a201
  have hS210 : Sep NoB w w205 (segsR false (woV lv rs.length (doubtF R rs)) (woF rs (doubtF R rs)) :: [(row v209 54 3 ((woF rs (doubtF R rs)).length) (vtrips (runV (woV lv rs.length (doubtF R rs)) (woF rs (doubtF R rs))))), (row u198 42 2 R.length (pairs R)), (row u175 42 2 R.length (pairs (ratesF R rs))), (runsR true v168 lv169 rs), (row u160 42 2 R.length (pairs R)), (row u53 3 1 ((doubtF R rs).length) (ints (doubtF R rs))), (runsR true v46 lv47 rs), (row u38 42 2 R.length (pairs R)), (blk b4 24 [vr]), (sl xl 1 l.length (ints l)), (sl vr 2 R.length (pairs R)), (runsR false vu lv rs)]) := hS208.segs_sel (woSel (doubtF R rs) rs.length) (i := 11) rfl (fun _ h => woSel_lt h); clear hS208
  have hS211 : Sep NoB w w205 [(row v209 54 3 ((woF rs (doubtF R rs)).length) (vtrips (runV (woV lv rs.length (doubtF R rs)) (woF rs (doubtF R rs))))), (segsR false (woV lv rs.length (doubtF R rs)) (woF rs (doubtF R rs))), (row u198 42 2 R.length (pairs R)), (row u175 42 2 R.length (pairs (ratesF R rs))), (runsR true v168 lv169 rs), (row u160 42 2 R.length (pairs R)), (row u53 3 1 ((doubtF R rs).length) (ints (doubtF R rs))), (runsR true v46 lv47 rs), (row u38 42 2 R.length (pairs R)), (blk b4 24 [vr]), (sl xl 1 l.length (ints l)), (sl vr 2 R.length (pairs R)), (runsR false vu lv rs)] := hS210.keep [1, 0, 2, 3, 4, 5, 6, 7, 8, 9, 10, 11, 12] (by decide) _ rfl rfl; clear hS210
  have hS212 := hS211.runs_ro rfl; clear hS211
  refine stw hA204 (op_call rfl en_20 (ev1 (hA204.ev rfl)) (Runs_ok _ (woF rs (doubtF R rs)) _ _ (runs_at (hS212.ok 0 _ rfl)) (by have := wo_len rs (doubtF R rs); omega) (wo_segs hth.segs))) rfl rfl (by decide) ?_
  rintro a213 v218 w215 ⟨lv219, hT216⟩ hA214; have hS217 := hS212.callS hT216 rfl; clear hT216 hA204 hS212 a203
  refine stw hA214 (op_call rfl en_18 (ev2 (hA214.ev rfl) (hA214.ev rfl)) (rates_ok R (woF rs (doubtF R rs)) lv219 u198 v218 _ (SlAt.of_row (hS217.ok_row 2 rfl)) (runs_at (hS217.ok 0 _ rfl)) (by omega) (by omega) hg)) rfl rfl (by decide) ?_
  rintro a220 _ w222 ⟨u225, rfl, hT223⟩ hA221
  have hS224 : Sep NoB w w222 [(row u225 42 2 R.length (pairs (ratesF R (woF rs (doubtF R rs))))), (runsR true v218 lv219 (woF rs (doubtF R rs))), (runsR false v209 (woV lv rs.length (doubtF R rs)) (woF rs (doubtF R rs))), (row u198 42 2 R.length (pairs R)), (row u175 42 2 R.length (pairs (ratesF R rs))), (runsR true v168 lv169 rs), (row u160 42 2 R.length (pairs R)), (row u53 3 1 ((doubtF R rs).length) (ints (doubtF R rs))), (runsR true v46 lv47 rs), (row u38 42 2 R.length (pairs R)), (blk b4 24 [vr]), (sl xl 1 l.length (ints l)), (sl vr 2 R.length (pairs R)), (runsR false vu lv rs)] := hS217.callS hT223 rfl; clear hT223 hA214 hS217 a213
  refine st hA221 (op_move rfl (hA221.ev rfl)) rfl rfl (by decide) fun a226 hA227 => ?_; clear hA221 a220
  refine st hA227 (op_extract rfl (hA227.ev rfl) rfl) rfl rfl (by decide) fun a228 hA229 => ?_; clear hA227 a226
  refine st hA229 (op_extract rfl (hA229.ev rfl) rfl) rfl rfl (by decide) fun a230 hA231 => ?_; clear hA229 a228
  refine st hA231 (op_extract rfl (hA231.ev rfl) rfl) rfl rfl (by decide) fun a232 hA233 => ?_; clear hA231 a230
  refine st hA233 (op_assign rfl (hA233.ev rfl)) rfl rfl (by decide) fun a234 hA235 => ?_; clear hA233 a232
  refine st hA235 (op_assign rfl (hA235.ev rfl)) rfl rfl (by decide) fun a236 hA237 => ?_; clear hA235 a234
  refine st hA237 (op_assign rfl (hA237.ev rfl)) rfl rfl (by decide) fun a238 hA239 => ?_; clear hA237 a236
  refine wl_nil ?_
  refine then_n ?_
  refine c_seq ?_
  have hA240 := hA239.as [(15, (Value.int .i64 0)), (12, (Value.int .i64 0)), (7, u53), (3, (bptr b4 0)), (1, vu), (2, xl)] rfl; clear hA239
  refine c_region ?_
  refine st hA240 (op_loadA rfl ty_24 (hA240.ev rfl) (hS224.bk 10 rfl) (l := [vr]) rfl rfl) rfl rfl (by decide) fun a241 hA242 => ?_; clear hA240 a238
  refine stw hA242 (op_call rfl en_19 (ev1 (hA242.ev rfl)) (Material_ok _ R _ (hS224.sk 12 rfl) hth.mat)) rfl rfl (by decide) ?_
  rintro a243 _ w245 ⟨u248, rfl, hT246⟩ hA244; have hS247 := hS224.callS hT246 rfl; clear hT246 hA242 hS224 a241
  refine st hA244 (op_move rfl (hA244.ev rfl)) rfl rfl (by decide) fun a249 hA250 => ?_; clear hA244 a243
  refine st hA250 (op_move rfl (hA250.ev rfl)) rfl rfl (by decide) fun a251 hA252 => ?_; clear hA250 a249
  refine stw hA252 (op_call rfl en_46 (ev2 (hA252.ev rfl) (hA252.ev rfl)) (Without_ok _ rs _ _ (runs_at (hS247.ok 14 _ rfl)) l _ (hS247.sk 12 rfl) (by omega) (by omega))) rfl rfl (by decide) ?_
  rintro a253 v259 w255 ⟨hE256, hO257⟩ hA254; have hS258 := hS247.new_row hE256 hO257; clear hE256 hO257 hA252 hS247 a251
  have hS260 : Sep NoB w w255 (segsR false (woV lv rs.length l) (woF rs l) :: [(row v259 54 3 ((woF rs l).length) (vtrips (runV (woV lv rs.length l) (woF rs l)))), (row u248 42 2 R.length (pairs R)), (row u225 42 2 R.length (pairs (ratesF R (woF rs (doubtF R rs))))), (runsR true v218 lv219 (woF rs (doubtF R rs))), (runsR false v209 (woV lv rs.length (doubtF R rs)) (woF rs (doubtF R rs))), (row u198 42 2 R.length (pairs R)), (row u175 42 2 R.length (pairs (ratesF R rs))), (runsR true v168 lv169 rs), (row u160 42 2 R.length (pairs R)), (row u53 3 1 ((doubtF R rs).length) (ints (doubtF R rs))), (runsR true v46 lv47 rs), (row u38 42 2 R.length (pairs R)), (blk b4 24 [vr]), (sl xl 1 l.length (ints l)), (sl vr 2 R.length (pairs R)), (runsR false vu lv rs)]) := hS258.segs_sel (woSel l rs.length) (i := 15) rfl (fun _ h => woSel_lt h); clear hS258
  have hS261 : Sep NoB w w255 [(row v259 54 3 ((woF rs l).length) (vtrips (runV (woV lv rs.length l) (woF rs l)))), (segsR false (woV lv rs.length l) (woF rs l)), (row u248 42 2 R.length (pairs R)), (row u225 42 2 R.length (pairs (ratesF R (woF rs (doubtF R rs))))), (runsR true v218 lv219 (woF rs (doubtF R rs))), (runsR false v209 (woV lv rs.length (doubtF R rs)) (woF rs (doubtF R rs))), (row u198 42 2 R.length (pairs R)), (row u175 42 2 R.length (pairs (ratesF R rs))), (runsR true v168 lv169 rs), (row u160 42 2 R.length (pairs R)), (row u53 3 1 ((doubtF R rs).length) (ints (doubtF R rs))), (runsR true v46 lv47 rs), (row u38 42 2 R.length (pairs R)), (blk b4 24 [vr]), (sl xl 1 l.length (ints l)), (sl vr 2 R.length (pairs R)), (runsR false vu lv rs)] := hS260.keep [1, 0, 2, 3, 4, 5, 6, 7, 8, 9, 10, 11, 12, 13, 14, 15, 16] (by decide) _ rfl rfl; clear hS260
  have hS262 := hS261.runs_ro rfl; clear hS261
  refine stw hA254 (op_call rfl en_20 (ev1 (hA254.ev rfl)) (Runs_ok _ (woF rs l) _ _ (runs_at (hS262.ok 0 _ rfl)) (by have := wo_len rs l; omega) (wo_segs hth.segs))) rfl rfl (by decide) ?_
  rintro a263 v268 w265 ⟨lv269, hT266⟩ hA264; have hS267 := hS262.callS hT266 rfl; clear hT266 hA254 hS262 a253
  refine stw hA264 (op_call rfl en_18 (ev2 (hA264.ev rfl) (hA264.ev rfl)) (rates_bad R (woF rs l) lv269 u248 v268 _ (SlAt.of_row (hS267.ok_row 2 rfl)) (runs_at (hS267.ok 0 _ rfl)) (by omega) (by omega) (by omega))) rfl rfl (by decide) ?_
  rintro a270 _ w272 ⟨rfl, hE273⟩ hA271; have hS274 := hS267.step hE273; clear hE273 hA264 hS267 a263
  refine st hA271 (op_move rfl (hA271.ev rfl)) rfl rfl (by decide) fun a275 hA276 => ?_; clear hA271 a270
  refine st hA276 (op_extract rfl (hA276.ev rfl) rfl) rfl rfl (by decide) fun a277 hA278 => ?_; clear hA276 a275
  refine st hA278 (op_extract rfl (hA278.ev rfl) rfl) rfl rfl (by decide) fun a279 hA280 => ?_; clear hA278 a277
  refine st hA280 (op_extract rfl (hA280.ev rfl) rfl) rfl rfl (by decide) fun a281 hA282 => ?_; clear hA280 a279
  refine st hA282 (op_assign rfl (hA282.ev rfl)) rfl rfl (by decide) fun a283 hA284 => ?_; clear hA282 a281
  refine st hA284 (op_assign rfl (hA284.ev rfl)) rfl rfl (by decide) fun a285 hA286 => ?_; clear hA284 a283
  refine st hA286 (op_assign rfl (hA286.ev rfl)) rfl rfl (by decide) fun a287 hA288 => ?_; clear hA286 a285
  refine wl_nil ?_
  refine then_n ?_
  refine c_seq ?_
  have hA289 := hA288.as [(18, (Value.int .i64 (possF R (woF rs l)))), (15, (Value.int .i64 0)), (12, (Value.int .i64 0)), (7, u53), (1, vu), (2, xl)] rfl; clear hA288
  refine c_region ?_
  refine st hA289 (op_move rfl (hA289.ev rfl)) rfl rfl (by decide) fun a290 hA291 => ?_; clear hA289 a287
  refine st hA291 (op_lenS rfl un_25 (hA291.ev rfl) (runs_at (hS274.ok 16 _ rfl)).runs) rfl rfl (by decide) fun a292 hA293 => ?_; clear hA291 a290
  refine st hA293 (op_move rfl (hA293.ev rfl)) rfl rfl (by decide) fun a294 hA295 => ?_; clear hA293 a292
  refine st hA295 (op_move rfl (hA295.ev rfl)) rfl rfl (by decide) fun a296 hA297 => ?_; clear hA295 a294
  refine stw hA297 (op_call rfl en_46 (ev2 (hA297.ev rfl) (hA297.ev rfl)) (Without_ok _ rs _ _ (runs_at (hS274.ok 16 _ rfl)) l _ (hS274.sk 14 rfl) (by omega) (by omega))) rfl rfl (by decide) ?_
  rintro a298 v304 w300 ⟨hE301, hO302⟩ hA299; have hS303 := hS274.new_row hE301 hO302; clear hE301 hO302 hA297 hS274 a296
  have hS305 : Sep NoB w w300 (segsR false (woV lv rs.length l) (woF rs l) :: [(row v304 54 3 ((woF rs l).length) (vtrips (runV (woV lv rs.length l) (woF rs l)))), (runsR true v268 lv269 (woF rs l)), (runsR false v259 (woV lv rs.length l) (woF rs l)), (row u248 42 2 R.length (pairs R)), (row u225 42 2 R.length (pairs (ratesF R (woF rs (doubtF R rs))))), (runsR true v218 lv219 (woF rs (doubtF R rs))), (runsR false v209 (woV lv rs.length (doubtF R rs)) (woF rs (doubtF R rs))), (row u198 42 2 R.length (pairs R)), (row u175 42 2 R.length (pairs (ratesF R rs))), (runsR true v168 lv169 rs), (row u160 42 2 R.length (pairs R)), (row u53 3 1 ((doubtF R rs).length) (ints (doubtF R rs))), (runsR true v46 lv47 rs), (row u38 42 2 R.length (pairs R)), (blk b4 24 [vr]), (sl xl 1 l.length (ints l)), (sl vr 2 R.length (pairs R)), (runsR false vu lv rs)]) := hS303.segs_sel (woSel l rs.length) (i := 17) rfl (fun _ h => woSel_lt h); clear hS303
  have hS306 : Sep NoB w w300 [(row v304 54 3 ((woF rs l).length) (vtrips (runV (woV lv rs.length l) (woF rs l)))), (segsR false (woV lv rs.length l) (woF rs l)), (runsR true v268 lv269 (woF rs l)), (runsR false v259 (woV lv rs.length l) (woF rs l)), (row u248 42 2 R.length (pairs R)), (row u225 42 2 R.length (pairs (ratesF R (woF rs (doubtF R rs))))), (runsR true v218 lv219 (woF rs (doubtF R rs))), (runsR false v209 (woV lv rs.length (doubtF R rs)) (woF rs (doubtF R rs))), (row u198 42 2 R.length (pairs R)), (row u175 42 2 R.length (pairs (ratesF R rs))), (runsR true v168 lv169 rs), (row u160 42 2 R.length (pairs R)), (row u53 3 1 ((doubtF R rs).length) (ints (doubtF R rs))), (runsR true v46 lv47 rs), (row u38 42 2 R.length (pairs R)), (blk b4 24 [vr]), (sl xl 1 l.length (ints l)), (sl vr 2 R.length (pairs R)), (runsR false vu lv rs)] := hS305.keep [1, 0, 2, 3, 4, 5, 6, 7, 8, 9, 10, 11, 12, 13, 14, 15, 16, 17, 18] (by decide) _ rfl rfl; clear hS305
  have hS307 := hS306.runs_ro rfl; clear hS306
  refine st hA299 (op_lenS rfl un_25 (hA299.ev rfl) (runs_at (hS307.ok 0 _ rfl)).runs) rfl rfl (by decide) fun a308 hA309 => ?_; clear hA299 a298
  refine st hA309 (op_sub rfl (hA309.ev rfl) (hA309.ev rfl) (by omega) (by omega)) rfl rfl (by decide) fun a310 hA311 => ?_; clear hA309 a308
  refine st hA311 (op_assign rfl (hA311.ev rfl)) rfl rfl (by decide) fun a312 hA313 => ?_; clear hA311 a310
  refine wl_nil ?_
  refine then_n ?_
  refine c_seq ?_
  have hA314 := hA313.as [(19, (Value.int .i64 ((rs.length : Int) - ((woF rs l).length : Int)))), (18, (Value.int .i64 (possF R (woF rs l)))), (15, (Value.int .i64 0)), (12, (Value.int .i64 0)), (7, u53)] rfl; clear hA313
  refine c_region ?_
  refine st hA314 (op_move rfl (hA314.ev rfl)) rfl rfl (by decide) fun a315 hA316 => ?_; clear hA314 a312
  refine st hA316 (op_eql rfl (hA316.ev rfl) (evc _ _)) rfl rfl (by decide) fun a317 hA318 => ?_; clear hA316 a315
  refine st hA318 (op_move rfl (hA318.ev rfl)) rfl rfl (by decide) fun a319 hA320 => ?_; clear hA318 a317
  refine st hA320 (op_lenS rfl un_40 (hA320.ev rfl) (SlAt.of_row (hS307.ok_row 11 rfl))) rfl rfl (by decide) fun a321 hA322 => ?_; clear hA320 a319
  refine st hA322 (op_eql rfl (hA322.ev rfl) (evc _ _)) rfl rfl (by decide) fun a323 hA324 => ?_; clear hA322 a321
  have hd325 : ((doubtF R rs).length : Int) = 0 := (by omega)
  rw [decide_eq_true hd325] at hA324
  refine st hA324 (op_eqlB un_4 rfl (hA324.ev rfl) (hA324.ev rfl)) rfl rfl (by decide) fun a326 hA327 => ?_; clear hA324 a323
  refine st hA327 (op_move rfl (hA327.ev rfl)) rfl rfl (by decide) fun a328 hA329 => ?_; clear hA327 a326
  refine stg hA329 (op_move rfl (hA329.ev rfl)) rfl rfl rfl rfl (by decide) fun a330 hA331 => ?_; clear hA329 a328
  refine stg hA331 (op_eql rfl (hA331.ev rfl) (evc _ _)) rfl rfl rfl rfl (by decide) fun a332 hA333 => ?_; clear hA331 a330
  refine st hA333 (op_pick_t rfl (hA333.ev rfl) (hA333.ev rfl)) rfl rfl (by decide) fun a334 hA335 => ?_; clear hA333 a332
  refine st hA335 (op_move rfl (hA335.ev rfl)) rfl rfl (by decide) fun a336 hA337 => ?_; clear hA335 a334
  refine stg hA337 (op_move rfl (hA337.ev rfl)) rfl rfl rfl rfl (by decide) fun a338 hA339 => ?_; clear hA337 a336
  refine stg hA339 (op_eql rfl (hA339.ev rfl) (evc _ _)) rfl rfl rfl rfl (by decide) fun a340 hA341 => ?_; clear hA339 a338
  have hd342 : (possF R (woF rs l)) = 9 := (by omega)
  rw [decide_eq_true hd342] at hA341
  refine stg hA341 (op_move rfl (hA341.ev rfl)) rfl rfl rfl rfl (by decide) fun a343 hA344 => ?_; clear hA341 a340
  refine skp hA344 rfl rfl rfl rfl rfl (by decide) fun a345 hA346 => ?_; clear hA344 a343
  refine skp hA346 rfl rfl rfl rfl rfl (by decide) fun a347 hA348 => ?_; clear hA346 a345
  refine skp hA348 rfl rfl rfl rfl rfl (by decide) fun a349 hA350 => ?_; clear hA348 a347
  refine skpU hA350 rfl rfl rfl rfl (by decide) fun a351 hA352 => ?_; clear hA350 a349
  refine skpU hA352 rfl rfl rfl rfl (by decide) fun a353 hA354 => ?_; clear hA352 a351
  refine skpU hA354 rfl rfl rfl rfl (by decide) fun a355 hA356 => ?_; clear hA354 a353
  refine skpU hA356 rfl rfl rfl rfl (by decide) fun a357 hA358 => ?_; clear hA356 a355
  refine skp hA358 rfl rfl rfl rfl rfl (by decide) fun a359 hA360 => ?_; clear hA358 a357
  refine stg hA360 (op_pick_t rfl (hA360.ev rfl) (evc _ _)) rfl rfl rfl rfl (by decide) fun a361 hA362 => ?_; clear hA360 a359
  refine st hA362 (op_pick_t rfl (hA362.ev rfl) (hA362.ev rfl)) rfl rfl (by decide) fun a363 hA364 => ?_; clear hA362 a361
  refine st hA364 (op_move rfl (hA364.ev rfl)) rfl rfl (by decide) fun a365 hA366 => ?_; clear hA364 a363
  refine stwg hA366 (op_call rfl en_17 ev0 (awake_ok _)) rfl rfl rfl rfl (by decide) ?_
  rintro a367 _ w369 ⟨rfl, hE370⟩ hA368; have hS371 := hS307.step hE370; clear hE370 hA366 hS307 a365
  refine st hA368 (op_pick_t rfl (hA368.ev rfl) (hA368.ev rfl)) rfl rfl (by decide) fun a372 hA373 => ?_; clear hA368 a367
  refine st hA373 (op_assign rfl (hA373.ev rfl)) rfl rfl (by decide) fun a374 hA375 => ?_; clear hA373 a372
  refine wl_nil ?_
  refine then_n ?_
  refine c_ret ?_
  refine fin_run hA375 (.inl rfl) (run_results1 hA375 rfl (.tmp rfl)) ?_
  exact ⟨rfl, hS371.ext⟩
set_option maxHeartbeats 4000000 in
theorem CreepDoubtful_e (w : World) (R : List (Int × Int)) (vr : Value) (hm : SlAt w vr 2 R.length (pairs R)) (rs : List RunD) (lv : List Value) (vu : Value) (hx : RunsAt w vu lv rs) (l : List Int) (xl : Value) (hxl : SlAt w xl 1 l.length (ints l)) (hf : readyB R rs [] = true) (hl : l.length ≤ 9) (hc : possF R rs = 0) (hn : possF R (woF rs l) = 0) :
  Calls Try.prog 13 #[(Value.agg #[vr]), vu, xl] w (Ret fun v w' => v = .bool true ∧ Ext NoB w w') := by
 refine calls_enter Try.func13 rfl fun a0 hA0 => ?_
 replace hA0 : Fr 143 [] [(0, (Value.agg #[vr])), (1, vu), (2, xl)] a0 := hA0
 have hrd := ready_is hf; have hth := hrd.1; have he := hrd.2.1; have h6 := hth.mat; have h9 := hth.runs; have h12 := hth.plan; have hp8 := hrd.2.2.1; have hsb := hrd.2.2.2; have hcm := check_mat (enter_mat he); have hR := hcm.1; have hR1 := hcm.2.1; have hR3 := hR.1; have hV := enter_runs he; have hrt := ratesF_len R rs; have hle := allowed_le (rs := rs) hR; have hdb := doubt_bd he; have hg := doubt_pos he; have hdz := doubt_zero he; have hwl1 := wo_len rs l; have hwl2 := wo_len rs (doubtF R rs); have hrw1 := ratesF_len R (woF rs l); have hrw2 := ratesF_len R (woF rs (doubtF R rs)); have hew := wo_enter (l := l) he; have hd0 : (doubtF R rs).length = 0 := hdz.1 hc; have hdl := doubt_least he hn
 have hS0 : Sep NoB w w [(sl xl 1 l.length (ints l)), (sl vr 2 R.length (pairs R)), (runsR false vu lv rs)] := sep_ro ⟨rfl, hxl, rfl, hm, rfl, hx, trivial⟩
 refine c_seq ?_
 refine c_region ?_
 refine stw hA0 (op_box hS0 rfl (hA0.ev rfl) (cs := [vr]) rfl) rfl rfl (by decide) ?_
 rintro a1 _ w3 ⟨b4, rfl, hS5⟩ hA2; clear hA0 hS0 a0
 refine st hA2 (op_assign rfl (evc _ _)) rfl rfl (by decide) fun a6 hA7 => ?_; clear hA2 a1
 refine wl_nil ?_
 refine then_n ?_
 refine c_seq ?_
 refine c_seq ?_
 refine c_region ?_
 refine st hA7 (op_loadA rfl ty_24 (hA7.ev rfl) (hS5.bk 0 rfl) (l := [vr]) rfl rfl) rfl rfl (by decide) fun a8 hA9 => ?_; clear hA7 a6
 refine st hA9 (op_move rfl (hA9.ev rfl)) rfl rfl (by decide) fun a10 hA11 => ?_; clear hA9 a8
 refine stw hA11 (op_call rfl en_27 (ev3 (hA11.ev rfl) (hA11.ev rfl) (evc _ _)) (ready_ok _ R _ (hS5.sk 2 rfl) rs _ _ (runs_at (hS5.ok 3 _ rfl)) ([]) _ (slAt_nil _ 3))) rfl rfl (by decide) ?_
 rintro a12 _ w14 ⟨rfl, hE15⟩ hA13; have hS16 := hS5.step hE15; clear hE15 hA11 hS5 a10
 rw [hf] at hA13
 refine st hA13 (op_not rfl (hA13.ev rfl)) rfl rfl (by decide) fun a17 hA18 => ?_; clear hA13 a12
 refine st hA18 (op_move rfl (hA18.ev rfl)) rfl rfl (by decide) fun a19 hA20 => ?_; clear hA18 a17
 refine stg hA20 (op_move rfl (hA20.ev rfl)) rfl rfl rfl rfl (by decide) fun a21 hA22 => ?_; clear hA20 a19
 refine stg hA22 (op_lenS rfl un_40 (hA22.ev rfl) (hS16.sk 1 rfl)) rfl rfl rfl rfl (by decide) fun a23 hA24 => ?_; clear hA22 a21
 refine stg hA24 (op_gtr rfl (hA24.ev rfl) (evc _ _)) rfl rfl rfl rfl (by decide) fun a25 hA26 => ?_; clear hA24 a23
 have hd27 : ¬ (9 < (l.length : Int)) := (by omega)
 rw [decide_eq_false hd27] at hA26
 refine st hA26 (op_pick_f rfl (hA26.ev rfl) (hA26.ev rfl)) rfl rfl (by decide) fun a28 hA29 => ?_; clear hA26 a25
 refine wl_nil ?_
 refine then_n ?_
 refine c_false hA29 rfl ?_
 refine c_skip ?_
 refine then_n ?_
 refine c_seq ?_
 have hA30 := hA29.as [(3, (bptr b4 0)), (1, vu), (2, xl)] rfl; clear hA29
 refine c_region ?_
 refine st hA30 (op_loadA rfl ty_24 (hA30.ev rfl) (hS16.bk 0 rfl) (l := [vr]) rfl rfl) rfl rfl (by decide) fun a31 hA32 => ?_; clear hA30 a28
 refine stw hA32 (op_call rfl en_19 (ev1 (hA32.ev rfl)) (Material_ok _ R _ (hS16.sk 2 rfl) hth.mat)) rfl rfl (by decide) ?_
 rintro a33 _ w35 ⟨u38, rfl, hT36⟩ hA34; have hS37 := hS16.callS hT36 rfl; clear hT36 hA32 hS16 a31
 refine st hA34 (op_move rfl (hA34.ev rfl)) rfl rfl (by decide) fun a39 hA40 => ?_; clear hA34 a33
 refine stw hA40 (op_call rfl en_20 (ev1 (hA40.ev rfl)) (Runs_ok _ rs _ _ (runs_at (hS37.ok 4 _ rfl)) h9 hth.segs)) rfl rfl (by decide) ?_
 rintro a41 v46 w43 ⟨lv47, hT44⟩ hA42; have hS45 := hS37.callS hT44 rfl; clear hT44 hA40 hS37 a39
 refine stw hA42 (op_call rfl en_43 (ev2 (hA42.ev rfl) (hA42.ev rfl)) (doubt_ok R rs lv47 u38 v46 _ (SlAt.of_row (hS45.ok_row 1 rfl)) (runs_at (hS45.ok 0 _ rfl)) (by omega) (by omega) he)) rfl rfl (by decide) ?_
 rintro a48 _ w50 ⟨u53, rfl, hT51⟩ hA49; have hS52 := hS45.callS hT51 rfl; clear hT51 hA42 hS45 a41
 refine st hA49 (op_move rfl (hA49.ev rfl)) rfl rfl (by decide) fun a54 hA55 => ?_; clear hA49 a48
 refine st hA55 (op_extract rfl (hA55.ev rfl) rfl) rfl rfl (by decide) fun a56 hA57 => ?_; clear hA55 a54
 refine st hA57 (op_extract rfl (hA57.ev rfl) rfl) rfl rfl (by decide) fun a58 hA59 => ?_; clear hA57 a56
 refine st hA59 (op_assign rfl (hA59.ev rfl)) rfl rfl (by decide) fun a60 hA61 => ?_; clear hA59 a58
 refine st hA61 (op_assign rfl (hA61.ev rfl)) rfl rfl (by decide) fun a62 hA63 => ?_; clear hA61 a60
 refine wl_nil ?_
 refine then_n ?_
 refine c_seq ?_
 refine c_seq ?_
 have hA64 := hA63.as [(8, (Value.int .i64 0)), (7, u53), (3, (bptr b4 0)), (1, vu), (2, xl)] rfl; clear hA63
 refine c_region ?_
 refine st hA64 (op_move rfl (hA64.ev rfl)) rfl rfl (by decide) fun a65 hA66 => ?_; clear hA64 a62
 refine st hA66 (op_neq rfl (hA66.ev rfl) (evc _ _)) rfl rfl (by decide) fun a67 hA68 => ?_; clear hA66 a65
 refine st hA68 (op_move rfl (hA68.ev rfl)) rfl rfl (by decide) fun a69 hA70 => ?_; clear hA68 a67
 refine stg hA70 (op_move rfl (hA70.ev rfl)) rfl rfl rfl rfl (by decide) fun a71 hA72 => ?_; clear hA70 a69
 refine stg hA72 (op_lenS rfl un_40 (hA72.ev rfl) (SlAt.of_row (hS52.ok_row 0 rfl))) rfl rfl rfl rfl (by decide) fun a73 hA74 => ?_; clear hA72 a71
 refine stg hA74 (op_move rfl (hA74.ev rfl)) rfl rfl rfl rfl (by decide) fun a75 hA76 => ?_; clear hA74 a73
 refine stg hA76 (op_lenS rfl un_25 (hA76.ev rfl) (runs_at (hS52.ok 6 _ rfl)).runs) rfl rfl rfl rfl (by decide) fun a77 hA78 => ?_; clear hA76 a75
 refine stg hA78 (op_gtr rfl (hA78.ev rfl) (hA78.ev rfl)) rfl rfl rfl rfl (by decide) fun a79 hA80 => ?_; clear hA78 a77
 have hd81 : ¬ ((rs.length : Int) < ((doubtF R rs).length : Int)) := (by omega)
 rw [decide_eq_false hd81] at hA80
 refine st hA80 (op_pick_f rfl (hA80.ev rfl) (hA80.ev rfl)) rfl rfl (by decide) fun a82 hA83 => ?_; clear hA80 a79
 refine wl_nil ?_
 refine then_n ?_
 refine c_false hA83 rfl ?_
 refine c_skip ?_
 refine then_n ?_
 refine c_seq ?_
 refine c_seq ?_
 have hA84 := hA83.as [(7, u53), (3, (bptr b4 0)), (1, vu), (2, xl)] rfl; clear hA83
 refine c_region ?_
 refine st hA84 (op_assign rfl (evc _ _)) rfl rfl (by decide) fun a85 hA86 => ?_; clear hA84 a82
 refine wl_nil ?_
 refine then_n ?_
 refine c_block ?_
 have hA87 := hA86.as [(9, (Value.int .i64 0)), (7, u53), (3, (bptr b4 0)), (1, vu), (2, xl)] rfl; clear hA86
 refine c_loop (G := Nat) (fun (k : Nat) a_ w_ => Fr 143 [] [(9, (Value.int .i64 (k : Int))), (7, u53), (3, (bptr b4 0)), (1, vu), (2, xl)] a_ ∧ Sep NoB w w_ [(row u53 3 1 ((doubtF R rs).length) (ints (doubtF R rs))), (runsR true v46 lv47 rs), (row u38 42 2 R.length (pairs R)), (blk b4 24 [vr]), (sl xl 1 l.length (ints l)), (sl vr 2 R.length (pairs R)), (runsR false vu lv rs)] ∧ (k ≤ (doubtF R rs).length)) (fun k => (doubtF R rs).length - k) 0 ⟨hA87.as _ rfl, hS52, by omega⟩ ?_
 clear hA87 hS52 a85
 rintro k a88 w90 ⟨hA89, hS91, hk⟩
 refine c_seq ?_
 refine c_seq ?_
 refine c_region ?_
 refine st hA89 (op_move rfl (hA89.ev rfl)) rfl rfl (by decide) fun a92 hA93 => ?_; clear hA89 a88
 refine st hA93 (op_move rfl (hA93.ev rfl)) rfl rfl (by decide) fun a94 hA95 => ?_; clear hA93 a92
 refine st hA95 (op_lenS rfl un_40 (hA95.ev rfl) (SlAt.of_row (hS91.ok_row 0 rfl))) rfl rfl (by decide) fun a96 hA97 => ?_; clear hA95 a94
 refine st hA97 (op_lss rfl (hA97.ev rfl) (hA97.ev rfl)) rfl rfl (by decide) fun a98 hA99 => ?_; clear hA97 a96
 refine wl_nil ?_
 refine then_n ?_
 by_cases hb100 : (k : Int) < ((doubtF R rs).length : Int)
 ·skip
  rw [decide_eq_true hb100] at hA99
  have hbk := hdb.2.1 k (by omega)
  refine c_true hA99 rfl ?_
  refine c_skip ?_
  refine then_n ?_
  refine c_seq ?_
  refine c_block ?_
  refine c_seq ?_
  have hA101 := hA99.as [(9, (Value.int .i64 (k : Int))), (7, u53), (3, (bptr b4 0)), (1, vu), (2, xl)] rfl; clear hA99
  by_cases hb103 : 0 < (k : Int)
  ·skip
   have hA104 := hA101.as [(9, (Value.int .i64 (k : Int))), (7, u53), (3, (bptr b4 0)), (1, vu), (2, xl)] rfl; clear hA101
   refine c_drawn mixed hA104 hS91 22 [[], [], [0, 1], [2], [], [4], [5], [3, 6], [7], [8], [9], [9, 10], [9, 11], [12], [12], [12, 13, 14], [12, 15], [12], [12], [12, 18], [12, 17, 19], [12, 20]] [(Yd.val u53), (Yd.val (Value.int .i64 (k : Int))), (Yd.val (eptr u53 (k * 1))), (Yd.val (Value.int .i64 ((doubtF R rs).getD k 0))), (Yd.val vu), (Yd.val (Value.int .i64 (rs.length : Int))), (Yd.val (Value.int .i64 ((rs.length : Int) - 1))), (Yd.val (Value.bool true)), (Yd.val (Value.bool (!true))), (Yd.val (Value.bool (!true))), (Yd.val (Value.int .i64 (k : Int))), (Yd.val (Value.bool true)), (Yd.val (Value.bool true)), (Yd.val u53), (Yd.val (Value.int .i64 (k : Int))), (Yd.val (eptr u53 (k * 1))), (Yd.val (Value.int .i64 ((doubtF R rs).getD k 0))), (Yd.val u53), (Yd.val (Value.int .i64 (k : Int))), (Yd.val (Value.int .i64 ((k : Int) - 1))), (Yd.val (eptr u53 (((k : Int) - 1).toNat * 1))), (Yd.val (Value.int .i64 ((doubtF R rs).getD (((k : Int) - 1).toNat) 0)))] (by decide +kernel) rfl rfl ?_ ?_
   ·skip
    refine ⟨fun a w hA hS hd => by exact opG_of rfl (dv (op_move rfl (hA.ev rfl)) hS rfl), ?_⟩
    refine ⟨fun a w hA hS hd => by exact opG_of rfl (dv (op_move rfl (hA.ev rfl)) hS rfl), ?_⟩
    refine ⟨fun a w hA hS hd => by have e0 := has_ev (hd 0 (by decide)) rfl (fun _ h => h); have e1 := has_ev (hd 1 (by decide)) rfl (fun _ h => h); exact opG_of rfl (dv (op_indexS rfl un_40 ty_3 (tmp_ev e0) (i := k) (tmp_ev e1) (SlAt.of_row (hS.ok_row 0 rfl)) (by decide) (by omega)) hS rfl), ?_⟩
    refine ⟨fun a w hA hS hd => by have e2 := has_ev (hd 2 (by decide)) rfl (fun _ h => h); exact opG_of rfl (dv (op_load1E rfl ty_3 (tmp_ev e2) (SlAt.of_row (hS.ok_row 0 rfl)) (ints_at (by omega))) hS rfl), ?_⟩
    refine ⟨fun a w hA hS hd => by exact opG_of rfl (dv (op_move rfl (hA.ev rfl)) hS rfl), ?_⟩
    refine ⟨fun a w hA hS hd => by have e4 := has_ev (hd 4 (by decide)) rfl (fun _ h => h); exact opG_of rfl (dv (op_lenS rfl un_25 (tmp_ev e4) (runs_at (hS.ok 6 _ rfl)).runs) hS rfl), ?_⟩
    refine ⟨fun a w hA hS hd => by have e5 := has_ev (hd 5 (by decide)) rfl (fun _ h => h); exact opG_of rfl (dv (op_sub rfl (tmp_ev e5) (evc _ _) (by omega) (by omega)) hS rfl), ?_⟩
    refine ⟨fun a w hA hS hd => by have e3 := has_ev (hd 3 (by decide)) rfl (fun _ h => h); have e6 := has_ev (hd 6 (by decide)) rfl (fun _ h => h); exact opG_of rfl (dv (op_call rfl en_24 (ev3 (tmp_ev e3) (evc _ _) (tmp_ev e6)) (In_ok _ _ _ _)) hS (by show Value.bool _ = _; simp only [(show (decide (0 ≤ ((doubtF R rs).getD k 0)) && decide (((doubtF R rs).getD k 0) ≤ ((rs.length : Int) - 1))) = true from (by simp only [Bool.and_eq_true, decide_eq_true_eq]; omega)), decide_true, decide_false, Bool.not_true, Bool.not_false])), ?_⟩
    refine ⟨fun a w hA hS hd => by have e7 := has_ev (hd 7 (by decide)) rfl (fun _ h => h); exact opG_of rfl (dv (op_not rfl (tmp_ev e7)) hS rfl), ?_⟩
    refine ⟨fun a w hA hS hd => by have e8 := has_ev (hd 8 (by decide)) rfl (fun _ h => h); exact opG_of rfl (dv (op_move rfl (tmp_ev e8)) hS rfl), ?_⟩
    refine ⟨fun a w hA hS hd => by have e9 := has_ev (hd 9 (by decide)) rfl (fun _ h => h); exact opG_yes rfl rfl e9 (dv (op_move rfl (hA.ev rfl)) hS rfl), ?_⟩
    refine ⟨fun a w hA hS hd => by have e9 := has_ev (hd 9 (by decide)) rfl (fun _ h => h); have e10 := has_ev (hd 10 (by decide)) rfl (fun _ h => h); exact opG_yes rfl rfl e9 (dv (op_gtr rfl (tmp_ev e10) (evc _ _)) hS (by show Value.bool _ = _; simp only [decide_eq_true hb103, decide_true, decide_false, Bool.not_true, Bool.not_false])), ?_⟩
    refine ⟨fun a w hA hS hd => by have e9 := has_ev (hd 9 (by decide)) rfl (fun _ h => h); have e11 := has_ev (hd 11 (by decide)) rfl (fun _ h => h); exact opG_yes rfl rfl e9 (dv (op_move rfl (tmp_ev e11)) hS rfl), ?_⟩
    refine ⟨fun a w hA hS hd => by have e12 := has_ev (hd 12 (by decide)) rfl (fun _ h => h); exact opG_yes rfl rfl e12 (dv (op_move rfl (hA.ev rfl)) hS rfl), ?_⟩
    refine ⟨fun a w hA hS hd => by have e12 := has_ev (hd 12 (by decide)) rfl (fun _ h => h); exact opG_yes rfl rfl e12 (dv (op_move rfl (hA.ev rfl)) hS rfl), ?_⟩
    refine ⟨fun a w hA hS hd => by have e12 := has_ev (hd 12 (by decide)) rfl (fun _ h => h); have e13 := has_ev (hd 13 (by decide)) rfl (fun _ h => h); have e14 := has_ev (hd 14 (by decide)) rfl (fun _ h => h); exact opG_yes rfl rfl e12 (dv (op_indexS rfl un_40 ty_3 (tmp_ev e13) (i := k) (tmp_ev e14) (SlAt.of_row (hS.ok_row 0 rfl)) (by decide) (by omega)) hS rfl), ?_⟩
    refine ⟨fun a w hA hS hd => by have e12 := has_ev (hd 12 (by decide)) rfl (fun _ h => h); have e15 := has_ev (hd 15 (by decide)) rfl (fun _ h => h); exact opG_yes rfl rfl e12 (dv (op_load1E rfl ty_3 (tmp_ev e15) (SlAt.of_row (hS.ok_row 0 rfl)) (ints_at (by omega))) hS rfl), ?_⟩
    refine ⟨fun a w hA hS hd => by have e12 := has_ev (hd 12 (by decide)) rfl (fun _ h => h); exact opG_yes rfl rfl e12 (dv (op_move rfl (hA.ev rfl)) hS rfl), ?_⟩
    refine ⟨fun a w hA hS hd => by have e12 := has_ev (hd 12 (by decide)) rfl (fun _ h => h); exact opG_yes rfl rfl e12 (dv (op_move rfl (hA.ev rfl)) hS rfl), ?_⟩
    refine ⟨fun a w hA hS hd => by have e12 := has_ev (hd 12 (by decide)) rfl (fun _ h => h); have e18 := has_ev (hd 18 (by decide)) rfl (fun _ h => h); exact opG_yes rfl rfl e12 (dv (op_sub rfl (tmp_ev e18) (evc _ _) (by omega) (by omega)) hS rfl), ?_⟩
    refine ⟨fun a w hA hS hd => by have e12 := has_ev (hd 12 (by decide)) rfl (fun _ h => h); have e17 := has_ev (hd 17 (by decide)) rfl (fun _ h => h); have e19 := has_ev (hd 19 (by decide)) rfl (fun _ h => h); exact opG_yes rfl rfl e12 (dv (op_indexS rfl un_40 ty_3 (tmp_ev e17) (i := ((k : Int) - 1).toNat) ((tmp_ev e19).trans (int_nat (by omega))) (SlAt.of_row (hS.ok_row 0 rfl)) (by decide) (by omega)) hS rfl), ?_⟩
    refine ⟨fun a w hA hS hd => by have e12 := has_ev (hd 12 (by decide)) rfl (fun _ h => h); have e20 := has_ev (hd 20 (by decide)) rfl (fun _ h => h); exact opG_yes rfl rfl e12 (dv (op_load1E rfl ty_3 (tmp_ev e20) (SlAt.of_row (hS.ok_row 0 rfl)) (ints_at (by omega))) hS rfl), ?_⟩
    trivial
   intro a106 w107 hA108 hS109 hH110; clear hA104 hS91
   have hA111 := hA108.add (has_ev (hH110 9 (by decide)) rfl (fun _ h => h)); clear hA108
   have hA112 := hA111.add (has_ev (hH110 12 (by decide)) rfl (fun _ h => h)); clear hA111
   have hA113 := hA112.add (has_ev (hH110 16 (by decide)) rfl (fun _ h => h)); clear hA112
   have hA114 := hA113.add (has_ev (hH110 21 (by decide)) rfl (fun _ h => h)); clear hA113
   clear hH110
   refine stg hA114 (op_leq rfl (hA114.ev rfl) (hA114.ev rfl)) rfl rfl rfl rfl (by decide) fun a115 hA116 => ?_; clear hA114 a106
   have hd117 : ¬ (((doubtF R rs).getD k 0) ≤ ((doubtF R rs).getD (((k : Int) - 1).toNat) 0)) := (by have hz_ := hdb.2.2 k (by omega) (by omega); rw [toNat_pred]; omega)
   rw [decide_eq_false hd117] at hA116
   refine stg hA116 (op_pick_t rfl (hA116.ev rfl) (hA116.ev rfl)) rfl rfl rfl rfl (by decide) fun a118 hA119 => ?_; clear hA116 a115
   refine st hA119 (op_pick_f rfl (hA119.ev rfl) (hA119.ev rfl)) rfl rfl (by decide) fun a120 hA121 => ?_; clear hA119 a118
   refine wl_nil ?_
   refine then_n ?_
   refine c_false hA121 rfl ?_
   refine c_skip ?_
   refine blk_n ?_
   refine then_n ?_
   have hA122 := hA121.as [(9, (Value.int .i64 (k : Int))), (7, u53), (3, (bptr b4 0)), (1, vu), (2, xl)] rfl; clear hA121
   refine c_region ?_
   refine st hA122 (op_move rfl (hA122.ev rfl)) rfl rfl (by decide) fun a123 hA124 => ?_; clear hA122 a120
   refine st hA124 (op_add rfl (hA124.ev rfl) (evc _ _) (by omega) (by omega)) rfl rfl (by decide) fun a125 hA126 => ?_; clear hA124 a123
   refine st hA126 (op_assign rfl (hA126.ev rfl)) rfl rfl (by decide) fun a127 hA128 => ?_; clear hA126 a125
   refine wl_nil ?_
   exact then_n ⟨k + 1, ⟨hA128.as _ rfl, hS109, by omega⟩, by omega⟩
  ·skip
   have hA129 := hA101.as [(9, (Value.int .i64 (k : Int))), (7, u53), (3, (bptr b4 0)), (1, vu), (2, xl)] rfl; clear hA101
   refine c_drawn mixed hA129 hS91 22 [[], [], [0, 1], [2], [], [4], [5], [3, 6], [7], [8], [9], [9, 10], [9, 11], [12], [12], [12, 13, 14], [12, 15], [12], [12], [12, 18], [12, 17, 19], [12, 20]] [(Yd.val u53), (Yd.val (Value.int .i64 (k : Int))), (Yd.val (eptr u53 (k * 1))), (Yd.val (Value.int .i64 ((doubtF R rs).getD k 0))), (Yd.val vu), (Yd.val (Value.int .i64 (rs.length : Int))), (Yd.val (Value.int .i64 ((rs.length : Int) - 1))), (Yd.val (Value.bool true)), (Yd.val (Value.bool (!true))), (Yd.val (Value.bool (!true))), (Yd.val (Value.int .i64 (k : Int))), (Yd.val (Value.bool false)), (Yd.val (Value.bool false)), (Yd.val undef), (Yd.val undef), (Yd.val undef), (Yd.val undef), (Yd.val undef), (Yd.val undef), (Yd.val undef), (Yd.val undef), (Yd.val undef)] (by decide +kernel) rfl rfl ?_ ?_
   ·skip
    refine ⟨fun a w hA hS hd => by exact opG_of rfl (dv (op_move rfl (hA.ev rfl)) hS rfl), ?_⟩
    refine ⟨fun a w hA hS hd => by exact opG_of rfl (dv (op_move rfl (hA.ev rfl)) hS rfl), ?_⟩
    refine ⟨fun a w hA hS hd => by have e0 := has_ev (hd 0 (by decide)) rfl (fun _ h => h); have e1 := has_ev (hd 1 (by decide)) rfl (fun _ h => h); exact opG_of rfl (dv (op_indexS rfl un_40 ty_3 (tmp_ev e0) (i := k) (tmp_ev e1) (SlAt.of_row (hS.ok_row 0 rfl)) (by decide) (by omega)) hS rfl), ?_⟩
    refine ⟨fun a w hA hS hd => by have e2 := has_ev (hd 2 (by decide)) rfl (fun _ h => h); exact opG_of rfl (dv (op_load1E rfl ty_3 (tmp_ev e2) (SlAt.of_row (hS.ok_row 0 rfl)) (ints_at (by omega))) hS rfl), ?_⟩
    refine ⟨fun a w hA hS hd => by exact opG_of rfl (dv (op_move rfl (hA.ev rfl)) hS rfl), ?_⟩
    refine ⟨fun a w hA hS hd => by have e4 := has_ev (hd 4 (by decide)) rfl (fun _ h => h); exact opG_of rfl (dv (op_lenS rfl un_25 (tmp_ev e4) (runs_at (hS.ok 6 _ rfl)).runs) hS rfl), ?_⟩
    refine ⟨fun a w hA hS hd => by have e5 := has_ev (hd 5 (by decide)) rfl (fun _ h => h); exact opG_of rfl (dv (op_sub rfl (tmp_ev e5) (evc _ _) (by omega) (by omega)) hS rfl), ?_⟩
    refine ⟨fun a w hA hS hd => by have e3 := has_ev (hd 3 (by decide)) rfl (fun _ h => h); have e6 := has_ev (hd 6 (by decide)) rfl (fun _ h => h); exact opG_of rfl (dv (op_call rfl en_24 (ev3 (tmp_ev e3) (evc _ _) (tmp_ev e6)) (In_ok _ _ _ _)) hS (by show Value.bool _ = _; simp only [(show (decide (0 ≤ ((doubtF R rs).getD k 0)) && decide (((doubtF R rs).getD k 0) ≤ ((rs.length : Int) - 1))) = true from (by simp only [Bool.and_eq_true, decide_eq_true_eq]; omega)), decide_true, decide_false, Bool.not_true, Bool.not_false])), ?_⟩
    refine ⟨fun a w hA hS hd => by have e7 := has_ev (hd 7 (by decide)) rfl (fun _ h => h); exact opG_of rfl (dv (op_not rfl (tmp_ev e7)) hS rfl), ?_⟩
    refine ⟨fun a w hA hS hd => by have e8 := has_ev (hd 8 (by decide)) rfl (fun _ h => h); exact opG_of rfl (dv (op_move rfl (tmp_ev e8)) hS rfl), ?_⟩
    refine ⟨fun a w hA hS hd => by have e9 := has_ev (hd 9 (by decide)) rfl (fun _ h => h); exact opG_yes rfl rfl e9 (dv (op_move rfl (hA.ev rfl)) hS rfl), ?_⟩
    refine ⟨fun a w hA hS hd => by have e9 := has_ev (hd 9 (by decide)) rfl (fun _ h => h); have e10 := has_ev (hd 10 (by decide)) rfl (fun _ h => h); exact opG_yes rfl rfl e9 (dv (op_gtr rfl (tmp_ev e10) (evc _ _)) hS (by show Value.bool _ = _; simp only [decide_eq_false hb103, decide_true, decide_false, Bool.not_true, Bool.not_false])), ?_⟩
    refine ⟨fun a w hA hS hd => by have e9 := has_ev (hd 9 (by decide)) rfl (fun _ h => h); have e11 := has_ev (hd 11 (by decide)) rfl (fun _ h => h); exact opG_yes rfl rfl e9 (dv (op_move rfl (tmp_ev e11)) hS rfl), ?_⟩
    refine ⟨fun a w hA hS hd => by have e12 := has_ev (hd 12 (by decide)) rfl (fun _ h => h); exact opG_no rfl rfl e12 rfl (dskip hS rfl), ?_⟩
    refine ⟨fun a w hA hS hd => by have e12 := has_ev (hd 12 (by decide)) rfl (fun _ h => h); exact opG_no rfl rfl e12 rfl (dskip hS rfl), ?_⟩
    refine ⟨fun a w hA hS hd => by have e12 := has_ev (hd 12 (by decide)) rfl (fun _ h => h); have e13 := has_ev (hd 13 (by decide)) rfl (fun _ h => h); have e14 := has_ev (hd 14 (by decide)) rfl (fun _ h => h); exact opG_no rfl rfl e12 rfl (dskip hS rfl), ?_⟩
    refine ⟨fun a w hA hS hd => by have e12 := has_ev (hd 12 (by decide)) rfl (fun _ h => h); have e15 := has_ev (hd 15 (by decide)) rfl (fun _ h => h); exact opG_no rfl rfl e12 rfl (dskip hS rfl), ?_⟩
    refine ⟨fun a w hA hS hd => by have e12 := has_ev (hd 12 (by decide)) rfl (fun _ h => h); exact opG_no rfl rfl e12 rfl (dskip hS rfl), ?_⟩
    refine ⟨fun a w hA hS hd => by have e12 := has_ev (hd 12 (by decide)) rfl (fun _ h => h); exact opG_no rfl rfl e12 rfl (dskip hS rfl), ?_⟩
    refine ⟨fun a w hA hS hd => by have e12 := has_ev (hd 12 (by decide)) rfl (fun _ h => h); have e18 := has_ev (hd 18 (by decide)) rfl (fun _ h => h); exact opG_no rfl rfl e12 rfl (dskip hS rfl), ?_⟩
    refine ⟨fun a w hA hS hd => by have e12 := has_ev (hd 12 (by decide)) rfl (fun _ h => h); have e17 := has_ev (hd 17 (by decide)) rfl (fun _ h => h); have e19 := has_ev (hd 19 (by decide)) rfl (fun _ h => h); exact opG_no rfl rfl e12 rfl (dskip hS rfl), ?_⟩
    refine ⟨fun a w hA hS hd => by have e12 := has_ev (hd 12 (by decide)) rfl (fun _ h => h); have e20 := has_ev (hd 20 (by decide)) rfl (fun _ h => h); exact opG_no rfl rfl e12 rfl (dskip hS rfl), ?_⟩
    trivial
   intro a131 w132 hA133 hS134 hH135; clear hA129 hS91
   have hA136 := hA133.add (has_ev (hH135 9 (by decide)) rfl (fun _ h => h)); clear hA133
   have hA137 := hA136.add (has_ev (hH135 12 (by decide)) rfl (fun _ h => h)); clear hA136
   have hA138 := hA137.add (has_ev (hH135 16 (by decide)) rfl (fun _ h => h)); clear hA137
   have hA139 := hA138.add (has_ev (hH135 21 (by decide)) rfl (fun _ h => h)); clear hA138
   clear hH135
   refine skp hA139 rfl rfl rfl rfl rfl (by decide) fun a140 hA141 => ?_; clear hA139 a131
   refine stg hA141 (op_pick_f rfl (hA141.ev rfl) (evc _ _)) rfl rfl rfl rfl (by decide) fun a142 hA143 => ?_; clear hA141 a140
   refine st hA143 (op_pick_f rfl (hA143.ev rfl) (hA143.ev rfl)) rfl rfl (by decide) fun a144 hA145 => ?_; clear hA143 a142
   refine wl_nil ?_
   refine then_n ?_
   refine c_false hA145 rfl ?_
   refine c_skip ?_
   refine blk_n ?_
   refine then_n ?_
   have hA146 := hA145.as [(9, (Value.int .i64 (k : Int))), (7, u53), (3, (bptr b4 0)), (1, vu), (2, xl)] rfl; clear hA145
   refine c_region ?_
   refine st hA146 (op_move rfl (hA146.ev rfl)) rfl rfl (by decide) fun a147 hA148 => ?_; clear hA146 a144
   refine st hA148 (op_add rfl (hA148.ev rfl) (evc _ _) (by omega) (by omega)) rfl rfl (by decide) fun a149 hA150 => ?_; clear hA148 a147
   refine st hA150 (op_assign rfl (hA150.ev rfl)) rfl rfl (by decide) fun a151 hA152 => ?_; clear hA150 a149
   refine wl_nil ?_
   exact then_n ⟨k + 1, ⟨hA152.as _ rfl, hS134, by omega⟩, by omega⟩
 ·skip
  rw [decide_eq_false hb100] at hA99
  refine c_false hA99 rfl ?_
  refine c_exit ?_
  refine then_exit ?_
  refine then_exit ?_
  refine blk_hit ?_
  refine then_n ?_
  refine c_seq ?_
  refine c_region ?_
  refine st hA99 (op_loadA rfl ty_24 (hA99.ev rfl) (hS91.bk 3 rfl) (l := [vr]) rfl rfl) rfl rfl (by decide) fun a153 hA154 => ?_; clear hA99 a98
  refine stw hA154 (op_call rfl en_19 (ev1 (hA154.ev rfl)) (Material_ok _ R _ (hS91.sk 5 rfl) hth.mat)) rfl rfl (by decide) ?_
  rintro a155 _ w157 ⟨u160, rfl, hT158⟩ hA156; have hS159 := hS91.callS hT158 rfl; clear hT158 hA154 hS91 a153
  refine st hA156 (op_move rfl (hA156.ev rfl)) rfl rfl (by decide) fun a161 hA162 => ?_; clear hA156 a155
  refine stw hA162 (op_call rfl en_20 (ev1 (hA162.ev rfl)) (Runs_ok _ rs _ _ (runs_at (hS159.ok 7 _ rfl)) h9 hth.segs)) rfl rfl (by decide) ?_
  rintro a163 v168 w165 ⟨lv169, hT166⟩ hA164; have hS167 := hS159.callS hT166 rfl; clear hT166 hA162 hS159 a161
  refine stw hA164 (op_call rfl en_18 (ev2 (hA164.ev rfl) (hA164.ev rfl)) (rates_ok R rs lv169 u160 v168 _ (SlAt.of_row (hS167.ok_row 1 rfl)) (runs_at (hS167.ok 0 _ rfl)) (by omega) (by omega) hc)) rfl rfl (by decide) ?_
  rintro a170 _ w172 ⟨u175, rfl, hT173⟩ hA171
  have hS174 : Sep NoB w w172 [(row u175 42 2 R.length (pairs (ratesF R rs))), (runsR true v168 lv169 rs), (row u160 42 2 R.length (pairs R)), (row u53 3 1 ((doubtF R rs).length) (ints (doubtF R rs))), (runsR true v46 lv47 rs), (row u38 42 2 R.length (pairs R)), (blk b4 24 [vr]), (sl xl 1 l.length (ints l)), (sl vr 2 R.length (pairs R)), (runsR false vu lv rs)] := hS167.callS hT173 rfl; clear hT173 hA164 hS167 a163
  refine st hA171 (op_move rfl (hA171.ev rfl)) rfl rfl (by decide) fun a176 hA177 => ?_; clear hA171 a170
  refine st hA177 (op_extract rfl (hA177.ev rfl) rfl) rfl rfl (by decide) fun a178 hA179 => ?_; clear hA177 a176
  refine st hA179 (op_extract rfl (hA179.ev rfl) rfl) rfl rfl (by decide) fun a180 hA181 => ?_; clear hA179 a178
  refine st hA181 (op_extract rfl (hA181.ev rfl) rfl) rfl rfl (by decide) fun a182 hA183 => ?_; clear hA181 a180
  refine st hA183 (op_assign rfl (hA183.ev rfl)) rfl rfl (by decide) fun a184 hA185 => ?_; clear hA183 a182
  refine st hA185 (op_assign rfl (hA185.ev rfl)) rfl rfl (by decide) fun a186 hA187 => ?_; clear hA185 a184
  refine st hA187 (op_assign rfl (hA187.ev rfl)) rfl rfl (by decide) fun a188 hA189 => ?_; clear hA187 a186
  refine wl_nil ?_
  refine then_n ?_
  refine c_seq ?_
  have hA190 := hA189.as [(12, (Value.int .i64 0)), (7, u53), (3, (bptr b4 0)), (1, vu), (2, xl)] rfl; clear hA189
  refine c_region ?_
  refine st hA190 (op_loadA rfl ty_24 (hA190.ev rfl) (hS174.bk 6 rfl) (l := [vr]) rfl rfl) rfl rfl (by decide) fun a191 hA192 => ?_; clear hA190 a188
  refine stw hA192 (op_call rfl en_19 (ev1 (hA192.ev rfl)) (Material_ok _ R _ (hS174.sk 8 rfl) hth.mat)) rfl rfl (by decide) ?_
  rintro a193 _ w195 ⟨u198, rfl, hT196⟩ hA194; have hS197 := hS174.callS hT196 rfl; clear hT196 hA192 hS174 a191
  refine st hA194 (op_move rfl (hA194.ev rfl)) rfl rfl (by decide) fun a199 hA200 => ?_; clear hA194 a193
  refine st hA200 (op_move rfl (hA200.ev rfl)) rfl rfl (by decide) fun a201 hA202 => ?_; clear hA200 a199
  refine stw hA202 (op_call rfl en_46 (ev2 (hA202.ev rfl) (hA202.ev rfl)) (Without_ok _ rs _ _ (runs_at (hS197.ok 10 _ rfl)) (doubtF R rs) _ (SlAt.of_row (hS197.ok_row 4 rfl)) (by omega) (by omega))) rfl rfl (by decide) ?_
  rintro a203 v209 w205 ⟨hE206, hO207⟩ hA204; have hS208 := hS197.new_row hE206 hO207; clear hE206 hO207 hA202 hS197 a201
  have hS210 : Sep NoB w w205 (segsR false (woV lv rs.length (doubtF R rs)) (woF rs (doubtF R rs)) :: [(row v209 54 3 ((woF rs (doubtF R rs)).length) (vtrips (runV (woV lv rs.length (doubtF R rs)) (woF rs (doubtF R rs))))), (row u198 42 2 R.length (pairs R)), (row u175 42 2 R.length (pairs (ratesF R rs))), (runsR true v168 lv169 rs), (row u160 42 2 R.length (pairs R)), (row u53 3 1 ((doubtF R rs).length) (ints (doubtF R rs))), (runsR true v46 lv47 rs), (row u38 42 2 R.length (pairs R)), (blk b4 24 [vr]), (sl xl 1 l.length (ints l)), (sl vr 2 R.length (pairs R)), (runsR false vu lv rs)]) := hS208.segs_sel (woSel (doubtF R rs) rs.length) (i := 11) rfl (fun _ h => woSel_lt h); clear hS208
  have hS211 : Sep NoB w w205 [(row v209 54 3 ((woF rs (doubtF R rs)).length) (vtrips (runV (woV lv rs.length (doubtF R rs)) (woF rs (doubtF R rs))))), (segsR false (woV lv rs.length (doubtF R rs)) (woF rs (doubtF R rs))), (row u198 42 2 R.length (pairs R)), (row u175 42 2 R.length (pairs (ratesF R rs))), (runsR true v168 lv169 rs), (row u160 42 2 R.length (pairs R)), (row u53 3 1 ((doubtF R rs).length) (ints (doubtF R rs))), (runsR true v46 lv47 rs), (row u38 42 2 R.length (pairs R)), (blk b4 24 [vr]), (sl xl 1 l.length (ints l)), (sl vr 2 R.length (pairs R)), (runsR false vu lv rs)] := hS210.keep [1, 0, 2, 3, 4, 5, 6, 7, 8, 9, 10, 11, 12] (by decide) _ rfl rfl; clear hS210
  have hS212 := hS211.runs_ro rfl; clear hS211
  refine stw hA204 (op_call rfl en_20 (ev1 (hA204.ev rfl)) (Runs_ok _ (woF rs (doubtF R rs)) _ _ (runs_at (hS212.ok 0 _ rfl)) (by have := wo_len rs (doubtF R rs); omega) (wo_segs hth.segs))) rfl rfl (by decide) ?_
  rintro a213 v218 w215 ⟨lv219, hT216⟩ hA214; have hS217 := hS212.callS hT216 rfl; clear hT216 hA204 hS212 a203
  refine stw hA214 (op_call rfl en_18 (ev2 (hA214.ev rfl) (hA214.ev rfl)) (rates_ok R (woF rs (doubtF R rs)) lv219 u198 v218 _ (SlAt.of_row (hS217.ok_row 2 rfl)) (runs_at (hS217.ok 0 _ rfl)) (by omega) (by omega) hg)) rfl rfl (by decide) ?_
  rintro a220 _ w222 ⟨u225, rfl, hT223⟩ hA221
  have hS224 : Sep NoB w w222 [(row u225 42 2 R.length (pairs (ratesF R (woF rs (doubtF R rs))))), (runsR true v218 lv219 (woF rs (doubtF R rs))), (runsR false v209 (woV lv rs.length (doubtF R rs)) (woF rs (doubtF R rs))), (row u198 42 2 R.length (pairs R)), (row u175 42 2 R.length (pairs (ratesF R rs))), (runsR true v168 lv169 rs), (row u160 42 2 R.length (pairs R)), (row u53 3 1 ((doubtF R rs).length) (ints (doubtF R rs))), (runsR true v46 lv47 rs), (row u38 42 2 R.length (pairs R)), (blk b4 24 [vr]), (sl xl 1 l.length (ints l)), (sl vr 2 R.length (pairs R)), (runsR false vu lv rs)] := hS217.callS hT223 rfl; clear hT223 hA214 hS217 a213
  refine st hA221 (op_move rfl (hA221.ev rfl)) rfl rfl (by decide) fun a226 hA227 => ?_; clear hA221 a220
  refine st hA227 (op_extract rfl (hA227.ev rfl) rfl) rfl rfl (by decide) fun a228 hA229 => ?_; clear hA227 a226
  refine st hA229 (op_extract rfl (hA229.ev rfl) rfl) rfl rfl (by decide) fun a230 hA231 => ?_; clear hA229 a228
  refine st hA231 (op_extract rfl (hA231.ev rfl) rfl) rfl rfl (by decide) fun a232 hA233 => ?_; clear hA231 a230
  refine st hA233 (op_assign rfl (hA233.ev rfl)) rfl rfl (by decide) fun a234 hA235 => ?_; clear hA233 a232
  refine st hA235 (op_assign rfl (hA235.ev rfl)) rfl rfl (by decide) fun a236 hA237 => ?_; clear hA235 a234
  refine st hA237 (op_assign rfl (hA237.ev rfl)) rfl rfl (by decide) fun a238 hA239 => ?_; clear hA237 a236
  refine wl_nil ?_
  refine then_n ?_
  refine c_seq ?_
  have hA240 := hA239.as [(15, (Value.int .i64 0)), (12, (Value.int .i64 0)), (7, u53), (3, (bptr b4 0)), (1, vu), (2, xl)] rfl; clear hA239
  refine c_region ?_
  refine st hA240 (op_loadA rfl ty_24 (hA240.ev rfl) (hS224.bk 10 rfl) (l := [vr]) rfl rfl) rfl rfl (by decide) fun a241 hA242 => ?_; clear hA240 a238
  refine stw hA242 (op_call rfl en_19 (ev1 (hA242.ev rfl)) (Material_ok _ R _ (hS224.sk 12 rfl) hth.mat)) rfl rfl (by decide) ?_
  rintro a243 _ w245 ⟨u248, rfl, hT246⟩ hA244; have hS247 := hS224.callS hT246 rfl; clear hT246 hA242 hS224 a241
  refine st hA244 (op_move rfl (hA244.ev rfl)) rfl rfl (by decide) fun a249 hA250 => ?_; clear hA244 a243
  refine st hA250 (op_move rfl (hA250.ev rfl)) rfl rfl (by decide) fun a251 hA252 => ?_; clear hA250 a249
  refine stw hA252 (op_call rfl en_46 (ev2 (hA252.ev rfl) (hA252.ev rfl)) (Without_ok _ rs _ _ (runs_at (hS247.ok 14 _ rfl)) l _ (hS247.sk 12 rfl) (by omega) (by omega))) rfl rfl (by decide) ?_
  rintro a253 v259 w255 ⟨hE256, hO257⟩ hA254; have hS258 := hS247.new_row hE256 hO257; clear hE256 hO257 hA252 hS247 a251
  have hS260 : Sep NoB w w255 (segsR false (woV lv rs.length l) (woF rs l) :: [(row v259 54 3 ((woF rs l).length) (vtrips (runV (woV lv rs.length l) (woF rs l)))), (row u248 42 2 R.length (pairs R)), (row u225 42 2 R.length (pairs (ratesF R (woF rs (doubtF R rs))))), (runsR true v218 lv219 (woF rs (doubtF R rs))), (runsR false v209 (woV lv rs.length (doubtF R rs)) (woF rs (doubtF R rs))), (row u198 42 2 R.length (pairs R)), (row u175 42 2 R.length (pairs (ratesF R rs))), (runsR true v168 lv169 rs), (row u160 42 2 R.length (pairs R)), (row u53 3 1 ((doubtF R rs).length) (ints (doubtF R rs))), (runsR true v46 lv47 rs), (row u38 42 2 R.length (pairs R)), (blk b4 24 [vr]), (sl xl 1 l.length (ints l)), (sl vr 2 R.length (pairs R)), (runsR false vu lv rs)]) := hS258.segs_sel (woSel l rs.length) (i := 15) rfl (fun _ h => woSel_lt h); clear hS258
  have hS261 : Sep NoB w w255 [(row v259 54 3 ((woF rs l).length) (vtrips (runV (woV lv rs.length l) (woF rs l)))), (segsR false (woV lv rs.length l) (woF rs l)), (row u248 42 2 R.length (pairs R)), (row u225 42 2 R.length (pairs (ratesF R (woF rs (doubtF R rs))))), (runsR true v218 lv219 (woF rs (doubtF R rs))), (runsR false v209 (woV lv rs.length (doubtF R rs)) (woF rs (doubtF R rs))), (row u198 42 2 R.length (pairs R)), (row u175 42 2 R.length (pairs (ratesF R rs))), (runsR true v168 lv169 rs), (row u160 42 2 R.length (pairs R)), (row u53 3 1 ((doubtF R rs).length) (ints (doubtF R rs))), (runsR true v46 lv47 rs), (row u38 42 2 R.length (pairs R)), (blk b4 24 [vr]), (sl xl 1 l.length (ints l)), (sl vr 2 R.length (pairs R)), (runsR false vu lv rs)] := hS260.keep [1, 0, 2, 3, 4, 5, 6, 7, 8, 9, 10, 11, 12, 13, 14, 15, 16] (by decide) _ rfl rfl; clear hS260
  have hS262 := hS261.runs_ro rfl; clear hS261
  refine stw hA254 (op_call rfl en_20 (ev1 (hA254.ev rfl)) (Runs_ok _ (woF rs l) _ _ (runs_at (hS262.ok 0 _ rfl)) (by have := wo_len rs l; omega) (wo_segs hth.segs))) rfl rfl (by decide) ?_
  rintro a263 v268 w265 ⟨lv269, hT266⟩ hA264; have hS267 := hS262.callS hT266 rfl; clear hT266 hA254 hS262 a253
  refine stw hA264 (op_call rfl en_18 (ev2 (hA264.ev rfl) (hA264.ev rfl)) (rates_ok R (woF rs l) lv269 u248 v268 _ (SlAt.of_row (hS267.ok_row 2 rfl)) (runs_at (hS267.ok 0 _ rfl)) (by omega) (by omega) hn)) rfl rfl (by decide) ?_
  rintro a270 _ w272 ⟨u275, rfl, hT273⟩ hA271
  have hS274 : Sep NoB w w272 [(row u275 42 2 R.length (pairs (ratesF R (woF rs l)))), (runsR true v268 lv269 (woF rs l)), (runsR false v259 (woV lv rs.length l) (woF rs l)), (row u248 42 2 R.length (pairs R)), (row u225 42 2 R.length (pairs (ratesF R (woF rs (doubtF R rs))))), (runsR true v218 lv219 (woF rs (doubtF R rs))), (runsR false v209 (woV lv rs.length (doubtF R rs)) (woF rs (doubtF R rs))), (row u198 42 2 R.length (pairs R)), (row u175 42 2 R.length (pairs (ratesF R rs))), (runsR true v168 lv169 rs), (row u160 42 2 R.length (pairs R)), (row u53 3 1 ((doubtF R rs).length) (ints (doubtF R rs))), (runsR true v46 lv47 rs), (row u38 42 2 R.length (pairs R)), (blk b4 24 [vr]), (sl xl 1 l.length (ints l)), (sl vr 2 R.length (pairs R)), (runsR false vu lv rs)] := hS267.callS hT273 rfl; clear hT273 hA264 hS267 a263
  refine st hA271 (op_move rfl (hA271.ev rfl)) rfl rfl (by decide) fun a276 hA277 => ?_; clear hA271 a270
  refine st hA277 (op_extract rfl (hA277.ev rfl) rfl) rfl rfl (by decide) fun a278 hA279 => ?_; clear hA277 a276
  refine st hA279 (op_extract rfl (hA279.ev rfl) rfl) rfl rfl (by decide) fun a280 hA281 => ?_; clear hA279 a278
  refine st hA281 (op_extract rfl (hA281.ev rfl) rfl) rfl rfl (by decide) fun a282 hA283 => ?_; clear hA281 a280
  refine st hA283 (op_assign rfl (hA283.ev rfl)) rfl rfl (by decide) fun a284 hA285 => ?_; clear hA283 a282
  refine st hA285 (op_assign rfl (hA285.ev rfl)) rfl rfl (by decide) fun a286 hA287 => ?_; clear hA285 a284
  refine st hA287 (op_assign rfl (hA287.ev rfl)) rfl rfl (by decide) fun a288 hA289 => ?_; clear hA287 a286
  refine wl_nil ?_
  refine then_n ?_
  refine c_seq ?_
  have hA290 := hA289.as [(18, (Value.int .i64 0)), (15, (Value.int .i64 0)), (12, (Value.int .i64 0)), (7, u53), (1, vu), (2, xl)] rfl; clear hA289
  refine c_region ?_
  refine st hA290 (op_move rfl (hA290.ev rfl)) rfl rfl (by decide) fun a291 hA292 => ?_; clear hA290 a288
  refine st hA292 (op_lenS rfl un_25 (hA292.ev rfl) (runs_at (hS274.ok 17 _ rfl)).runs) rfl rfl (by decide) fun a293 hA294 => ?_; clear hA292 a291
  refine st hA294 (op_move rfl (hA294.ev rfl)) rfl rfl (by decide) fun a295 hA296 => ?_; clear hA294 a293
  refine st hA296 (op_move rfl (hA296.ev rfl)) rfl rfl (by decide) fun a297 hA298 => ?_; clear hA296 a295
  refine stw hA298 (op_call rfl en_46 (ev2 (hA298.ev rfl) (hA298.ev rfl)) (Without_ok _ rs _ _ (runs_at (hS274.ok 17 _ rfl)) l _ (hS274.sk 15 rfl) (by omega) (by omega))) rfl rfl (by decide) ?_
  rintro a299 v305 w301 ⟨hE302, hO303⟩ hA300; have hS304 := hS274.new_row hE302 hO303; clear hE302 hO303 hA298 hS274 a297
  have hS306 : Sep NoB w w301 (segsR false (woV lv rs.length l) (woF rs l) :: [(row v305 54 3 ((woF rs l).length) (vtrips (runV (woV lv rs.length l) (woF rs l)))), (row u275 42 2 R.length (pairs (ratesF R (woF rs l)))), (runsR true v268 lv269 (woF rs l)), (runsR false v259 (woV lv rs.length l) (woF rs l)), (row u248 42 2 R.length (pairs R)), (row u225 42 2 R.length (pairs (ratesF R (woF rs (doubtF R rs))))), (runsR true v218 lv219 (woF rs (doubtF R rs))), (runsR false v209 (woV lv rs.length (doubtF R rs)) (woF rs (doubtF R rs))), (row u198 42 2 R.length (pairs R)), (row u175 42 2 R.length (pairs (ratesF R rs))), (runsR true v168 lv169 rs), (row u160 42 2 R.length (pairs R)), (row u53 3 1 ((doubtF R rs).length) (ints (doubtF R rs))), (runsR true v46 lv47 rs), (row u38 42 2 R.length (pairs R)), (blk b4 24 [vr]), (sl xl 1 l.length (ints l)), (sl vr 2 R.length (pairs R)), (runsR false vu lv rs)]) := hS304.segs_sel (woSel l rs.length) (i := 18) rfl (fun _ h => woSel_lt h); clear hS304
  have hS307 : Sep NoB w w301 [(row v305 54 3 ((woF rs l).length) (vtrips (runV (woV lv rs.length l) (woF rs l)))), (segsR false (woV lv rs.length l) (woF rs l)), (row u275 42 2 R.length (pairs (ratesF R (woF rs l)))), (runsR true v268 lv269 (woF rs l)), (runsR false v259 (woV lv rs.length l) (woF rs l)), (row u248 42 2 R.length (pairs R)), (row u225 42 2 R.length (pairs (ratesF R (woF rs (doubtF R rs))))), (runsR true v218 lv219 (woF rs (doubtF R rs))), (runsR false v209 (woV lv rs.length (doubtF R rs)) (woF rs (doubtF R rs))), (row u198 42 2 R.length (pairs R)), (row u175 42 2 R.length (pairs (ratesF R rs))), (runsR true v168 lv169 rs), (row u160 42 2 R.length (pairs R)), (row u53 3 1 ((doubtF R rs).length) (ints (doubtF R rs))), (runsR true v46 lv47 rs), (row u38 42 2 R.length (pairs R)), (blk b4 24 [vr]), (sl xl 1 l.length (ints l)), (sl vr 2 R.length (pairs R)), (runsR false vu lv rs)] := hS306.keep [1, 0, 2, 3, 4, 5, 6, 7, 8, 9, 10, 11, 12, 13, 14, 15, 16, 17, 18, 19] (by decide) _ rfl rfl; clear hS306
  have hS308 := hS307.runs_ro rfl; clear hS307
  refine st hA300 (op_lenS rfl un_25 (hA300.ev rfl) (runs_at (hS308.ok 0 _ rfl)).runs) rfl rfl (by decide) fun a309 hA310 => ?_; clear hA300 a299
  refine st hA310 (op_sub rfl (hA310.ev rfl) (hA310.ev rfl) (by omega) (by omega)) rfl rfl (by decide) fun a311 hA312 => ?_; clear hA310 a309
  refine st hA312 (op_assign rfl (hA312.ev rfl)) rfl rfl (by decide) fun a313 hA314 => ?_; clear hA312 a311
  refine wl_nil ?_
  refine then_n ?_
  refine c_seq ?_
  have hA315 := hA314.as [(19, (Value.int .i64 ((rs.length : Int) - ((woF rs l).length : Int)))), (18, (Value.int .i64 0)), (15, (Value.int .i64 0)), (12, (Value.int .i64 0)), (7, u53)] rfl; clear hA314
  refine c_region ?_
  refine st hA315 (op_move rfl (hA315.ev rfl)) rfl rfl (by decide) fun a316 hA317 => ?_; clear hA315 a313
  refine st hA317 (op_eql rfl (hA317.ev rfl) (evc _ _)) rfl rfl (by decide) fun a318 hA319 => ?_; clear hA317 a316
  refine st hA319 (op_move rfl (hA319.ev rfl)) rfl rfl (by decide) fun a320 hA321 => ?_; clear hA319 a318
  refine st hA321 (op_lenS rfl un_40 (hA321.ev rfl) (SlAt.of_row (hS308.ok_row 12 rfl))) rfl rfl (by decide) fun a322 hA323 => ?_; clear hA321 a320
  refine st hA323 (op_eql rfl (hA323.ev rfl) (evc _ _)) rfl rfl (by decide) fun a324 hA325 => ?_; clear hA323 a322
  have hd326 : ((doubtF R rs).length : Int) = 0 := (by omega)
  rw [decide_eq_true hd326] at hA325
  refine st hA325 (op_eqlB un_4 rfl (hA325.ev rfl) (hA325.ev rfl)) rfl rfl (by decide) fun a327 hA328 => ?_; clear hA325 a324
  refine st hA328 (op_move rfl (hA328.ev rfl)) rfl rfl (by decide) fun a329 hA330 => ?_; clear hA328 a327
  refine stg hA330 (op_move rfl (hA330.ev rfl)) rfl rfl rfl rfl (by decide) fun a331 hA332 => ?_; clear hA330 a329
  refine stg hA332 (op_eql rfl (hA332.ev rfl) (evc _ _)) rfl rfl rfl rfl (by decide) fun a333 hA334 => ?_; clear hA332 a331
  refine st hA334 (op_pick_t rfl (hA334.ev rfl) (hA334.ev rfl)) rfl rfl (by decide) fun a335 hA336 => ?_; clear hA334 a333
  refine st hA336 (op_move rfl (hA336.ev rfl)) rfl rfl (by decide) fun a337 hA338 => ?_; clear hA336 a335
  refine stg hA338 (op_move rfl (hA338.ev rfl)) rfl rfl rfl rfl (by decide) fun a339 hA340 => ?_; clear hA338 a337
  refine stg hA340 (op_eql rfl (hA340.ev rfl) (evc _ _)) rfl rfl rfl rfl (by decide) fun a341 hA342 => ?_; clear hA340 a339
  refine stg hA342 (op_move rfl (hA342.ev rfl)) rfl rfl rfl rfl (by decide) fun a343 hA344 => ?_; clear hA342 a341
  refine stg hA344 (op_move rfl (hA344.ev rfl)) rfl rfl rfl rfl (by decide) fun a345 hA346 => ?_; clear hA344 a343
  refine stg hA346 (op_eql rfl (hA346.ev rfl) (evc _ _)) rfl rfl rfl rfl (by decide) fun a347 hA348 => ?_; clear hA346 a345
  refine stg hA348 (op_move rfl (hA348.ev rfl)) rfl rfl rfl rfl (by decide) fun a349 hA350 => ?_; clear hA348 a347
  refine stg hA350 (op_move rfl (hA350.ev rfl)) rfl rfl rfl rfl (by decide) fun a351 hA352 => ?_; clear hA350 a349
  refine stg hA352 (op_move rfl (hA352.ev rfl)) rfl rfl rfl rfl (by decide) fun a353 hA354 => ?_; clear hA352 a351
  refine stg hA354 (op_lenS rfl un_40 (hA354.ev rfl) (SlAt.of_row (hS308.ok_row 12 rfl))) rfl rfl rfl rfl (by decide) fun a355 hA356 => ?_; clear hA354 a353
  refine stg hA356 (op_geq rfl (hA356.ev rfl) (hA356.ev rfl)) rfl rfl rfl rfl (by decide) fun a357 hA358 => ?_; clear hA356 a355
  have hd359 : ((doubtF R rs).length : Int) ≤ ((rs.length : Int) - ((woF rs l).length : Int)) := (by omega)
  rw [decide_eq_true hd359] at hA358
  refine stg hA358 (op_pick_t rfl (hA358.ev rfl) (hA358.ev rfl)) rfl rfl rfl rfl (by decide) fun a360 hA361 => ?_; clear hA358 a357
  refine stg hA361 (op_pick_f rfl (hA361.ev rfl) (hA361.ev rfl)) rfl rfl rfl rfl (by decide) fun a362 hA363 => ?_; clear hA361 a360
  refine st hA363 (op_pick_t rfl (hA363.ev rfl) (hA363.ev rfl)) rfl rfl (by decide) fun a364 hA365 => ?_; clear hA363 a362
  refine st hA365 (op_move rfl (hA365.ev rfl)) rfl rfl (by decide) fun a366 hA367 => ?_; clear hA365 a364
  refine stwg hA367 (op_call rfl en_17 ev0 (awake_ok _)) rfl rfl rfl rfl (by decide) ?_
  rintro a368 _ w370 ⟨rfl, hE371⟩ hA369; have hS372 := hS308.step hE371; clear hE371 hA367 hS308 a366
  refine st hA369 (op_pick_t rfl (hA369.ev rfl) (hA369.ev rfl)) rfl rfl (by decide) fun a373 hA374 => ?_; clear hA369 a368
  refine st hA374 (op_assign rfl (hA374.ev rfl)) rfl rfl (by decide) fun a375 hA376 => ?_; clear hA374 a373
  refine wl_nil ?_
  refine then_n ?_
  refine c_ret ?_
  refine fin_run hA376 (.inl rfl) (run_results1 hA376 rfl (.tmp rfl)) ?_
  exact ⟨rfl, hS372.ext⟩
theorem CreepDoubtful_ok (w : World) (R : List (Int × Int)) (vr : Value) (hm : SlAt w vr 2 R.length (pairs R)) (rs : List RunD) (lv : List Value) (vu : Value) (hx : RunsAt w vu lv rs) (l : List Int) (xl : Value) (hxl : SlAt w xl 1 l.length (ints l)) : Calls Try.prog 13 #[.agg #[vr], vu, xl] w (Ret fun v w' => v = .bool true ∧ Ext NoB w w') := by
 rcases Bool.eq_false_or_eq_true (readyB R rs []) with hf | hf
 ·by_cases hl : l.length ≤ 9
  ·have he := (ready_is hf).2.1
   rcases poss_09 he with hc | hc <;> rcases poss_09 (wo_enter (l := l) he) with hn | hn
   ·exact CreepDoubtful_e w R vr hm rs lv vu hx l xl hxl hf hl hc hn
   ·exact CreepDoubtful_d w R vr hm rs lv vu hx l xl hxl hf hl hc hn
   ·exact CreepDoubtful_c w R vr hm rs lv vu hx l xl hxl hf hl hc hn
   ·exact CreepDoubtful_b w R vr hm rs lv vu hx l xl hxl hf hl hc hn
  ·exact CreepDoubtful_z w R vr hm rs lv vu hx l xl hxl hf hl
 ·exact CreepDoubtful_a w R vr hm rs lv vu hx l xl hxl hf
end Go.Proofs.Ytkkglkdnnfegkaa
