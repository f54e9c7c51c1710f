/-
  Walks through the functions of the seat, printed by a program of ours (gowalk), a theorem a function: what the call returns and what it leaves in memory.
-/
import Derived.Test.YtkkglkdnnfegkaaBd
import Derived.Test.YtkkglkdnnfegkaaBe
set_option linter.unusedSimpArgs false
set_option linter.unusedVariables false
namespace Go.Proofs.Ytkkglkdnnfegkaa
open Go.RowKit Go.Shelf Go.Eng
set_option maxHeartbeats 4000000 in
theorem CreepDoubts_a (w : World) (R : List (Int × Int)) (vr : Value) (hm : SlAt w vr 2 R.length (pairs R)) (rs : List RunD) (lv : List Value) (vu : Value) (hx : RunsAt w vu lv rs) (hf : thinB R rs 0 = false) :
  Calls Try.prog 12 #[(Value.agg #[vr]), vu] w (Ret fun v w' => v = .bool true ∧ Ext NoB w w') := by
 refine calls_enter Try.func12 rfl fun a0 hA0 => ?_
 replace hA0 : Fr 60 [] [(0, (Value.agg #[vr])), (1, vu)] a0 := hA0
 have hS0 : Sep NoB w w [(sl vr 2 R.length (pairs R)), (runsR false vu lv rs)] := sep_ro ⟨rfl, hm, rfl, hx, trivial⟩
 refine c_seq ?_
 refine c_region ?_
 refine stw hA0 (op_box hS0 rfl (hA0.ev rfl) (cs := [vr]) rfl) rfl rfl (by decide) ?_
 rintro a1 _ w3 ⟨b4, rfl, hS5⟩ hA2; clear hA0 hS0 a0
 refine st hA2 (op_assign rfl (evc _ _)) rfl rfl (by decide) fun a6 hA7 => ?_; clear hA2 a1
 refine wl_nil ?_
 refine then_n ?_
 refine c_seq ?_
 refine c_seq ?_
 refine c_region ?_
 refine st hA7 (op_loadA rfl ty_24 (hA7.ev rfl) (hS5.bk 0 rfl) (l := [vr]) rfl rfl) rfl rfl (by decide) fun a8 hA9 => ?_; clear hA7 a6
 refine st hA9 (op_move rfl (hA9.ev rfl)) rfl rfl (by decide) fun a10 hA11 => ?_; clear hA9 a8
 refine stw hA11 (op_call rfl en_16 (ev3 (hA11.ev rfl) (hA11.ev rfl) (evc _ _)) (callsB (Thin_ok _ R _ (hS5.sk 1 rfl) rs _ _ (runs_at (hS5.ok 2 _ rfl)) ([]) _ (slAt_nil _ 3)) (thinB R rs 0) rfl)) rfl rfl (by decide) ?_
 rintro a12 _ w14 ⟨rfl, hE15⟩ hA13; have hS16 := hS5.step hE15; clear hE15 hA11 hS5 a10
 rw [hf] at hA13
 refine st hA13 (op_not rfl (hA13.ev rfl)) rfl rfl (by decide) fun a17 hA18 => ?_; clear hA13 a12
 refine st hA18 (op_move rfl (hA18.ev rfl)) rfl rfl (by decide) fun a19 hA20 => ?_; clear hA18 a17
 refine skp hA20 rfl rfl rfl rfl rfl (by decide) fun a21 hA22 => ?_; clear hA20 a19
 refine skp hA22 rfl rfl rfl rfl rfl (by decide) fun a23 hA24 => ?_; clear hA22 a21
 refine skp hA24 rfl rfl rfl rfl rfl (by decide) fun a25 hA26 => ?_; clear hA24 a23
 refine skp hA26 rfl rfl rfl rfl rfl (by decide) fun a27 hA28 => ?_; clear hA26 a25
 refine skpU hA28 rfl rfl rfl rfl (by decide) fun a29 hA30 => ?_; clear hA28 a27
 refine skpU hA30 rfl rfl rfl rfl (by decide) fun a31 hA32 => ?_; clear hA30 a29
 refine skpU hA32 rfl rfl rfl rfl (by decide) fun a33 hA34 => ?_; clear hA32 a31
 refine skpU hA34 rfl rfl rfl rfl (by decide) fun a35 hA36 => ?_; clear hA34 a33
 refine skp hA36 rfl rfl rfl rfl rfl (by decide) fun a37 hA38 => ?_; clear hA36 a35
 refine st hA38 (op_pick_t rfl (hA38.ev rfl) (evc _ _)) rfl rfl (by decide) fun a39 hA40 => ?_; clear hA38 a37
 refine wl_nil ?_
 refine then_n ?_
 refine c_true hA40 rfl ?_
 refine c_seq ?_
 have hA41 := hA40.as [] rfl; clear hA40
 refine c_region ?_
 refine stw hA41 (op_call rfl en_17 ev0 (awake_ok _)) rfl rfl (by decide) ?_
 rintro a42 _ w44 ⟨rfl, hE45⟩ hA43; have hS46 := hS16.step hE45; clear hE45 hA41 hS16 a39
 refine st hA43 (op_assign rfl (hA43.ev rfl)) rfl rfl (by decide) fun a47 hA48 => ?_; clear hA43 a42
 refine wl_nil ?_
 refine then_n ?_
 refine c_ret ?_
 refine then_ret ?_
 refine fin_run hA48 (.inl rfl) (run_results1 hA48 rfl (.tmp rfl)) ?_
 exact ⟨rfl, hS46.ext⟩
set_option maxHeartbeats 4000000 in
theorem CreepDoubts_c (w : World) (R : List (Int × Int)) (vr : Value) (hm : SlAt w vr 2 R.length (pairs R)) (rs : List RunD) (lv : List Value) (vu : Value) (hx : RunsAt w vu lv rs) (hf : thinB R rs 0 = true) (hk0 : ¬ checkF R = 0) :
  Calls Try.prog 12 #[(Value.agg #[vr]), vu] w (Ret fun v w' => v = .bool true ∧ Ext NoB w w') := by
 refine calls_enter Try.func12 rfl fun a0 hA0 => ?_
 replace hA0 : Fr 60 [] [(0, (Value.agg #[vr])), (1, vu)] a0 := hA0
 have hth := thin_of hf; have h6 := hth.mat; have h9 := hth.runs; have he : ¬ enterF R rs = 0 := by rw [enter_c hk0]; exact hk0
 have hS0 : Sep NoB w w [(sl vr 2 R.length (pairs R)), (runsR false vu lv rs)] := sep_ro ⟨rfl, hm, rfl, hx, trivial⟩
 refine c_seq ?_
 refine c_region ?_
 refine stw hA0 (op_box hS0 rfl (hA0.ev rfl) (cs := [vr]) rfl) rfl rfl (by decide) ?_
 rintro a1 _ w3 ⟨b4, rfl, hS5⟩ hA2; clear hA0 hS0 a0
 refine st hA2 (op_assign rfl (evc _ _)) rfl rfl (by decide) fun a6 hA7 => ?_; clear hA2 a1
 refine wl_nil ?_
 refine then_n ?_
 refine c_seq ?_
 refine c_seq ?_
 refine c_region ?_
 refine st hA7 (op_loadA rfl ty_24 (hA7.ev rfl) (hS5.bk 0 rfl) (l := [vr]) rfl rfl) rfl rfl (by decide) fun a8 hA9 => ?_; clear hA7 a6
 refine st hA9 (op_move rfl (hA9.ev rfl)) rfl rfl (by decide) fun a10 hA11 => ?_; clear hA9 a8
 refine stw hA11 (op_call rfl en_16 (ev3 (hA11.ev rfl) (hA11.ev rfl) (evc _ _)) (callsB (Thin_ok _ R _ (hS5.sk 1 rfl) rs _ _ (runs_at (hS5.ok 2 _ rfl)) ([]) _ (slAt_nil _ 3)) (thinB R rs 0) rfl)) rfl rfl (by decide) ?_
 rintro a12 _ w14 ⟨rfl, hE15⟩ hA13; have hS16 := hS5.step hE15; clear hE15 hA11 hS5 a10
 rw [hf] at hA13
 refine st hA13 (op_not rfl (hA13.ev rfl)) rfl rfl (by decide) fun a17 hA18 => ?_; clear hA13 a12
 refine st hA18 (op_move rfl (hA18.ev rfl)) rfl rfl (by decide) fun a19 hA20 => ?_; clear hA18 a17
 refine stg hA20 (op_loadA rfl ty_24 (hA20.ev rfl) (hS16.bk 0 rfl) (l := [vr]) rfl rfl) rfl rfl rfl rfl (by decide) fun a21 hA22 => ?_; clear hA20 a19
 refine stwg hA22 (op_call rfl en_40 (ev1 (hA22.ev rfl)) (MaterialFault_ok _ R _ (hS16.sk 1 rfl))) rfl rfl rfl rfl (by decide) ?_
 rintro a23 _ w25 ⟨rfl, hE26⟩ hA24; have hS27 := hS16.step hE26; clear hE26 hA22 hS16 a21
 refine stg hA24 (op_eql rfl (hA24.ev rfl) (evc _ _)) rfl rfl rfl rfl (by decide) fun a28 hA29 => ?_; clear hA24 a23
 have hd30 : ¬ ((checkF R) = 0) := hk0
 rw [decide_eq_false hd30] at hA29
 refine stg hA29 (op_move rfl (hA29.ev rfl)) rfl rfl rfl rfl (by decide) fun a31 hA32 => ?_; clear hA29 a28
 refine skp hA32 rfl rfl rfl rfl rfl (by decide) fun a33 hA34 => ?_; clear hA32 a31
 refine skp hA34 rfl rfl rfl rfl rfl (by decide) fun a35 hA36 => ?_; clear hA34 a33
 refine skp hA36 rfl rfl rfl rfl rfl (by decide) fun a37 hA38 => ?_; clear hA36 a35
 refine skp hA38 rfl rfl rfl rfl rfl (by decide) fun a39 hA40 => ?_; clear hA38 a37
 refine stg hA40 (op_pick_f rfl (hA40.ev rfl) (evc _ _)) rfl rfl rfl rfl (by decide) fun a41 hA42 => ?_; clear hA40 a39
 refine st hA42 (op_pick_f rfl (hA42.ev rfl) (hA42.ev rfl)) rfl rfl (by decide) fun a43 hA44 => ?_; clear hA42 a41
 refine wl_nil ?_
 refine then_n ?_
 refine c_false hA44 rfl ?_
 refine c_skip ?_
 refine then_n ?_
 refine c_seq ?_
 have hA45 := hA44.as [(2, (bptr b4 0)), (1, vu)] rfl; clear hA44
 refine c_region ?_
 refine st hA45 (op_loadA rfl ty_24 (hA45.ev rfl) (hS27.bk 0 rfl) (l := [vr]) rfl rfl) rfl rfl (by decide) fun a46 hA47 => ?_; clear hA45 a43
 refine stw hA47 (op_call rfl en_19 (ev1 (hA47.ev rfl)) (Material_ok _ R _ (hS27.sk 1 rfl) hth.mat)) rfl rfl (by decide) ?_
 rintro a48 _ w50 ⟨u53, rfl, hT51⟩ hA49; have hS52 := hS27.callS hT51 rfl; clear hT51 hA47 hS27 a46
 refine st hA49 (op_move rfl (hA49.ev rfl)) rfl rfl (by decide) fun a54 hA55 => ?_; clear hA49 a48
 refine stw hA55 (op_call rfl en_20 (ev1 (hA55.ev rfl)) (Runs_ok _ rs _ _ (runs_at (hS52.ok 3 _ rfl)) hth.runs hth.segs)) rfl rfl (by decide) ?_
 rintro a56 v61 w58 ⟨lv62, hT59⟩ hA57; have hS60 := hS52.callS hT59 rfl; clear hT59 hA55 hS52 a54
 refine stw hA57 (op_call rfl en_43 (ev2 (hA57.ev rfl) (hA57.ev rfl)) (doubt_bad R rs lv62 u53 v61 _ (SlAt.of_row (hS60.ok_row 1 rfl)) (runs_at (hS60.ok 0 _ rfl)) (by omega) (by omega) he)) rfl rfl (by decide) ?_
 rintro a63 _ w65 ⟨rfl, hE66⟩ hA64; have hS67 := hS60.step hE66; clear hE66 hA57 hS60 a56
 refine st hA64 (op_move rfl (hA64.ev rfl)) rfl rfl (by decide) fun a68 hA69 => ?_; clear hA64 a63
 refine st hA69 (op_extract rfl (hA69.ev rfl) rfl) rfl rfl (by decide) fun a70 hA71 => ?_; clear hA69 a68
 refine st hA71 (op_extract rfl (hA71.ev rfl) rfl) rfl rfl (by decide) fun a72 hA73 => ?_; clear hA71 a70
 refine st hA73 (op_assign rfl (hA73.ev rfl)) rfl rfl (by decide) fun a74 hA75 => ?_; clear hA73 a72
 refine st hA75 (op_assign rfl (hA75.ev rfl)) rfl rfl (by decide) fun a76 hA77 => ?_; clear hA75 a74
 refine wl_nil ?_
 refine then_n ?_
 refine c_seq ?_
 refine c_seq ?_
 have hA78 := hA77.as [(6, (Value.int .i64 (enterF R rs))), (5, (Value.slice none 0 0)), (2, (bptr b4 0)), (1, vu)] rfl; clear hA77
 refine c_region ?_
 refine st hA78 (op_loadA rfl ty_24 (hA78.ev rfl) (hS67.bk 2 rfl) (l := [vr]) rfl rfl) rfl rfl (by decide) fun a79 hA80 => ?_; clear hA78 a76
 refine st hA80 (op_move rfl (hA80.ev rfl)) rfl rfl (by decide) fun a81 hA82 => ?_; clear hA80 a79
 refine stw hA82 (op_call rfl en_41 (ev2 (hA82.ev rfl) (hA82.ev rfl)) (fault_ok _ R _ (hS67.sk 3 rfl) rs _ _ (runs_at (hS67.ok 4 _ rfl)))) rfl rfl (by decide) ?_
 rintro a83 _ w85 ⟨rfl, hE86⟩ hA84; have hS87 := hS67.step hE86; clear hE86 hA82 hS67 a81
 refine st hA84 (op_assign rfl (hA84.ev rfl)) rfl rfl (by decide) fun a88 hA89 => ?_; clear hA84 a83
 refine wl_nil ?_
 refine then_n ?_
 refine c_seq ?_
 refine c_region ?_
 refine st hA89 (op_move rfl (hA89.ev rfl)) rfl rfl (by decide) fun a90 hA91 => ?_; clear hA89 a88
 refine st hA91 (op_neq rfl (hA91.ev rfl) (evc _ _)) rfl rfl (by decide) fun a92 hA93 => ?_; clear hA91 a90
 have hd94 : ¬ ((enterF R rs) = 0) := he
 rw [decide_eq_false hd94] at hA93
 refine wl_nil ?_
 refine then_n ?_
 refine c_true hA93 rfl ?_
 refine c_seq ?_
 have hA95 := hA93.as [(7, (Value.int .i64 (enterF R rs))), (6, (Value.int .i64 (enterF R rs))), (5, (Value.slice none 0 0))] rfl; clear hA93
 refine c_region ?_
 refine st hA95 (op_move rfl (hA95.ev rfl)) rfl rfl (by decide) fun a96 hA97 => ?_; clear hA95 a92
 refine st hA97 (op_move rfl (hA97.ev rfl)) rfl rfl (by decide) fun a98 hA99 => ?_; clear hA97 a96
 refine st hA99 (op_eql rfl (hA99.ev rfl) (hA99.ev rfl)) rfl rfl (by decide) fun a100 hA101 => ?_; clear hA99 a98
 have hd102 : (enterF R rs) = (enterF R rs) := rfl
 rw [decide_eq_true hd102] at hA101
 refine st hA101 (op_move rfl (hA101.ev rfl)) rfl rfl (by decide) fun a103 hA104 => ?_; clear hA101 a100
 refine stg hA104 (op_move rfl (hA104.ev rfl)) rfl rfl rfl rfl (by decide) fun a105 hA106 => ?_; clear hA104 a103
 refine stg hA106 (op_len rfl un_40 (hA106.ev rfl)) rfl rfl rfl rfl (by decide) fun a107 hA108 => ?_; clear hA106 a105
 refine stg hA108 (op_eql rfl (hA108.ev rfl) (evc _ _)) rfl rfl rfl rfl (by decide) fun a109 hA110 => ?_; clear hA108 a107
 have hd111 : ((0 : Nat) : Int) = 0 := rfl
 rw [decide_eq_true hd111] at hA110
 refine st hA110 (op_pick_t rfl (hA110.ev rfl) (hA110.ev rfl)) rfl rfl (by decide) fun a112 hA113 => ?_; clear hA110 a109
 refine st hA113 (op_move rfl (hA113.ev rfl)) rfl rfl (by decide) fun a114 hA115 => ?_; clear hA113 a112
 refine stwg hA115 (op_call rfl en_17 ev0 (awake_ok _)) rfl rfl rfl rfl (by decide) ?_
 rintro a116 _ w118 ⟨rfl, hE119⟩ hA117; have hS120 := hS87.step hE119; clear hE119 hA115 hS87 a114
 refine st hA117 (op_pick_t rfl (hA117.ev rfl) (hA117.ev rfl)) rfl rfl (by decide) fun a121 hA122 => ?_; clear hA117 a116
 refine st hA122 (op_assign rfl (hA122.ev rfl)) rfl rfl (by decide) fun a123 hA124 => ?_; clear hA122 a121
 refine wl_nil ?_
 refine then_n ?_
 refine c_ret ?_
 refine then_ret ?_
 refine fin_run hA124 (.inl rfl) (run_results1 hA124 rfl (.tmp rfl)) ?_
 exact ⟨rfl, hS120.ext⟩
set_option maxHeartbeats 4000000 in
theorem CreepDoubts_d (w : World) (R : List (Int × Int)) (vr : Value) (hm : SlAt w vr 2 R.length (pairs R)) (rs : List RunD) (lv : List Value) (vu : Value) (hx : RunsAt w vu lv rs) (hf : thinB R rs 0 = true) (hk0 : checkF R = 0) (hq : 1500 < (rlistsF R).length) :
  Calls Try.prog 12 #[(Value.agg #[vr]), vu] w (Ret fun v w' => v = .bool true ∧ Ext NoB w w') := by
 refine calls_enter Try.func12 rfl fun a0 hA0 => ?_
 replace hA0 : Fr 60 [] [(0, (Value.agg #[vr])), (1, vu)] a0 := hA0
 have hth := thin_of hf; have h6 := hth.mat; have h9 := hth.runs; have hcm := check_mat hk0; have hR := hcm.1; have hR1 := hcm.2.1; have hR3 := hR.1
 have hS0 : Sep NoB w w [(sl vr 2 R.length (pairs R)), (runsR false vu lv rs)] := sep_ro ⟨rfl, hm, rfl, hx, trivial⟩
 refine c_seq ?_
 refine c_region ?_
 refine stw hA0 (op_box hS0 rfl (hA0.ev rfl) (cs := [vr]) rfl) rfl rfl (by decide) ?_
 rintro a1 _ w3 ⟨b4, rfl, hS5⟩ hA2; clear hA0 hS0 a0
 refine st hA2 (op_assign rfl (evc _ _)) rfl rfl (by decide) fun a6 hA7 => ?_; clear hA2 a1
 refine wl_nil ?_
 refine then_n ?_
 refine c_seq ?_
 refine c_seq ?_
 refine c_region ?_
 refine st hA7 (op_loadA rfl ty_24 (hA7.ev rfl) (hS5.bk 0 rfl) (l := [vr]) rfl rfl) rfl rfl (by decide) fun a8 hA9 => ?_; clear hA7 a6
 refine st hA9 (op_move rfl (hA9.ev rfl)) rfl rfl (by decide) fun a10 hA11 => ?_; clear hA9 a8
 refine stw hA11 (op_call rfl en_16 (ev3 (hA11.ev rfl) (hA11.ev rfl) (evc _ _)) (callsB (Thin_ok _ R _ (hS5.sk 1 rfl) rs _ _ (runs_at (hS5.ok 2 _ rfl)) ([]) _ (slAt_nil _ 3)) (thinB R rs 0) rfl)) rfl rfl (by decide) ?_
 rintro a12 _ w14 ⟨rfl, hE15⟩ hA13; have hS16 := hS5.step hE15; clear hE15 hA11 hS5 a10
 rw [hf] at hA13
 refine st hA13 (op_not rfl (hA13.ev rfl)) rfl rfl (by decide) fun a17 hA18 => ?_; clear hA13 a12
 refine st hA18 (op_move rfl (hA18.ev rfl)) rfl rfl (by decide) fun a19 hA20 => ?_; clear hA18 a17
 refine stg hA20 (op_loadA rfl ty_24 (hA20.ev rfl) (hS16.bk 0 rfl) (l := [vr]) rfl rfl) rfl rfl rfl rfl (by decide) fun a21 hA22 => ?_; clear hA20 a19
 refine stwg hA22 (op_call rfl en_40 (ev1 (hA22.ev rfl)) (MaterialFault_ok _ R _ (hS16.sk 1 rfl))) rfl rfl rfl rfl (by decide) ?_
 rintro a23 _ w25 ⟨rfl, hE26⟩ hA24; have hS27 := hS16.step hE26; clear hE26 hA22 hS16 a21
 refine stg hA24 (op_eql rfl (hA24.ev rfl) (evc _ _)) rfl rfl rfl rfl (by decide) fun a28 hA29 => ?_; clear hA24 a23
 have hd30 : (checkF R) = 0 := hk0
 rw [decide_eq_true hd30] at hA29
 refine stg hA29 (op_move rfl (hA29.ev rfl)) rfl rfl rfl rfl (by decide) fun a31 hA32 => ?_; clear hA29 a28
 refine stg hA32 (op_loadA rfl ty_24 (hA32.ev rfl) (hS27.bk 0 rfl) (l := [vr]) rfl rfl) rfl rfl rfl rfl (by decide) fun a33 hA34 => ?_; clear hA32 a31
 refine stwg hA34 (op_call rfl en_42 (ev2 (hA34.ev rfl) (evc _ _)) (by have hz := rlists_ok R vr hR (R.length - 1) [] _ _ (hS27.sk 1 rfl) (slAt_nil _ 1) (by simp only [List.length_nil]; omega) (fun i => by simp); rw [show R.length - 1 + 1 = R.length by omega] at hz; exact hz)) rfl rfl rfl rfl (by decide) ?_
 rintro a35 v38 w37 ⟨ov39, hT40⟩ hA36; have hS41 : Sep NoB w w37 [(row v38 40 1 ov39.length ov39), (lstR ov39 (rlistsF R)), (blk b4 24 [vr]), (sl vr 2 R.length (pairs R)), (runsR false vu lv rs)] := hS27.callS hT40 rfl; clear hT40 hA34 hS27 a33
 have hol_al : ov39.length = (rlistsF R).length := hS41.lst_len 1 rfl
 refine stg hA36 (op_lenS rfl un_38 (hA36.ev rfl) (SlAt.of_row (hS41.ok_row 0 rfl))) rfl rfl rfl rfl (by decide) fun a42 hA43 => ?_; clear hA36 a35
 refine stg hA43 (op_gtr rfl (hA43.ev rfl) (evc _ _)) rfl rfl rfl rfl (by decide) fun a44 hA45 => ?_; clear hA43 a42
 have hd46 : 1500 < (ov39.length : Int) := (by omega)
 rw [decide_eq_true hd46] at hA45
 refine stg hA45 (op_pick_t rfl (hA45.ev rfl) (hA45.ev rfl)) rfl rfl rfl rfl (by decide) fun a47 hA48 => ?_; clear hA45 a44
 refine st hA48 (op_pick_f rfl (hA48.ev rfl) (hA48.ev rfl)) rfl rfl (by decide) fun a49 hA50 => ?_; clear hA48 a47
 refine wl_nil ?_
 refine then_n ?_
 refine c_true hA50 rfl ?_
 refine c_seq ?_
 have hA51 := hA50.as [] rfl; clear hA50
 refine c_region ?_
 refine stw hA51 (op_call rfl en_17 ev0 (awake_ok _)) rfl rfl (by decide) ?_
 rintro a52 _ w54 ⟨rfl, hE55⟩ hA53; have hS56 := hS41.step hE55; clear hE55 hA51 hS41 a49
 refine st hA53 (op_assign rfl (hA53.ev rfl)) rfl rfl (by decide) fun a57 hA58 => ?_; clear hA53 a52
 refine wl_nil ?_
 refine then_n ?_
 refine c_ret ?_
 refine then_ret ?_
 refine fin_run hA58 (.inl rfl) (run_results1 hA58 rfl (.tmp rfl)) ?_
 exact ⟨rfl, hS56.ext⟩
set_option maxHeartbeats 4000000 in
theorem CreepDoubts_e (w : World) (R : List (Int × Int)) (vr : Value) (hm : SlAt w vr 2 R.length (pairs R)) (rs : List RunD) (lv : List Value) (vu : Value) (hx : RunsAt w vu lv rs) (hf : thinB R rs 0 = true) (hk0 : checkF R = 0) (he : ¬ enterF R rs = 0) (hq : ¬ 1500 < (rlistsF R).length) :
  Calls Try.prog 12 #[(Value.agg #[vr]), vu] w (Ret fun v w' => v = .bool true ∧ Ext NoB w w') := by
 refine calls_enter Try.func12 rfl fun a0 hA0 => ?_
 replace hA0 : Fr 60 [] [(0, (Value.agg #[vr])), (1, vu)] a0 := hA0
 have hth := thin_of hf; have h6 := hth.mat; have h9 := hth.runs; have hcm := check_mat hk0; have hR := hcm.1; have hR1 := hcm.2.1; have hR3 := hR.1
 have hS0 : Sep NoB w w [(sl vr 2 R.length (pairs R)), (runsR false vu lv rs)] := sep_ro ⟨rfl, hm, rfl, hx, trivial⟩
 refine c_seq ?_
 refine c_region ?_
 refine stw hA0 (op_box hS0 rfl (hA0.ev rfl) (cs := [vr]) rfl) rfl rfl (by decide) ?_
 rintro a1 _ w3 ⟨b4, rfl, hS5⟩ hA2; clear hA0 hS0 a0
 refine st hA2 (op_assign rfl (evc _ _)) rfl rfl (by decide) fun a6 hA7 => ?_; clear hA2 a1
 refine wl_nil ?_
 refine then_n ?_
 refine c_seq ?_
 refine c_seq ?_
 refine c_region ?_
 refine st hA7 (op_loadA rfl ty_24 (hA7.ev rfl) (hS5.bk 0 rfl) (l := [vr]) rfl rfl) rfl rfl (by decide) fun a8 hA9 => ?_; clear hA7 a6
 refine st hA9 (op_move rfl (hA9.ev rfl)) rfl rfl (by decide) fun a10 hA11 => ?_; clear hA9 a8
 refine stw hA11 (op_call rfl en_16 (ev3 (hA11.ev rfl) (hA11.ev rfl) (evc _ _)) (callsB (Thin_ok _ R _ (hS5.sk 1 rfl) rs _ _ (runs_at (hS5.ok 2 _ rfl)) ([]) _ (slAt_nil _ 3)) (thinB R rs 0) rfl)) rfl rfl (by decide) ?_
 rintro a12 _ w14 ⟨rfl, hE15⟩ hA13; have hS16 := hS5.step hE15; clear hE15 hA11 hS5 a10
 rw [hf] at hA13
 refine st hA13 (op_not rfl (hA13.ev rfl)) rfl rfl (by decide) fun a17 hA18 => ?_; clear hA13 a12
 refine st hA18 (op_move rfl (hA18.ev rfl)) rfl rfl (by decide) fun a19 hA20 => ?_; clear hA18 a17
 refine stg hA20 (op_loadA rfl ty_24 (hA20.ev rfl) (hS16.bk 0 rfl) (l := [vr]) rfl rfl) rfl rfl rfl rfl (by decide) fun a21 hA22 => ?_; clear hA20 a19
 refine stwg hA22 (op_call rfl en_40 (ev1 (hA22.ev rfl)) (MaterialFault_ok _ R _ (hS16.sk 1 rfl))) rfl rfl rfl rfl (by decide) ?_
 rintro a23 _ w25 ⟨rfl, hE26⟩ hA24; have hS27 := hS16.step hE26; clear hE26 hA22 hS16 a21
 refine stg hA24 (op_eql rfl (hA24.ev rfl) (evc _ _)) rfl rfl rfl rfl (by decide) fun a28 hA29 => ?_; clear hA24 a23
 have hd30 : (checkF R) = 0 := hk0
 rw [decide_eq_true hd30] at hA29
 refine stg hA29 (op_move rfl (hA29.ev rfl)) rfl rfl rfl rfl (by decide) fun a31 hA32 => ?_; clear hA29 a28
 refine stg hA32 (op_loadA rfl ty_24 (hA32.ev rfl) (hS27.bk 0 rfl) (l := [vr]) rfl rfl) rfl rfl rfl rfl (by decide) fun a33 hA34 => ?_; clear hA32 a31
 refine stwg hA34 (op_call rfl en_42 (ev2 (hA34.ev rfl) (evc _ _)) (by have hz := rlists_ok R vr hR (R.length - 1) [] _ _ (hS27.sk 1 rfl) (slAt_nil _ 1) (by simp only [List.length_nil]; omega) (fun i => by simp); rw [show R.length - 1 + 1 = R.length by omega] at hz; exact hz)) rfl rfl rfl rfl (by decide) ?_
 rintro a35 v38 w37 ⟨ov39, hT40⟩ hA36; have hS41 : Sep NoB w w37 [(row v38 40 1 ov39.length ov39), (lstR ov39 (rlistsF R)), (blk b4 24 [vr]), (sl vr 2 R.length (pairs R)), (runsR false vu lv rs)] := hS27.callS hT40 rfl; clear hT40 hA34 hS27 a33
 have hol_al : ov39.length = (rlistsF R).length := hS41.lst_len 1 rfl
 refine stg hA36 (op_lenS rfl un_38 (hA36.ev rfl) (SlAt.of_row (hS41.ok_row 0 rfl))) rfl rfl rfl rfl (by decide) fun a42 hA43 => ?_; clear hA36 a35
 refine stg hA43 (op_gtr rfl (hA43.ev rfl) (evc _ _)) rfl rfl rfl rfl (by decide) fun a44 hA45 => ?_; clear hA43 a42
 have hd46 : ¬ (1500 < (ov39.length : Int)) := (by omega)
 rw [decide_eq_false hd46] at hA45
 refine stg hA45 (op_pick_t rfl (hA45.ev rfl) (hA45.ev rfl)) rfl rfl rfl rfl (by decide) fun a47 hA48 => ?_; clear hA45 a44
 refine st hA48 (op_pick_f rfl (hA48.ev rfl) (hA48.ev rfl)) rfl rfl (by decide) fun a49 hA50 => ?_; clear hA48 a47
 refine wl_nil ?_
 refine then_n ?_
 refine c_false hA50 rfl ?_
 refine c_skip ?_
 refine then_n ?_
 refine c_seq ?_
 have hA51 := hA50.as [(2, (bptr b4 0)), (1, vu)] rfl; clear hA50
 refine c_region ?_
 refine st hA51 (op_loadA rfl ty_24 (hA51.ev rfl) (hS41.bk 2 rfl) (l := [vr]) rfl rfl) rfl rfl (by decide) fun a52 hA53 => ?_; clear hA51 a49
 refine stw hA53 (op_call rfl en_19 (ev1 (hA53.ev rfl)) (Material_ok _ R _ (hS41.sk 3 rfl) hth.mat)) rfl rfl (by decide) ?_
 rintro a54 _ w56 ⟨u59, rfl, hT57⟩ hA55; have hS58 := hS41.callS hT57 rfl; clear hT57 hA53 hS41 a52
 refine st hA55 (op_move rfl (hA55.ev rfl)) rfl rfl (by decide) fun a60 hA61 => ?_; clear hA55 a54
 refine stw hA61 (op_call rfl en_20 (ev1 (hA61.ev rfl)) (Runs_ok _ rs _ _ (runs_at (hS58.ok 5 _ rfl)) hth.runs hth.segs)) rfl rfl (by decide) ?_
 rintro a62 v67 w64 ⟨lv68, hT65⟩ hA63; have hS66 := hS58.callS hT65 rfl; clear hT65 hA61 hS58 a60
 refine stw hA63 (op_call rfl en_43 (ev2 (hA63.ev rfl) (hA63.ev rfl)) (doubt_bad R rs lv68 u59 v67 _ (SlAt.of_row (hS66.ok_row 1 rfl)) (runs_at (hS66.ok 0 _ rfl)) (by omega) (by omega) he)) rfl rfl (by decide) ?_
 rintro a69 _ w71 ⟨rfl, hE72⟩ hA70; have hS73 := hS66.step hE72; clear hE72 hA63 hS66 a62
 refine st hA70 (op_move rfl (hA70.ev rfl)) rfl rfl (by decide) fun a74 hA75 => ?_; clear hA70 a69
 refine st hA75 (op_extract rfl (hA75.ev rfl) rfl) rfl rfl (by decide) fun a76 hA77 => ?_; clear hA75 a74
 refine st hA77 (op_extract rfl (hA77.ev rfl) rfl) rfl rfl (by decide) fun a78 hA79 => ?_; clear hA77 a76
 refine st hA79 (op_assign rfl (hA79.ev rfl)) rfl rfl (by decide) fun a80 hA81 => ?_; clear hA79 a78
 refine st hA81 (op_assign rfl (hA81.ev rfl)) rfl rfl (by decide) fun a82 hA83 => ?_; clear hA81 a80
 refine wl_nil ?_
 refine then_n ?_
 refine c_seq ?_
 refine c_seq ?_
 have hA84 := hA83.as [(6, (Value.int .i64 (enterF R rs))), (5, (Value.slice none 0 0)), (2, (bptr b4 0)), (1, vu)] rfl; clear hA83
 refine c_region ?_
 refine st hA84 (op_loadA rfl ty_24 (hA84.ev rfl) (hS73.bk 4 rfl) (l := [vr]) rfl rfl) rfl rfl (by decide) fun a85 hA86 => ?_; clear hA84 a82
 refine st hA86 (op_move rfl (hA86.ev rfl)) rfl rfl (by decide) fun a87 hA88 => ?_; clear hA86 a85
 refine stw hA88 (op_call rfl en_41 (ev2 (hA88.ev rfl) (hA88.ev rfl)) (fault_ok _ R _ (hS73.sk 5 rfl) rs _ _ (runs_at (hS73.ok 6 _ rfl)))) rfl rfl (by decide) ?_
 rintro a89 _ w91 ⟨rfl, hE92⟩ hA90; have hS93 := hS73.step hE92; clear hE92 hA88 hS73 a87
 refine st hA90 (op_assign rfl (hA90.ev rfl)) rfl rfl (by decide) fun a94 hA95 => ?_; clear hA90 a89
 refine wl_nil ?_
 refine then_n ?_
 refine c_seq ?_
 refine c_region ?_
 refine st hA95 (op_move rfl (hA95.ev rfl)) rfl rfl (by decide) fun a96 hA97 => ?_; clear hA95 a94
 refine st hA97 (op_neq rfl (hA97.ev rfl) (evc _ _)) rfl rfl (by decide) fun a98 hA99 => ?_; clear hA97 a96
 have hd100 : ¬ ((enterF R rs) = 0) := he
 rw [decide_eq_false hd100] at hA99
 refine wl_nil ?_
 refine then_n ?_
 refine c_true hA99 rfl ?_
 refine c_seq ?_
 have hA101 := hA99.as [(7, (Value.int .i64 (enterF R rs))), (6, (Value.int .i64 (enterF R rs))), (5, (Value.slice none 0 0))] rfl; clear hA99
 refine c_region ?_
 refine st hA101 (op_move rfl (hA101.ev rfl)) rfl rfl (by decide) fun a102 hA103 => ?_; clear hA101 a98
 refine st hA103 (op_move rfl (hA103.ev rfl)) rfl rfl (by decide) fun a104 hA105 => ?_; clear hA103 a102
 refine st hA105 (op_eql rfl (hA105.ev rfl) (hA105.ev rfl)) rfl rfl (by decide) fun a106 hA107 => ?_; clear hA105 a104
 have hd108 : (enterF R rs) = (enterF R rs) := rfl
 rw [decide_eq_true hd108] at hA107
 refine st hA107 (op_move rfl (hA107.ev rfl)) rfl rfl (by decide) fun a109 hA110 => ?_; clear hA107 a106
 refine stg hA110 (op_move rfl (hA110.ev rfl)) rfl rfl rfl rfl (by decide) fun a111 hA112 => ?_; clear hA110 a109
 refine stg hA112 (op_len rfl un_40 (hA112.ev rfl)) rfl rfl rfl rfl (by decide) fun a113 hA114 => ?_; clear hA112 a111
 refine stg hA114 (op_eql rfl (hA114.ev rfl) (evc _ _)) rfl rfl rfl rfl (by decide) fun a115 hA116 => ?_; clear hA114 a113
 have hd117 : ((0 : Nat) : Int) = 0 := rfl
 rw [decide_eq_true hd117] at hA116
 refine st hA116 (op_pick_t rfl (hA116.ev rfl) (hA116.ev rfl)) rfl rfl (by decide) fun a118 hA119 => ?_; clear hA116 a115
 refine st hA119 (op_move rfl (hA119.ev rfl)) rfl rfl (by decide) fun a120 hA121 => ?_; clear hA119 a118
 refine stwg hA121 (op_call rfl en_17 ev0 (awake_ok _)) rfl rfl rfl rfl (by decide) ?_
 rintro a122 _ w124 ⟨rfl, hE125⟩ hA123; have hS126 := hS93.step hE125; clear hE125 hA121 hS93 a120
 refine st hA123 (op_pick_t rfl (hA123.ev rfl) (hA123.ev rfl)) rfl rfl (by decide) fun a127 hA128 => ?_; clear hA123 a122
 refine st hA128 (op_assign rfl (hA128.ev rfl)) rfl rfl (by decide) fun a129 hA130 => ?_; clear hA128 a127
 refine wl_nil ?_
 refine then_n ?_
 refine c_ret ?_
 refine then_ret ?_
 refine fin_run hA130 (.inl rfl) (run_results1 hA130 rfl (.tmp rfl)) ?_
 exact ⟨rfl, hS126.ext⟩
set_option maxHeartbeats 4000000 in
theorem CreepDoubts_f (w : World) (R : List (Int × Int)) (vr : Value) (hm : SlAt w vr 2 R.length (pairs R)) (rs : List RunD) (lv : List Value) (vu : Value) (hx : RunsAt w vu lv rs) (hf : thinB R rs 0 = true) (hk0 : checkF R = 0) (he : enterF R rs = 0) (hq : ¬ 1500 < (rlistsF R).length) :
  Calls Try.prog 12 #[(Value.agg #[vr]), vu] w (Ret fun v w' => v = .bool true ∧ Ext NoB w w') := by
 refine calls_enter Try.func12 rfl fun a0 hA0 => ?_
 replace hA0 : Fr 60 [] [(0, (Value.agg #[vr])), (1, vu)] a0 := hA0
 have hth := thin_of hf; have h6 := hth.mat; have h9 := hth.runs; have hcm := check_mat hk0; have hR := hcm.1; have hR1 := hcm.2.1; have hR3 := hR.1; have hdb := doubt_bd he
 have hS0 : Sep NoB w w [(sl vr 2 R.length (pairs R)), (runsR false vu lv rs)] := sep_ro ⟨rfl, hm, rfl, hx, trivial⟩
 refine c_seq ?_
 refine c_region ?_
 refine stw hA0 (op_box hS0 rfl (hA0.ev rfl) (cs := [vr]) rfl) rfl rfl (by decide) ?_
 rintro a1 _ w3 ⟨b4, rfl, hS5⟩ hA2; clear hA0 hS0 a0
 refine st hA2 (op_assign rfl (evc _ _)) rfl rfl (by decide) fun a6 hA7 => ?_; clear hA2 a1
 refine wl_nil ?_
 refine then_n ?_
 refine c_seq ?_
 refine c_seq ?_
 refine c_region ?_
 refine st hA7 (op_loadA rfl ty_24 (hA7.ev rfl) (hS5.bk 0 rfl) (l := [vr]) rfl rfl) rfl rfl (by decide) fun a8 hA9 => ?_; clear hA7 a6
 refine st hA9 (op_move rfl (hA9.ev rfl)) rfl rfl (by decide) fun a10 hA11 => ?_; clear hA9 a8
 refine stw hA11 (op_call rfl en_16 (ev3 (hA11.ev rfl) (hA11.ev rfl) (evc _ _)) (callsB (Thin_ok _ R _ (hS5.sk 1 rfl) rs _ _ (runs_at (hS5.ok 2 _ rfl)) ([]) _ (slAt_nil _ 3)) (thinB R rs 0) rfl)) rfl rfl (by decide) ?_
 rintro a12 _ w14 ⟨rfl, hE15⟩ hA13; have hS16 := hS5.step hE15; clear hE15 hA11 hS5 a10
 rw [hf] at hA13
 refine st hA13 (op_not rfl (hA13.ev rfl)) rfl rfl (by decide) fun a17 hA18 => ?_; clear hA13 a12
 refine st hA18 (op_move rfl (hA18.ev rfl)) rfl rfl (by decide) fun a19 hA20 => ?_; clear hA18 a17
 refine stg hA20 (op_loadA rfl ty_24 (hA20.ev rfl) (hS16.bk 0 rfl) (l := [vr]) rfl rfl) rfl rfl rfl rfl (by decide) fun a21 hA22 => ?_; clear hA20 a19
 refine stwg hA22 (op_call rfl en_40 (ev1 (hA22.ev rfl)) (MaterialFault_ok _ R _ (hS16.sk 1 rfl))) rfl rfl rfl rfl (by decide) ?_
 rintro a23 _ w25 ⟨rfl, hE26⟩ hA24; have hS27 := hS16.step hE26; clear hE26 hA22 hS16 a21
 refine stg hA24 (op_eql rfl (hA24.ev rfl) (evc _ _)) rfl rfl rfl rfl (by decide) fun a28 hA29 => ?_; clear hA24 a23
 have hd30 : (checkF R) = 0 := hk0
 rw [decide_eq_true hd30] at hA29
 refine stg hA29 (op_move rfl (hA29.ev rfl)) rfl rfl rfl rfl (by decide) fun a31 hA32 => ?_; clear hA29 a28
 refine stg hA32 (op_loadA rfl ty_24 (hA32.ev rfl) (hS27.bk 0 rfl) (l := [vr]) rfl rfl) rfl rfl rfl rfl (by decide) fun a33 hA34 => ?_; clear hA32 a31
 refine stwg hA34 (op_call rfl en_42 (ev2 (hA34.ev rfl) (evc _ _)) (by have hz := rlists_ok R vr hR (R.length - 1) [] _ _ (hS27.sk 1 rfl) (slAt_nil _ 1) (by simp only [List.length_nil]; omega) (fun i => by simp); rw [show R.length - 1 + 1 = R.length by omega] at hz; exact hz)) rfl rfl rfl rfl (by decide) ?_
 rintro a35 v38 w37 ⟨ov39, hT40⟩ hA36; have hS41 : Sep NoB w w37 [(row v38 40 1 ov39.length ov39), (lstR ov39 (rlistsF R)), (blk b4 24 [vr]), (sl vr 2 R.length (pairs R)), (runsR false vu lv rs)] := hS27.callS hT40 rfl; clear hT40 hA34 hS27 a33
 have hol_al : ov39.length = (rlistsF R).length := hS41.lst_len 1 rfl
 refine stg hA36 (op_lenS rfl un_38 (hA36.ev rfl) (SlAt.of_row (hS41.ok_row 0 rfl))) rfl rfl rfl rfl (by decide) fun a42 hA43 => ?_; clear hA36 a35
 refine stg hA43 (op_gtr rfl (hA43.ev rfl) (evc _ _)) rfl rfl rfl rfl (by decide) fun a44 hA45 => ?_; clear hA43 a42
 have hd46 : ¬ (1500 < (ov39.length : Int)) := (by omega)
 rw [decide_eq_false hd46] at hA45
 refine stg hA45 (op_pick_t rfl (hA45.ev rfl) (hA45.ev rfl)) rfl rfl rfl rfl (by decide) fun a47 hA48 => ?_; clear hA45 a44
 refine st hA48 (op_pick_f rfl (hA48.ev rfl) (hA48.ev rfl)) rfl rfl (by decide) fun a49 hA50 => ?_; clear hA48 a47
 refine wl_nil ?_
 refine then_n ?_
 refine c_false hA50 rfl ?_
 refine c_skip ?_
 refine then_n ?_
 refine c_seq ?_
 have hA51 := hA50.as [(2, (bptr b4 0)), (1, vu)] rfl; clear hA50
 refine c_region ?_
 refine st hA51 (op_loadA rfl ty_24 (hA51.ev rfl) (hS41.bk 2 rfl) (l := [vr]) rfl rfl) rfl rfl (by decide) fun a52 hA53 => ?_; clear hA51 a49
 refine stw hA53 (op_call rfl en_19 (ev1 (hA53.ev rfl)) (Material_ok _ R _ (hS41.sk 3 rfl) hth.mat)) rfl rfl (by decide) ?_
 rintro a54 _ w56 ⟨u59, rfl, hT57⟩ hA55; have hS58 := hS41.callS hT57 rfl; clear hT57 hA53 hS41 a52
 refine st hA55 (op_move rfl (hA55.ev rfl)) rfl rfl (by decide) fun a60 hA61 => ?_; clear hA55 a54
 refine stw hA61 (op_call rfl en_20 (ev1 (hA61.ev rfl)) (Runs_ok _ rs _ _ (runs_at (hS58.ok 5 _ rfl)) hth.runs hth.segs)) rfl rfl (by decide) ?_
 rintro a62 v67 w64 ⟨lv68, hT65⟩ hA63; have hS66 := hS58.callS hT65 rfl; clear hT65 hA61 hS58 a60
 refine stw hA63 (op_call rfl en_43 (ev2 (hA63.ev rfl) (hA63.ev rfl)) (doubt_ok R rs lv68 u59 v67 _ (SlAt.of_row (hS66.ok_row 1 rfl)) (runs_at (hS66.ok 0 _ rfl)) (by omega) (by omega) he)) rfl rfl (by decide) ?_
 rintro a69 _ w71 ⟨u74, rfl, hT72⟩ hA70; have hS73 := hS66.callS hT72 rfl; clear hT72 hA63 hS66 a62
 refine st hA70 (op_move rfl (hA70.ev rfl)) rfl rfl (by decide) fun a75 hA76 => ?_; clear hA70 a69
 refine st hA76 (op_extract rfl (hA76.ev rfl) rfl) rfl rfl (by decide) fun a77 hA78 => ?_; clear hA76 a75
 refine st hA78 (op_extract rfl (hA78.ev rfl) rfl) rfl rfl (by decide) fun a79 hA80 => ?_; clear hA78 a77
 refine st hA80 (op_assign rfl (hA80.ev rfl)) rfl rfl (by decide) fun a81 hA82 => ?_; clear hA80 a79
 refine st hA82 (op_assign rfl (hA82.ev rfl)) rfl rfl (by decide) fun a83 hA84 => ?_; clear hA82 a81
 refine wl_nil ?_
 refine then_n ?_
 refine c_seq ?_
 refine c_seq ?_
 have hA85 := hA84.as [(6, (Value.int .i64 0)), (5, u74), (2, (bptr b4 0)), (1, vu)] rfl; clear hA84
 refine c_region ?_
 refine st hA85 (op_loadA rfl ty_24 (hA85.ev rfl) (hS73.bk 5 rfl) (l := [vr]) rfl rfl) rfl rfl (by decide) fun a86 hA87 => ?_; clear hA85 a83
 refine st hA87 (op_move rfl (hA87.ev rfl)) rfl rfl (by decide) fun a88 hA89 => ?_; clear hA87 a86
 refine stw hA89 (op_call rfl en_41 (ev2 (hA89.ev rfl) (hA89.ev rfl)) (fault_ok _ R _ (hS73.sk 6 rfl) rs _ _ (runs_at (hS73.ok 7 _ rfl)))) rfl rfl (by decide) ?_
 rintro a90 _ w92 ⟨rfl, hE93⟩ hA91; have hS94 := hS73.step hE93; clear hE93 hA89 hS73 a88
 refine st hA91 (op_assign rfl (hA91.ev rfl)) rfl rfl (by decide) fun a95 hA96 => ?_; clear hA91 a90
 refine wl_nil ?_
 refine then_n ?_
 refine c_seq ?_
 refine c_region ?_
 refine st hA96 (op_move rfl (hA96.ev rfl)) rfl rfl (by decide) fun a97 hA98 => ?_; clear hA96 a95
 refine st hA98 (op_neq rfl (hA98.ev rfl) (evc _ _)) rfl rfl (by decide) fun a99 hA100 => ?_; clear hA98 a97
 have hd101 : (enterF R rs) = 0 := he
 rw [decide_eq_true hd101] at hA100
 refine wl_nil ?_
 refine then_n ?_
 refine c_false hA100 rfl ?_
 refine c_skip ?_
 refine then_n ?_
 refine c_seq ?_
 have hA102 := hA100.as [(6, (Value.int .i64 0)), (5, u74), (2, (bptr b4 0)), (1, vu)] rfl; clear hA100
 refine c_region ?_
 refine st hA102 (op_move rfl (hA102.ev rfl)) rfl rfl (by decide) fun a103 hA104 => ?_; clear hA102 a99
 refine st hA104 (op_eql rfl (hA104.ev rfl) (evc _ _)) rfl rfl (by decide) fun a105 hA106 => ?_; clear hA104 a103
 refine st hA106 (op_move rfl (hA106.ev rfl)) rfl rfl (by decide) fun a107 hA108 => ?_; clear hA106 a105
 refine stg hA108 (op_move rfl (hA108.ev rfl)) rfl rfl rfl rfl (by decide) fun a109 hA110 => ?_; clear hA108 a107
 refine stg hA110 (op_loadA rfl ty_24 (hA110.ev rfl) (hS94.bk 5 rfl) (l := [vr]) rfl rfl) rfl rfl rfl rfl (by decide) fun a111 hA112 => ?_; clear hA110 a109
 refine stg hA112 (op_move rfl (hA112.ev rfl)) rfl rfl rfl rfl (by decide) fun a113 hA114 => ?_; clear hA112 a111
 refine stwg hA114 (op_call rfl en_45 (ev2 (hA114.ev rfl) (hA114.ev rfl)) (rDoubtful_ok _ R _ (hS94.sk 6 rfl) rs _ _ (runs_at (hS94.ok 7 _ rfl)) he)) rfl rfl rfl rfl (by decide) ?_
 rintro a115 v121 w117 ⟨hE118, hO119⟩ hA116; have hS120 := hS94.new_row hE118 hO119; clear hE118 hO119 hA114 hS94 a113
 refine stwg hA116 (op_call rfl en_44 (ev2 (hA116.ev rfl) (hA116.ev rfl)) (ints_ok _ (doubtF R rs) _ (SlAt.of_row (hS120.ok_row 1 rfl)) (doubtF R rs) _ (SlAt.of_row (hS120.ok_row 0 rfl)) (by omega))) rfl rfl rfl rfl (by decide) ?_
 rintro a122 _ w124 ⟨rfl, hE125⟩ hA123; have hS126 := hS120.step hE125; clear hE125 hA116 hS120 a115
 have hd127 : (decide ((doubtF R rs) = (doubtF R rs))) = true := (decide_eq_true rfl)
 rw [hd127] at hA123
 refine st hA123 (op_pick_t rfl (hA123.ev rfl) (hA123.ev rfl)) rfl rfl (by decide) fun a128 hA129 => ?_; clear hA123 a122
 refine st hA129 (op_move rfl (hA129.ev rfl)) rfl rfl (by decide) fun a130 hA131 => ?_; clear hA129 a128
 refine stwg hA131 (op_call rfl en_17 ev0 (awake_ok _)) rfl rfl rfl rfl (by decide) ?_
 rintro a132 _ w134 ⟨rfl, hE135⟩ hA133; have hS136 := hS126.step hE135; clear hE135 hA131 hS126 a130
 refine st hA133 (op_pick_t rfl (hA133.ev rfl) (hA133.ev rfl)) rfl rfl (by decide) fun a137 hA138 => ?_; clear hA133 a132
 refine st hA138 (op_assign rfl (hA138.ev rfl)) rfl rfl (by decide) fun a139 hA140 => ?_; clear hA138 a137
 refine wl_nil ?_
 refine then_n ?_
 refine c_ret ?_
 refine fin_run hA140 (.inl rfl) (run_results1 hA140 rfl (.tmp rfl)) ?_
 exact ⟨rfl, hS136.ext⟩
theorem CreepDoubts_ok (w : World) (R : List (Int × Int)) (vr : Value) (hm : SlAt w vr 2 R.length (pairs R)) (rs : List RunD) (lv : List Value) (vu : Value) (hx : RunsAt w vu lv rs) : Calls Try.prog 12 #[.agg #[vr], vu] w (Ret fun v w' => v = .bool true ∧ Ext NoB w w') := by
 rcases Bool.eq_false_or_eq_true (thinB R rs 0) with hf | hf
 ·by_cases hk0 : checkF R = 0
  ·by_cases hq : 1500 < (rlistsF R).length
   ·exact CreepDoubts_d w R vr hm rs lv vu hx hf hk0 hq
   ·by_cases he : enterF R rs = 0
    ·exact CreepDoubts_f w R vr hm rs lv vu hx hf hk0 he hq
    ·exact CreepDoubts_e w R vr hm rs lv vu hx hf hk0 he hq
  ·exact CreepDoubts_c w R vr hm rs lv vu hx hf hk0
 ·exact CreepDoubts_a w R vr hm rs lv vu hx hf
end Go.Proofs.Ytkkglkdnnfegkaa
