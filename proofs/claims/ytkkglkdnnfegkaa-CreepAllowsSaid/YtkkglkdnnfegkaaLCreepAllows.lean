/-
  Walks through the functions of the seat, printed by a program of ours (gowalk), a theorem a function: what the call returns and what it leaves in memory.
-/
import Derived.Test.YtkkglkdnnfegkaaBd
import Derived.Test.YtkkglkdnnfegkaaBe
set_option linter.unusedSimpArgs false
set_option linter.unusedVariables false
namespace Go.Proofs.Ytkkglkdnnfegkaa
open Go.RowKit Go.Shelf Go.Eng
set_option maxHeartbeats 4000000 in
theorem CreepAllows_a (w : World) (R : List (Int × Int)) (vr : Value) (hm : SlAt w vr 2 R.length (pairs R)) (rs : List RunD) (lv : List Value) (vu : Value) (hx : RunsAt w vu lv rs) (l : List Int) (xl : Value) (hxl : SlAt w xl 1 l.length (ints l)) (hf : thinB R rs 0 = false) :
  Calls Try.prog 10 #[(Value.agg #[vr]), vu, xl] w (Ret fun v w' => v = .bool true ∧ Ext NoB w w') := by
 refine calls_enter Try.func10 rfl fun a0 hA0 => ?_
 replace hA0 : Fr 73 [] [(0, (Value.agg #[vr])), (1, vu), (2, xl)] a0 := hA0
 have hS0 : Sep NoB w w [(sl xl 1 l.length (ints l)), (sl vr 2 R.length (pairs R)), (runsR false vu lv rs)] := sep_ro ⟨rfl, hxl, rfl, hm, rfl, hx, trivial⟩
 refine c_seq ?_
 refine c_region ?_
 refine stw hA0 (op_box hS0 rfl (hA0.ev rfl) (cs := [vr]) rfl) rfl rfl (by decide) ?_
 rintro a1 _ w3 ⟨b4, rfl, hS5⟩ hA2; clear hA0 hS0 a0
 refine st hA2 (op_assign rfl (evc _ _)) rfl rfl (by decide) fun a6 hA7 => ?_; clear hA2 a1
 refine wl_nil ?_
 refine then_n ?_
 refine c_seq ?_
 refine c_seq ?_
 refine c_region ?_
 refine st hA7 (op_loadA rfl ty_24 (hA7.ev rfl) (hS5.bk 0 rfl) (l := [vr]) rfl rfl) rfl rfl (by decide) fun a8 hA9 => ?_; clear hA7 a6
 refine st hA9 (op_move rfl (hA9.ev rfl)) rfl rfl (by decide) fun a10 hA11 => ?_; clear hA9 a8
 refine stw hA11 (op_call rfl en_16 (ev3 (hA11.ev rfl) (hA11.ev rfl) (evc _ _)) (callsB (Thin_ok _ R _ (hS5.sk 2 rfl) rs _ _ (runs_at (hS5.ok 3 _ rfl)) ([]) _ (slAt_nil _ 3)) (thinB R rs 0) rfl)) rfl rfl (by decide) ?_
 rintro a12 _ w14 ⟨rfl, hE15⟩ hA13; have hS16 := hS5.step hE15; clear hE15 hA11 hS5 a10
 rw [hf] at hA13
 refine st hA13 (op_not rfl (hA13.ev rfl)) rfl rfl (by decide) fun a17 hA18 => ?_; clear hA13 a12
 refine st hA18 (op_move rfl (hA18.ev rfl)) rfl rfl (by decide) fun a19 hA20 => ?_; clear hA18 a17
 refine skp hA20 rfl rfl rfl rfl rfl (by decide) fun a21 hA22 => ?_; clear hA20 a19
 refine skp hA22 rfl rfl rfl rfl rfl (by decide) fun a23 hA24 => ?_; clear hA22 a21
 refine skp hA24 rfl rfl rfl rfl rfl (by decide) fun a25 hA26 => ?_; clear hA24 a23
 refine st hA26 (op_pick_t rfl (hA26.ev rfl) (evc _ _)) rfl rfl (by decide) fun a27 hA28 => ?_; clear hA26 a25
 refine wl_nil ?_
 refine then_n ?_
 refine c_true hA28 rfl ?_
 refine c_seq ?_
 have hA29 := hA28.as [] rfl; clear hA28
 refine c_region ?_
 refine stw hA29 (op_call rfl en_17 ev0 (awake_ok _)) rfl rfl (by decide) ?_
 rintro a30 _ w32 ⟨rfl, hE33⟩ hA31; have hS34 := hS16.step hE33; clear hE33 hA29 hS16 a27
 refine st hA31 (op_assign rfl (hA31.ev rfl)) rfl rfl (by decide) fun a35 hA36 => ?_; clear hA31 a30
 refine wl_nil ?_
 refine then_n ?_
 refine c_ret ?_
 refine then_ret ?_
 refine fin_run hA36 (.inl rfl) (run_results1 hA36 rfl (.tmp rfl)) ?_
 exact ⟨rfl, hS34.ext⟩
set_option maxHeartbeats 4000000 in
theorem CreepAllows_b (w : World) (R : List (Int × Int)) (vr : Value) (hm : SlAt w vr 2 R.length (pairs R)) (rs : List RunD) (lv : List Value) (vu : Value) (hx : RunsAt w vu lv rs) (l : List Int) (xl : Value) (hxl : SlAt w xl 1 l.length (ints l)) (hf : thinB R rs 0 = true) (hl : ¬ l.length ≤ 8) :
  Calls Try.prog 10 #[(Value.agg #[vr]), vu, xl] w (Ret fun v w' => v = .bool true ∧ Ext NoB w w') := by
 refine calls_enter Try.func10 rfl fun a0 hA0 => ?_
 replace hA0 : Fr 73 [] [(0, (Value.agg #[vr])), (1, vu), (2, xl)] a0 := hA0
 have hS0 : Sep NoB w w [(sl xl 1 l.length (ints l)), (sl vr 2 R.length (pairs R)), (runsR false vu lv rs)] := sep_ro ⟨rfl, hxl, rfl, hm, rfl, hx, trivial⟩
 refine c_seq ?_
 refine c_region ?_
 refine stw hA0 (op_box hS0 rfl (hA0.ev rfl) (cs := [vr]) rfl) rfl rfl (by decide) ?_
 rintro a1 _ w3 ⟨b4, rfl, hS5⟩ hA2; clear hA0 hS0 a0
 refine st hA2 (op_assign rfl (evc _ _)) rfl rfl (by decide) fun a6 hA7 => ?_; clear hA2 a1
 refine wl_nil ?_
 refine then_n ?_
 refine c_seq ?_
 refine c_seq ?_
 refine c_region ?_
 refine st hA7 (op_loadA rfl ty_24 (hA7.ev rfl) (hS5.bk 0 rfl) (l := [vr]) rfl rfl) rfl rfl (by decide) fun a8 hA9 => ?_; clear hA7 a6
 refine st hA9 (op_move rfl (hA9.ev rfl)) rfl rfl (by decide) fun a10 hA11 => ?_; clear hA9 a8
 refine stw hA11 (op_call rfl en_16 (ev3 (hA11.ev rfl) (hA11.ev rfl) (evc _ _)) (callsB (Thin_ok _ R _ (hS5.sk 2 rfl) rs _ _ (runs_at (hS5.ok 3 _ rfl)) ([]) _ (slAt_nil _ 3)) (thinB R rs 0) rfl)) rfl rfl (by decide) ?_
 rintro a12 _ w14 ⟨rfl, hE15⟩ hA13; have hS16 := hS5.step hE15; clear hE15 hA11 hS5 a10
 rw [hf] at hA13
 refine st hA13 (op_not rfl (hA13.ev rfl)) rfl rfl (by decide) fun a17 hA18 => ?_; clear hA13 a12
 refine st hA18 (op_move rfl (hA18.ev rfl)) rfl rfl (by decide) fun a19 hA20 => ?_; clear hA18 a17
 refine stg hA20 (op_move rfl (hA20.ev rfl)) rfl rfl rfl rfl (by decide) fun a21 hA22 => ?_; clear hA20 a19
 refine stg hA22 (op_lenS rfl un_40 (hA22.ev rfl) (hS16.sk 1 rfl)) rfl rfl rfl rfl (by decide) fun a23 hA24 => ?_; clear hA22 a21
 refine stg hA24 (op_gtr rfl (hA24.ev rfl) (evc _ _)) rfl rfl rfl rfl (by decide) fun a25 hA26 => ?_; clear hA24 a23
 have hd27 : 8 < (l.length : Int) := (by omega)
 rw [decide_eq_true hd27] at hA26
 refine st hA26 (op_pick_f rfl (hA26.ev rfl) (hA26.ev rfl)) rfl rfl (by decide) fun a28 hA29 => ?_; clear hA26 a25
 refine wl_nil ?_
 refine then_n ?_
 refine c_true hA29 rfl ?_
 refine c_seq ?_
 have hA30 := hA29.as [] rfl; clear hA29
 refine c_region ?_
 refine stw hA30 (op_call rfl en_17 ev0 (awake_ok _)) rfl rfl (by decide) ?_
 rintro a31 _ w33 ⟨rfl, hE34⟩ hA32; have hS35 := hS16.step hE34; clear hE34 hA30 hS16 a28
 refine st hA32 (op_assign rfl (hA32.ev rfl)) rfl rfl (by decide) fun a36 hA37 => ?_; clear hA32 a31
 refine wl_nil ?_
 refine then_n ?_
 refine c_ret ?_
 refine then_ret ?_
 refine fin_run hA37 (.inl rfl) (run_results1 hA37 rfl (.tmp rfl)) ?_
 exact ⟨rfl, hS35.ext⟩
set_option maxHeartbeats 4000000 in
theorem CreepAllows_c (w : World) (R : List (Int × Int)) (vr : Value) (hm : SlAt w vr 2 R.length (pairs R)) (rs : List RunD) (lv : List Value) (vu : Value) (hx : RunsAt w vu lv rs) (l : List Int) (xl : Value) (hxl : SlAt w xl 1 l.length (ints l)) (hf : thinB R rs 0 = true) (hl : l.length ≤ 8) (hc : enterF R rs ≠ 0) :
  Calls Try.prog 10 #[(Value.agg #[vr]), vu, xl] w (Ret fun v w' => v = .bool true ∧ Ext NoB w w') := by
 refine calls_enter Try.func10 rfl fun a0 hA0 => ?_
 replace hA0 : Fr 73 [] [(0, (Value.agg #[vr])), (1, vu), (2, xl)] a0 := hA0
 have hth := thin_of hf; have h6 := hth.mat; have h9 := hth.runs
 have hS0 : Sep NoB w w [(sl xl 1 l.length (ints l)), (sl vr 2 R.length (pairs R)), (runsR false vu lv rs)] := sep_ro ⟨rfl, hxl, rfl, hm, rfl, hx, trivial⟩
 refine c_seq ?_
 refine c_region ?_
 refine stw hA0 (op_box hS0 rfl (hA0.ev rfl) (cs := [vr]) rfl) rfl rfl (by decide) ?_
 rintro a1 _ w3 ⟨b4, rfl, hS5⟩ hA2; clear hA0 hS0 a0
 refine st hA2 (op_assign rfl (evc _ _)) rfl rfl (by decide) fun a6 hA7 => ?_; clear hA2 a1
 refine wl_nil ?_
 refine then_n ?_
 refine c_seq ?_
 refine c_seq ?_
 refine c_region ?_
 refine st hA7 (op_loadA rfl ty_24 (hA7.ev rfl) (hS5.bk 0 rfl) (l := [vr]) rfl rfl) rfl rfl (by decide) fun a8 hA9 => ?_; clear hA7 a6
 refine st hA9 (op_move rfl (hA9.ev rfl)) rfl rfl (by decide) fun a10 hA11 => ?_; clear hA9 a8
 refine stw hA11 (op_call rfl en_16 (ev3 (hA11.ev rfl) (hA11.ev rfl) (evc _ _)) (callsB (Thin_ok _ R _ (hS5.sk 2 rfl) rs _ _ (runs_at (hS5.ok 3 _ rfl)) ([]) _ (slAt_nil _ 3)) (thinB R rs 0) rfl)) rfl rfl (by decide) ?_
 rintro a12 _ w14 ⟨rfl, hE15⟩ hA13; have hS16 := hS5.step hE15; clear hE15 hA11 hS5 a10
 rw [hf] at hA13
 refine st hA13 (op_not rfl (hA13.ev rfl)) rfl rfl (by decide) fun a17 hA18 => ?_; clear hA13 a12
 refine st hA18 (op_move rfl (hA18.ev rfl)) rfl rfl (by decide) fun a19 hA20 => ?_; clear hA18 a17
 refine stg hA20 (op_move rfl (hA20.ev rfl)) rfl rfl rfl rfl (by decide) fun a21 hA22 => ?_; clear hA20 a19
 refine stg hA22 (op_lenS rfl un_40 (hA22.ev rfl) (hS16.sk 1 rfl)) rfl rfl rfl rfl (by decide) fun a23 hA24 => ?_; clear hA22 a21
 refine stg hA24 (op_gtr rfl (hA24.ev rfl) (evc _ _)) rfl rfl rfl rfl (by decide) fun a25 hA26 => ?_; clear hA24 a23
 have hd27 : ¬ (8 < (l.length : Int)) := (by omega)
 rw [decide_eq_false hd27] at hA26
 refine st hA26 (op_pick_f rfl (hA26.ev rfl) (hA26.ev rfl)) rfl rfl (by decide) fun a28 hA29 => ?_; clear hA26 a25
 refine wl_nil ?_
 refine then_n ?_
 refine c_false hA29 rfl ?_
 refine c_skip ?_
 refine then_n ?_
 refine c_seq ?_
 have hA30 := hA29.as [(3, (bptr b4 0)), (1, vu), (2, xl)] rfl; clear hA29
 refine c_region ?_
 refine st hA30 (op_loadA rfl ty_24 (hA30.ev rfl) (hS16.bk 0 rfl) (l := [vr]) rfl rfl) rfl rfl (by decide) fun a31 hA32 => ?_; clear hA30 a28
 refine stw hA32 (op_call rfl en_19 (ev1 (hA32.ev rfl)) (Material_ok _ R _ (hS16.sk 2 rfl) hth.mat)) rfl rfl (by decide) ?_
 rintro a33 _ w35 ⟨u38, rfl, hT36⟩ hA34; have hS37 := hS16.callS hT36 rfl; clear hT36 hA32 hS16 a31
 refine stw hA34 (op_call rfl en_37 (ev1 (hA34.ev rfl)) (check_ok R _ _ (SlAt.of_row (hS37.ok_row 0 rfl)) (by omega))) rfl rfl (by decide) ?_
 rintro a39 _ w41 ⟨rfl, hE42⟩ hA40; have hS43 := hS37.step hE42; clear hE42 hA34 hS37 a33
 refine st hA40 (op_assign rfl (hA40.ev rfl)) rfl rfl (by decide) fun a44 hA45 => ?_; clear hA40 a39
 refine wl_nil ?_
 refine then_n ?_
 refine c_seq ?_
 refine c_region ?_
 refine st hA45 (op_loadA rfl ty_24 (hA45.ev rfl) (hS43.bk 1 rfl) (l := [vr]) rfl rfl) rfl rfl (by decide) fun a46 hA47 => ?_; clear hA45 a44
 refine stw hA47 (op_call rfl en_19 (ev1 (hA47.ev rfl)) (Material_ok _ R _ (hS43.sk 3 rfl) hth.mat)) rfl rfl (by decide) ?_
 rintro a48 _ w50 ⟨u53, rfl, hT51⟩ hA49; have hS52 := hS43.callS hT51 rfl; clear hT51 hA47 hS43 a46
 refine st hA49 (op_move rfl (hA49.ev rfl)) rfl rfl (by decide) fun a54 hA55 => ?_; clear hA49 a48
 refine stw hA55 (op_call rfl en_20 (ev1 (hA55.ev rfl)) (Runs_ok _ rs _ _ (runs_at (hS52.ok 5 _ rfl)) hth.runs hth.segs)) rfl rfl (by decide) ?_
 rintro a56 v61 w58 ⟨lv62, hT59⟩ hA57; have hS60 := hS52.callS hT59 rfl; clear hT59 hA55 hS52 a54
 refine st hA57 (op_move rfl (hA57.ev rfl)) rfl rfl (by decide) fun a63 hA64 => ?_; clear hA57 a56
 refine stw hA64 (op_call rfl en_39 (ev1 (hA64.ev rfl)) (list_ok _ l _ (hS60.sk 4 rfl) (by omega))) rfl rfl (by decide) ?_
 rintro a65 v71 w67 ⟨hE68, hO69⟩ hA66; have hS70 := hS60.new_row hE68 hO69; clear hE68 hO69 hA64 hS60 a63
 refine stw hA66 (op_call rfl en_38 (ev3 (hA66.ev rfl) (hA66.ev rfl) (hA66.ev rfl)) (allows_bad R rs lv62 u53 v61 _ (SlAt.of_row (hS70.ok_row 2 rfl)) (runs_at (hS70.ok 1 _ rfl)) (by omega) (by omega) l v71 (SlAt.of_row (hS70.ok_row 0 rfl)) (by omega) hc)) rfl rfl (by decide) ?_
 rintro a72 _ w74 ⟨rfl, hE75⟩ hA73; have hS76 := hS70.step hE75; clear hE75 hA66 hS70 a65
 refine st hA73 (op_move rfl (hA73.ev rfl)) rfl rfl (by decide) fun a77 hA78 => ?_; clear hA73 a72
 refine st hA78 (op_extract rfl (hA78.ev rfl) rfl) rfl rfl (by decide) fun a79 hA80 => ?_; clear hA78 a77
 refine st hA80 (op_extract rfl (hA80.ev rfl) rfl) rfl rfl (by decide) fun a81 hA82 => ?_; clear hA80 a79
 refine st hA82 (op_assign rfl (hA82.ev rfl)) rfl rfl (by decide) fun a83 hA84 => ?_; clear hA82 a81
 refine st hA84 (op_assign rfl (hA84.ev rfl)) rfl rfl (by decide) fun a85 hA86 => ?_; clear hA84 a83
 refine wl_nil ?_
 refine then_n ?_
 refine c_seq ?_
 refine c_seq ?_
 have hA87 := hA86.as [(9, (Value.int .i64 (enterF R rs))), (8, (Value.bool false)), (7, (Value.int .i64 (checkF R))), (3, (bptr b4 0)), (1, vu), (2, xl)] rfl; clear hA86
 refine c_region ?_
 refine st hA87 (op_move rfl (hA87.ev rfl)) rfl rfl (by decide) fun a88 hA89 => ?_; clear hA87 a85
 refine st hA89 (op_loadA rfl ty_24 (hA89.ev rfl) (hS76.bk 4 rfl) (l := [vr]) rfl rfl) rfl rfl (by decide) fun a90 hA91 => ?_; clear hA89 a88
 refine stw hA91 (op_call rfl en_40 (ev1 (hA91.ev rfl)) (MaterialFault_ok _ R _ (hS76.sk 6 rfl))) rfl rfl (by decide) ?_
 rintro a92 _ w94 ⟨rfl, hE95⟩ hA93; have hS96 := hS76.step hE95; clear hE95 hA91 hS76 a90
 refine st hA93 (op_neq rfl (hA93.ev rfl) (hA93.ev rfl)) rfl rfl (by decide) fun a97 hA98 => ?_; clear hA93 a92
 have hd99 : (checkF R) = (checkF R) := rfl
 rw [decide_eq_true hd99] at hA98
 refine wl_nil ?_
 refine then_n ?_
 refine c_false hA98 rfl ?_
 refine c_skip ?_
 refine then_n ?_
 refine c_seq ?_
 refine c_region ?_
 refine st hA98 (op_loadA rfl ty_24 (hA98.ev rfl) (hS96.bk 4 rfl) (l := [vr]) rfl rfl) rfl rfl (by decide) fun a100 hA101 => ?_; clear hA98 a97
 refine st hA101 (op_move rfl (hA101.ev rfl)) rfl rfl (by decide) fun a102 hA103 => ?_; clear hA101 a100
 refine stw hA103 (op_call rfl en_41 (ev2 (hA103.ev rfl) (hA103.ev rfl)) (fault_ok _ R _ (hS96.sk 6 rfl) rs _ _ (runs_at (hS96.ok 7 _ rfl)))) rfl rfl (by decide) ?_
 rintro a104 _ w106 ⟨rfl, hE107⟩ hA105; have hS108 := hS96.step hE107; clear hE107 hA103 hS96 a102
 refine st hA105 (op_assign rfl (hA105.ev rfl)) rfl rfl (by decide) fun a109 hA110 => ?_; clear hA105 a104
 refine wl_nil ?_
 refine then_n ?_
 refine c_seq ?_
 refine c_seq ?_
 have hA111 := hA110.as [(10, (Value.int .i64 (enterF R rs))), (9, (Value.int .i64 (enterF R rs))), (8, (Value.bool false)), (3, (bptr b4 0)), (1, vu), (2, xl)] rfl; clear hA110
 refine c_region ?_
 refine st hA111 (op_move rfl (hA111.ev rfl)) rfl rfl (by decide) fun a112 hA113 => ?_; clear hA111 a109
 refine st hA113 (op_eql rfl (hA113.ev rfl) (evc _ _)) rfl rfl (by decide) fun a114 hA115 => ?_; clear hA113 a112
 have hd116 : ¬ ((enterF R rs) = 0) := hc
 rw [decide_eq_false hd116] at hA115
 refine st hA115 (op_move rfl (hA115.ev rfl)) rfl rfl (by decide) fun a117 hA118 => ?_; clear hA115 a114
 refine skp hA118 rfl rfl rfl rfl rfl (by decide) fun a119 hA120 => ?_; clear hA118 a117
 refine skp hA120 rfl rfl rfl rfl rfl (by decide) fun a121 hA122 => ?_; clear hA120 a119
 refine skp hA122 rfl rfl rfl rfl rfl (by decide) fun a123 hA124 => ?_; clear hA122 a121
 refine skp hA124 rfl rfl rfl rfl rfl (by decide) fun a125 hA126 => ?_; clear hA124 a123
 refine st hA126 (op_pick_f rfl (hA126.ev rfl) (evc _ _)) rfl rfl (by decide) fun a127 hA128 => ?_; clear hA126 a125
 refine wl_nil ?_
 refine then_n ?_
 refine c_false hA128 rfl ?_
 refine c_skip ?_
 refine then_n ?_
 refine c_seq ?_
 refine c_seq ?_
 have hA129 := hA128.as [(10, (Value.int .i64 (enterF R rs))), (9, (Value.int .i64 (enterF R rs))), (8, (Value.bool false)), (1, vu), (2, xl)] rfl; clear hA128
 refine c_region ?_
 refine st hA129 (op_move rfl (hA129.ev rfl)) rfl rfl (by decide) fun a130 hA131 => ?_; clear hA129 a127
 refine st hA131 (op_neq rfl (hA131.ev rfl) (evc _ _)) rfl rfl (by decide) fun a132 hA133 => ?_; clear hA131 a130
 rw [decide_eq_false hd116] at hA133
 refine wl_nil ?_
 refine then_n ?_
 refine c_true hA133 rfl ?_
 refine c_seq ?_
 refine c_region ?_
 refine st hA133 (op_move rfl (hA133.ev rfl)) rfl rfl (by decide) fun a134 hA135 => ?_; clear hA133 a132
 refine st hA135 (op_move rfl (hA135.ev rfl)) rfl rfl (by decide) fun a136 hA137 => ?_; clear hA135 a134
 refine st hA137 (op_eql rfl (hA137.ev rfl) (hA137.ev rfl)) rfl rfl (by decide) fun a138 hA139 => ?_; clear hA137 a136
 have hd140 : (enterF R rs) = (enterF R rs) := rfl
 rw [decide_eq_true hd140] at hA139
 refine st hA139 (op_move rfl (hA139.ev rfl)) rfl rfl (by decide) fun a141 hA142 => ?_; clear hA139 a138
 refine stg hA142 (op_move rfl (hA142.ev rfl)) rfl rfl rfl rfl (by decide) fun a143 hA144 => ?_; clear hA142 a141
 refine stg hA144 (op_not rfl (hA144.ev rfl)) rfl rfl rfl rfl (by decide) fun a145 hA146 => ?_; clear hA144 a143
 refine st hA146 (op_pick_t rfl (hA146.ev rfl) (hA146.ev rfl)) rfl rfl (by decide) fun a147 hA148 => ?_; clear hA146 a145
 refine st hA148 (op_move rfl (hA148.ev rfl)) rfl rfl (by decide) fun a149 hA150 => ?_; clear hA148 a147
 refine stwg hA150 (op_call rfl en_17 ev0 (awake_ok _)) rfl rfl rfl rfl (by decide) ?_
 rintro a151 _ w153 ⟨rfl, hE154⟩ hA152; have hS155 := hS108.step hE154; clear hE154 hA150 hS108 a149
 refine st hA152 (op_pick_t rfl (hA152.ev rfl) (hA152.ev rfl)) rfl rfl (by decide) fun a156 hA157 => ?_; clear hA152 a151
 refine st hA157 (op_assign rfl (hA157.ev rfl)) rfl rfl (by decide) fun a158 hA159 => ?_; clear hA157 a156
 refine wl_nil ?_
 refine then_n ?_
 refine c_ret ?_
 refine then_ret ?_
 refine fin_run hA159 (.inl rfl) (run_results1 hA159 rfl (.tmp rfl)) ?_
 exact ⟨rfl, hS155.ext⟩
set_option maxHeartbeats 4000000 in
theorem CreepAllows_d (w : World) (R : List (Int × Int)) (vr : Value) (hm : SlAt w vr 2 R.length (pairs R)) (rs : List RunD) (lv : List Value) (vu : Value) (hx : RunsAt w vu lv rs) (l : List Int) (xl : Value) (hxl : SlAt w xl 1 l.length (ints l)) (hf : thinB R rs 0 = true) (hl : l.length ≤ 8) (hc : enterF R rs = 0) (hb : areB R l = false) :
  Calls Try.prog 10 #[(Value.agg #[vr]), vu, xl] w (Ret fun v w' => v = .bool true ∧ Ext NoB w w') := by
 refine calls_enter Try.func10 rfl fun a0 hA0 => ?_
 replace hA0 : Fr 73 [] [(0, (Value.agg #[vr])), (1, vu), (2, xl)] a0 := hA0
 have hth := thin_of hf; have h6 := hth.mat; have h9 := hth.runs; have hcm := check_mat (enter_mat hc); have hR := hcm.1; have hR1 := hcm.2.1; have hR3 := hR.1; have hV := enter_runs hc
 have hS0 : Sep NoB w w [(sl xl 1 l.length (ints l)), (sl vr 2 R.length (pairs R)), (runsR false vu lv rs)] := sep_ro ⟨rfl, hxl, rfl, hm, rfl, hx, trivial⟩
 refine c_seq ?_
 refine c_region ?_
 refine stw hA0 (op_box hS0 rfl (hA0.ev rfl) (cs := [vr]) rfl) rfl rfl (by decide) ?_
 rintro a1 _ w3 ⟨b4, rfl, hS5⟩ hA2; clear hA0 hS0 a0
 refine st hA2 (op_assign rfl (evc _ _)) rfl rfl (by decide) fun a6 hA7 => ?_; clear hA2 a1
 refine wl_nil ?_
 refine then_n ?_
 refine c_seq ?_
 refine c_seq ?_
 refine c_region ?_
 refine st hA7 (op_loadA rfl ty_24 (hA7.ev rfl) (hS5.bk 0 rfl) (l := [vr]) rfl rfl) rfl rfl (by decide) fun a8 hA9 => ?_; clear hA7 a6
 refine st hA9 (op_move rfl (hA9.ev rfl)) rfl rfl (by decide) fun a10 hA11 => ?_; clear hA9 a8
 refine stw hA11 (op_call rfl en_16 (ev3 (hA11.ev rfl) (hA11.ev rfl) (evc _ _)) (callsB (Thin_ok _ R _ (hS5.sk 2 rfl) rs _ _ (runs_at (hS5.ok 3 _ rfl)) ([]) _ (slAt_nil _ 3)) (thinB R rs 0) rfl)) rfl rfl (by decide) ?_
 rintro a12 _ w14 ⟨rfl, hE15⟩ hA13; have hS16 := hS5.step hE15; clear hE15 hA11 hS5 a10
 rw [hf] at hA13
 refine st hA13 (op_not rfl (hA13.ev rfl)) rfl rfl (by decide) fun a17 hA18 => ?_; clear hA13 a12
 refine st hA18 (op_move rfl (hA18.ev rfl)) rfl rfl (by decide) fun a19 hA20 => ?_; clear hA18 a17
 refine stg hA20 (op_move rfl (hA20.ev rfl)) rfl rfl rfl rfl (by decide) fun a21 hA22 => ?_; clear hA20 a19
 refine stg hA22 (op_lenS rfl un_40 (hA22.ev rfl) (hS16.sk 1 rfl)) rfl rfl rfl rfl (by decide) fun a23 hA24 => ?_; clear hA22 a21
 refine stg hA24 (op_gtr rfl (hA24.ev rfl) (evc _ _)) rfl rfl rfl rfl (by decide) fun a25 hA26 => ?_; clear hA24 a23
 have hd27 : ¬ (8 < (l.length : Int)) := (by omega)
 rw [decide_eq_false hd27] at hA26
 refine st hA26 (op_pick_f rfl (hA26.ev rfl) (hA26.ev rfl)) rfl rfl (by decide) fun a28 hA29 => ?_; clear hA26 a25
 refine wl_nil ?_
 refine then_n ?_
 refine c_false hA29 rfl ?_
 refine c_skip ?_
 refine then_n ?_
 refine c_seq ?_
 have hA30 := hA29.as [(3, (bptr b4 0)), (1, vu), (2, xl)] rfl; clear hA29
 refine c_region ?_
 refine st hA30 (op_loadA rfl ty_24 (hA30.ev rfl) (hS16.bk 0 rfl) (l := [vr]) rfl rfl) rfl rfl (by decide) fun a31 hA32 => ?_; clear hA30 a28
 refine stw hA32 (op_call rfl en_19 (ev1 (hA32.ev rfl)) (Material_ok _ R _ (hS16.sk 2 rfl) hth.mat)) rfl rfl (by decide) ?_
 rintro a33 _ w35 ⟨u38, rfl, hT36⟩ hA34; have hS37 := hS16.callS hT36 rfl; clear hT36 hA32 hS16 a31
 refine stw hA34 (op_call rfl en_37 (ev1 (hA34.ev rfl)) (check_ok R _ _ (SlAt.of_row (hS37.ok_row 0 rfl)) (by omega))) rfl rfl (by decide) ?_
 rintro a39 _ w41 ⟨rfl, hE42⟩ hA40; have hS43 := hS37.step hE42; clear hE42 hA34 hS37 a33
 refine st hA40 (op_assign rfl (hA40.ev rfl)) rfl rfl (by decide) fun a44 hA45 => ?_; clear hA40 a39
 refine wl_nil ?_
 refine then_n ?_
 refine c_seq ?_
 refine c_region ?_
 refine st hA45 (op_loadA rfl ty_24 (hA45.ev rfl) (hS43.bk 1 rfl) (l := [vr]) rfl rfl) rfl rfl (by decide) fun a46 hA47 => ?_; clear hA45 a44
 refine stw hA47 (op_call rfl en_19 (ev1 (hA47.ev rfl)) (Material_ok _ R _ (hS43.sk 3 rfl) hth.mat)) rfl rfl (by decide) ?_
 rintro a48 _ w50 ⟨u53, rfl, hT51⟩ hA49; have hS52 := hS43.callS hT51 rfl; clear hT51 hA47 hS43 a46
 refine st hA49 (op_move rfl (hA49.ev rfl)) rfl rfl (by decide) fun a54 hA55 => ?_; clear hA49 a48
 refine stw hA55 (op_call rfl en_20 (ev1 (hA55.ev rfl)) (Runs_ok _ rs _ _ (runs_at (hS52.ok 5 _ rfl)) hth.runs hth.segs)) rfl rfl (by decide) ?_
 rintro a56 v61 w58 ⟨lv62, hT59⟩ hA57; have hS60 := hS52.callS hT59 rfl; clear hT59 hA55 hS52 a54
 refine st hA57 (op_move rfl (hA57.ev rfl)) rfl rfl (by decide) fun a63 hA64 => ?_; clear hA57 a56
 refine stw hA64 (op_call rfl en_39 (ev1 (hA64.ev rfl)) (list_ok _ l _ (hS60.sk 4 rfl) (by omega))) rfl rfl (by decide) ?_
 rintro a65 v71 w67 ⟨hE68, hO69⟩ hA66; have hS70 := hS60.new_row hE68 hO69; clear hE68 hO69 hA64 hS60 a63
 refine stw hA66 (op_call rfl en_38 (ev3 (hA66.ev rfl) (hA66.ev rfl) (hA66.ev rfl)) (allows_no R rs lv62 u53 v61 _ (SlAt.of_row (hS70.ok_row 2 rfl)) (runs_at (hS70.ok 1 _ rfl)) (by omega) (by omega) l v71 (SlAt.of_row (hS70.ok_row 0 rfl)) (by omega) hc hb)) rfl rfl (by decide) ?_
 rintro a72 _ w74 ⟨rfl, hE75⟩ hA73; have hS76 := hS70.step hE75; clear hE75 hA66 hS70 a65
 refine st hA73 (op_move rfl (hA73.ev rfl)) rfl rfl (by decide) fun a77 hA78 => ?_; clear hA73 a72
 refine st hA78 (op_extract rfl (hA78.ev rfl) rfl) rfl rfl (by decide) fun a79 hA80 => ?_; clear hA78 a77
 refine st hA80 (op_extract rfl (hA80.ev rfl) rfl) rfl rfl (by decide) fun a81 hA82 => ?_; clear hA80 a79
 refine st hA82 (op_assign rfl (hA82.ev rfl)) rfl rfl (by decide) fun a83 hA84 => ?_; clear hA82 a81
 refine st hA84 (op_assign rfl (hA84.ev rfl)) rfl rfl (by decide) fun a85 hA86 => ?_; clear hA84 a83
 refine wl_nil ?_
 refine then_n ?_
 refine c_seq ?_
 refine c_seq ?_
 have hA87 := hA86.as [(9, (Value.int .i64 2)), (8, (Value.bool false)), (7, (Value.int .i64 (checkF R))), (3, (bptr b4 0)), (1, vu), (2, xl)] rfl; clear hA86
 refine c_region ?_
 refine st hA87 (op_move rfl (hA87.ev rfl)) rfl rfl (by decide) fun a88 hA89 => ?_; clear hA87 a85
 refine st hA89 (op_loadA rfl ty_24 (hA89.ev rfl) (hS76.bk 4 rfl) (l := [vr]) rfl rfl) rfl rfl (by decide) fun a90 hA91 => ?_; clear hA89 a88
 refine stw hA91 (op_call rfl en_40 (ev1 (hA91.ev rfl)) (MaterialFault_ok _ R _ (hS76.sk 6 rfl))) rfl rfl (by decide) ?_
 rintro a92 _ w94 ⟨rfl, hE95⟩ hA93; have hS96 := hS76.step hE95; clear hE95 hA91 hS76 a90
 refine st hA93 (op_neq rfl (hA93.ev rfl) (hA93.ev rfl)) rfl rfl (by decide) fun a97 hA98 => ?_; clear hA93 a92
 have hd99 : (checkF R) = (checkF R) := rfl
 rw [decide_eq_true hd99] at hA98
 refine wl_nil ?_
 refine then_n ?_
 refine c_false hA98 rfl ?_
 refine c_skip ?_
 refine then_n ?_
 refine c_seq ?_
 refine c_region ?_
 refine st hA98 (op_loadA rfl ty_24 (hA98.ev rfl) (hS96.bk 4 rfl) (l := [vr]) rfl rfl) rfl rfl (by decide) fun a100 hA101 => ?_; clear hA98 a97
 refine st hA101 (op_move rfl (hA101.ev rfl)) rfl rfl (by decide) fun a102 hA103 => ?_; clear hA101 a100
 refine stw hA103 (op_call rfl en_41 (ev2 (hA103.ev rfl) (hA103.ev rfl)) (fault_ok _ R _ (hS96.sk 6 rfl) rs _ _ (runs_at (hS96.ok 7 _ rfl)))) rfl rfl (by decide) ?_
 rintro a104 _ w106 ⟨rfl, hE107⟩ hA105; have hS108 := hS96.step hE107; clear hE107 hA103 hS96 a102
 refine st hA105 (op_assign rfl (hA105.ev rfl)) rfl rfl (by decide) fun a109 hA110 => ?_; clear hA105 a104
 refine wl_nil ?_
 refine then_n ?_
 refine c_seq ?_
 refine c_seq ?_
 have hA111 := hA110.as [(10, (Value.int .i64 (enterF R rs))), (9, (Value.int .i64 2)), (8, (Value.bool false)), (3, (bptr b4 0)), (1, vu), (2, xl)] rfl; clear hA110
 refine c_region ?_
 refine st hA111 (op_move rfl (hA111.ev rfl)) rfl rfl (by decide) fun a112 hA113 => ?_; clear hA111 a109
 refine st hA113 (op_eql rfl (hA113.ev rfl) (evc _ _)) rfl rfl (by decide) fun a114 hA115 => ?_; clear hA113 a112
 have hd116 : (enterF R rs) = 0 := hc
 rw [decide_eq_true hd116] at hA115
 refine st hA115 (op_move rfl (hA115.ev rfl)) rfl rfl (by decide) fun a117 hA118 => ?_; clear hA115 a114
 refine stg hA118 (op_loadA rfl ty_24 (hA118.ev rfl) (hS108.bk 4 rfl) (l := [vr]) rfl rfl) rfl rfl rfl rfl (by decide) fun a119 hA120 => ?_; clear hA118 a117
 refine stg hA120 (op_move rfl (hA120.ev rfl)) rfl rfl rfl rfl (by decide) fun a121 hA122 => ?_; clear hA120 a119
 refine stwg hA122 (op_call rfl en_35 (ev2 (hA122.ev rfl) (hA122.ev rfl)) (AreRates_ok _ R _ (hS108.sk 6 rfl) l _ (hS108.sk 5 rfl) (by omega))) rfl rfl rfl rfl (by decide) ?_
 rintro a123 _ w125 ⟨rfl, hE126⟩ hA124; have hS127 := hS108.step hE126; clear hE126 hA122 hS108 a121
 rw [hb] at hA124
 refine stg hA124 (op_not rfl (hA124.ev rfl)) rfl rfl rfl rfl (by decide) fun a128 hA129 => ?_; clear hA124 a123
 refine st hA129 (op_pick_t rfl (hA129.ev rfl) (hA129.ev rfl)) rfl rfl (by decide) fun a130 hA131 => ?_; clear hA129 a128
 refine wl_nil ?_
 refine then_n ?_
 refine c_true hA131 rfl ?_
 have hA132 := hA131.as [(9, (Value.int .i64 2)), (8, (Value.bool false)), (1, vu), (2, xl)] rfl; clear hA131
 refine c_region ?_
 refine st hA132 (op_assign rfl (evc _ _)) rfl rfl (by decide) fun a133 hA134 => ?_; clear hA132 a130
 refine wl_nil ?_
 refine then_n ?_
 refine c_seq ?_
 refine c_seq ?_
 refine c_region ?_
 refine st hA134 (op_move rfl (hA134.ev rfl)) rfl rfl (by decide) fun a135 hA136 => ?_; clear hA134 a133
 refine st hA136 (op_neq rfl (hA136.ev rfl) (evc _ _)) rfl rfl (by decide) fun a137 hA138 => ?_; clear hA136 a135
 refine wl_nil ?_
 refine then_n ?_
 refine c_true hA138 rfl ?_
 refine c_seq ?_
 refine c_region ?_
 refine st hA138 (op_move rfl (hA138.ev rfl)) rfl rfl (by decide) fun a139 hA140 => ?_; clear hA138 a137
 refine st hA140 (op_move rfl (hA140.ev rfl)) rfl rfl (by decide) fun a141 hA142 => ?_; clear hA140 a139
 refine st hA142 (op_eql rfl (hA142.ev rfl) (hA142.ev rfl)) rfl rfl (by decide) fun a143 hA144 => ?_; clear hA142 a141
 refine st hA144 (op_move rfl (hA144.ev rfl)) rfl rfl (by decide) fun a145 hA146 => ?_; clear hA144 a143
 refine stg hA146 (op_move rfl (hA146.ev rfl)) rfl rfl rfl rfl (by decide) fun a147 hA148 => ?_; clear hA146 a145
 refine stg hA148 (op_not rfl (hA148.ev rfl)) rfl rfl rfl rfl (by decide) fun a149 hA150 => ?_; clear hA148 a147
 refine st hA150 (op_pick_t rfl (hA150.ev rfl) (hA150.ev rfl)) rfl rfl (by decide) fun a151 hA152 => ?_; clear hA150 a149
 refine st hA152 (op_move rfl (hA152.ev rfl)) rfl rfl (by decide) fun a153 hA154 => ?_; clear hA152 a151
 refine stwg hA154 (op_call rfl en_17 ev0 (awake_ok _)) rfl rfl rfl rfl (by decide) ?_
 rintro a155 _ w157 ⟨rfl, hE158⟩ hA156; have hS159 := hS127.step hE158; clear hE158 hA154 hS127 a153
 refine st hA156 (op_pick_t rfl (hA156.ev rfl) (hA156.ev rfl)) rfl rfl (by decide) fun a160 hA161 => ?_; clear hA156 a155
 refine st hA161 (op_assign rfl (hA161.ev rfl)) rfl rfl (by decide) fun a162 hA163 => ?_; clear hA161 a160
 refine wl_nil ?_
 refine then_n ?_
 refine c_ret ?_
 refine then_ret ?_
 refine fin_run hA163 (.inl rfl) (run_results1 hA163 rfl (.tmp rfl)) ?_
 exact ⟨rfl, hS159.ext⟩
set_option maxHeartbeats 4000000 in
theorem CreepAllows_e (w : World) (R : List (Int × Int)) (vr : Value) (hm : SlAt w vr 2 R.length (pairs R)) (rs : List RunD) (lv : List Value) (vu : Value) (hx : RunsAt w vu lv rs) (l : List Int) (xl : Value) (hxl : SlAt w xl 1 l.length (ints l)) (hf : thinB R rs 0 = true) (hl : l.length ≤ 8) (hc : enterF R rs = 0) (hb : areB R l = true) :
  Calls Try.prog 10 #[(Value.agg #[vr]), vu, xl] w (Ret fun v w' => v = .bool true ∧ Ext NoB w w') := by
 refine calls_enter Try.func10 rfl fun a0 hA0 => ?_
 replace hA0 : Fr 73 [] [(0, (Value.agg #[vr])), (1, vu), (2, xl)] a0 := hA0
 have hth := thin_of hf; have h6 := hth.mat; have h9 := hth.runs; have hcm := check_mat (enter_mat hc); have hR := hcm.1; have hR1 := hcm.2.1; have hR3 := hR.1; have hV := enter_runs hc; have hln := (areB_is hb).1
 have hS0 : Sep NoB w w [(sl xl 1 l.length (ints l)), (sl vr 2 R.length (pairs R)), (runsR false vu lv rs)] := sep_ro ⟨rfl, hxl, rfl, hm, rfl, hx, trivial⟩
 refine c_seq ?_
 refine c_region ?_
 refine stw hA0 (op_box hS0 rfl (hA0.ev rfl) (cs := [vr]) rfl) rfl rfl (by decide) ?_
 rintro a1 _ w3 ⟨b4, rfl, hS5⟩ hA2; clear hA0 hS0 a0
 refine st hA2 (op_assign rfl (evc _ _)) rfl rfl (by decide) fun a6 hA7 => ?_; clear hA2 a1
 refine wl_nil ?_
 refine then_n ?_
 refine c_seq ?_
 refine c_seq ?_
 refine c_region ?_
 refine st hA7 (op_loadA rfl ty_24 (hA7.ev rfl) (hS5.bk 0 rfl) (l := [vr]) rfl rfl) rfl rfl (by decide) fun a8 hA9 => ?_; clear hA7 a6
 refine st hA9 (op_move rfl (hA9.ev rfl)) rfl rfl (by decide) fun a10 hA11 => ?_; clear hA9 a8
 refine stw hA11 (op_call rfl en_16 (ev3 (hA11.ev rfl) (hA11.ev rfl) (evc _ _)) (callsB (Thin_ok _ R _ (hS5.sk 2 rfl) rs _ _ (runs_at (hS5.ok 3 _ rfl)) ([]) _ (slAt_nil _ 3)) (thinB R rs 0) rfl)) rfl rfl (by decide) ?_
 rintro a12 _ w14 ⟨rfl, hE15⟩ hA13; have hS16 := hS5.step hE15; clear hE15 hA11 hS5 a10
 rw [hf] at hA13
 refine st hA13 (op_not rfl (hA13.ev rfl)) rfl rfl (by decide) fun a17 hA18 => ?_; clear hA13 a12
 refine st hA18 (op_move rfl (hA18.ev rfl)) rfl rfl (by decide) fun a19 hA20 => ?_; clear hA18 a17
 refine stg hA20 (op_move rfl (hA20.ev rfl)) rfl rfl rfl rfl (by decide) fun a21 hA22 => ?_; clear hA20 a19
 refine stg hA22 (op_lenS rfl un_40 (hA22.ev rfl) (hS16.sk 1 rfl)) rfl rfl rfl rfl (by decide) fun a23 hA24 => ?_; clear hA22 a21
 refine stg hA24 (op_gtr rfl (hA24.ev rfl) (evc _ _)) rfl rfl rfl rfl (by decide) fun a25 hA26 => ?_; clear hA24 a23
 have hd27 : ¬ (8 < (l.length : Int)) := (by omega)
 rw [decide_eq_false hd27] at hA26
 refine st hA26 (op_pick_f rfl (hA26.ev rfl) (hA26.ev rfl)) rfl rfl (by decide) fun a28 hA29 => ?_; clear hA26 a25
 refine wl_nil ?_
 refine then_n ?_
 refine c_false hA29 rfl ?_
 refine c_skip ?_
 refine then_n ?_
 refine c_seq ?_
 have hA30 := hA29.as [(3, (bptr b4 0)), (1, vu), (2, xl)] rfl; clear hA29
 refine c_region ?_
 refine st hA30 (op_loadA rfl ty_24 (hA30.ev rfl) (hS16.bk 0 rfl) (l := [vr]) rfl rfl) rfl rfl (by decide) fun a31 hA32 => ?_; clear hA30 a28
 refine stw hA32 (op_call rfl en_19 (ev1 (hA32.ev rfl)) (Material_ok _ R _ (hS16.sk 2 rfl) hth.mat)) rfl rfl (by decide) ?_
 rintro a33 _ w35 ⟨u38, rfl, hT36⟩ hA34; have hS37 := hS16.callS hT36 rfl; clear hT36 hA32 hS16 a31
 refine stw hA34 (op_call rfl en_37 (ev1 (hA34.ev rfl)) (check_ok R _ _ (SlAt.of_row (hS37.ok_row 0 rfl)) (by omega))) rfl rfl (by decide) ?_
 rintro a39 _ w41 ⟨rfl, hE42⟩ hA40; have hS43 := hS37.step hE42; clear hE42 hA34 hS37 a33
 refine st hA40 (op_assign rfl (hA40.ev rfl)) rfl rfl (by decide) fun a44 hA45 => ?_; clear hA40 a39
 refine wl_nil ?_
 refine then_n ?_
 refine c_seq ?_
 refine c_region ?_
 refine st hA45 (op_loadA rfl ty_24 (hA45.ev rfl) (hS43.bk 1 rfl) (l := [vr]) rfl rfl) rfl rfl (by decide) fun a46 hA47 => ?_; clear hA45 a44
 refine stw hA47 (op_call rfl en_19 (ev1 (hA47.ev rfl)) (Material_ok _ R _ (hS43.sk 3 rfl) hth.mat)) rfl rfl (by decide) ?_
 rintro a48 _ w50 ⟨u53, rfl, hT51⟩ hA49; have hS52 := hS43.callS hT51 rfl; clear hT51 hA47 hS43 a46
 refine st hA49 (op_move rfl (hA49.ev rfl)) rfl rfl (by decide) fun a54 hA55 => ?_; clear hA49 a48
 refine stw hA55 (op_call rfl en_20 (ev1 (hA55.ev rfl)) (Runs_ok _ rs _ _ (runs_at (hS52.ok 5 _ rfl)) hth.runs hth.segs)) rfl rfl (by decide) ?_
 rintro a56 v61 w58 ⟨lv62, hT59⟩ hA57; have hS60 := hS52.callS hT59 rfl; clear hT59 hA55 hS52 a54
 refine st hA57 (op_move rfl (hA57.ev rfl)) rfl rfl (by decide) fun a63 hA64 => ?_; clear hA57 a56
 refine stw hA64 (op_call rfl en_39 (ev1 (hA64.ev rfl)) (list_ok _ l _ (hS60.sk 4 rfl) (by omega))) rfl rfl (by decide) ?_
 rintro a65 v71 w67 ⟨hE68, hO69⟩ hA66; have hS70 := hS60.new_row hE68 hO69; clear hE68 hO69 hA64 hS60 a63
 refine stw hA66 (op_call rfl en_38 (ev3 (hA66.ev rfl) (hA66.ev rfl) (hA66.ev rfl)) (allows_yes R rs lv62 u53 v61 _ (SlAt.of_row (hS70.ok_row 2 rfl)) (runs_at (hS70.ok 1 _ rfl)) (by omega) (by omega) l v71 (SlAt.of_row (hS70.ok_row 0 rfl)) (by omega) hc hb (pad_rates hR hb))) rfl rfl (by decide) ?_
 rintro a72 _ w74 ⟨rfl, hE75⟩ hA73; have hS76 := hS70.step hE75; clear hE75 hA66 hS70 a65
 rw [allow_pad hR hV hb] at hA73
 refine st hA73 (op_move rfl (hA73.ev rfl)) rfl rfl (by decide) fun a77 hA78 => ?_; clear hA73 a72
 refine st hA78 (op_extract rfl (hA78.ev rfl) rfl) rfl rfl (by decide) fun a79 hA80 => ?_; clear hA78 a77
 refine st hA80 (op_extract rfl (hA80.ev rfl) rfl) rfl rfl (by decide) fun a81 hA82 => ?_; clear hA80 a79
 refine st hA82 (op_assign rfl (hA82.ev rfl)) rfl rfl (by decide) fun a83 hA84 => ?_; clear hA82 a81
 refine st hA84 (op_assign rfl (hA84.ev rfl)) rfl rfl (by decide) fun a85 hA86 => ?_; clear hA84 a83
 refine wl_nil ?_
 refine then_n ?_
 refine c_seq ?_
 refine c_seq ?_
 have hA87 := hA86.as [(9, (Value.int .i64 0)), (8, (Value.bool (allowB rs l))), (7, (Value.int .i64 (checkF R))), (3, (bptr b4 0)), (1, vu), (2, xl)] rfl; clear hA86
 refine c_region ?_
 refine st hA87 (op_move rfl (hA87.ev rfl)) rfl rfl (by decide) fun a88 hA89 => ?_; clear hA87 a85
 refine st hA89 (op_loadA rfl ty_24 (hA89.ev rfl) (hS76.bk 4 rfl) (l := [vr]) rfl rfl) rfl rfl (by decide) fun a90 hA91 => ?_; clear hA89 a88
 refine stw hA91 (op_call rfl en_40 (ev1 (hA91.ev rfl)) (MaterialFault_ok _ R _ (hS76.sk 6 rfl))) rfl rfl (by decide) ?_
 rintro a92 _ w94 ⟨rfl, hE95⟩ hA93; have hS96 := hS76.step hE95; clear hE95 hA91 hS76 a90
 refine st hA93 (op_neq rfl (hA93.ev rfl) (hA93.ev rfl)) rfl rfl (by decide) fun a97 hA98 => ?_; clear hA93 a92
 have hd99 : (checkF R) = (checkF R) := rfl
 rw [decide_eq_true hd99] at hA98
 refine wl_nil ?_
 refine then_n ?_
 refine c_false hA98 rfl ?_
 refine c_skip ?_
 refine then_n ?_
 refine c_seq ?_
 refine c_region ?_
 refine st hA98 (op_loadA rfl ty_24 (hA98.ev rfl) (hS96.bk 4 rfl) (l := [vr]) rfl rfl) rfl rfl (by decide) fun a100 hA101 => ?_; clear hA98 a97
 refine st hA101 (op_move rfl (hA101.ev rfl)) rfl rfl (by decide) fun a102 hA103 => ?_; clear hA101 a100
 refine stw hA103 (op_call rfl en_41 (ev2 (hA103.ev rfl) (hA103.ev rfl)) (fault_ok _ R _ (hS96.sk 6 rfl) rs _ _ (runs_at (hS96.ok 7 _ rfl)))) rfl rfl (by decide) ?_
 rintro a104 _ w106 ⟨rfl, hE107⟩ hA105; have hS108 := hS96.step hE107; clear hE107 hA103 hS96 a102
 refine st hA105 (op_assign rfl (hA105.ev rfl)) rfl rfl (by decide) fun a109 hA110 => ?_; clear hA105 a104
 refine wl_nil ?_
 refine then_n ?_
 refine c_seq ?_
 refine c_seq ?_
 have hA111 := hA110.as [(10, (Value.int .i64 (enterF R rs))), (9, (Value.int .i64 0)), (8, (Value.bool (allowB rs l))), (3, (bptr b4 0)), (1, vu), (2, xl)] rfl; clear hA110
 refine c_region ?_
 refine st hA111 (op_move rfl (hA111.ev rfl)) rfl rfl (by decide) fun a112 hA113 => ?_; clear hA111 a109
 refine st hA113 (op_eql rfl (hA113.ev rfl) (evc _ _)) rfl rfl (by decide) fun a114 hA115 => ?_; clear hA113 a112
 have hd116 : (enterF R rs) = 0 := hc
 rw [decide_eq_true hd116] at hA115
 refine st hA115 (op_move rfl (hA115.ev rfl)) rfl rfl (by decide) fun a117 hA118 => ?_; clear hA115 a114
 refine stg hA118 (op_loadA rfl ty_24 (hA118.ev rfl) (hS108.bk 4 rfl) (l := [vr]) rfl rfl) rfl rfl rfl rfl (by decide) fun a119 hA120 => ?_; clear hA118 a117
 refine stg hA120 (op_move rfl (hA120.ev rfl)) rfl rfl rfl rfl (by decide) fun a121 hA122 => ?_; clear hA120 a119
 refine stwg hA122 (op_call rfl en_35 (ev2 (hA122.ev rfl) (hA122.ev rfl)) (AreRates_ok _ R _ (hS108.sk 6 rfl) l _ (hS108.sk 5 rfl) (by omega))) rfl rfl rfl rfl (by decide) ?_
 rintro a123 _ w125 ⟨rfl, hE126⟩ hA124; have hS127 := hS108.step hE126; clear hE126 hA122 hS108 a121
 rw [hb] at hA124
 refine stg hA124 (op_not rfl (hA124.ev rfl)) rfl rfl rfl rfl (by decide) fun a128 hA129 => ?_; clear hA124 a123
 refine st hA129 (op_pick_t rfl (hA129.ev rfl) (hA129.ev rfl)) rfl rfl (by decide) fun a130 hA131 => ?_; clear hA129 a128
 refine wl_nil ?_
 refine then_n ?_
 refine c_false hA131 rfl ?_
 refine c_skip ?_
 refine then_n ?_
 refine c_seq ?_
 refine c_seq ?_
 have hA132 := hA131.as [(10, (Value.int .i64 (enterF R rs))), (9, (Value.int .i64 0)), (8, (Value.bool (allowB rs l))), (1, vu), (2, xl)] rfl; clear hA131
 refine c_region ?_
 refine st hA132 (op_move rfl (hA132.ev rfl)) rfl rfl (by decide) fun a133 hA134 => ?_; clear hA132 a130
 refine st hA134 (op_neq rfl (hA134.ev rfl) (evc _ _)) rfl rfl (by decide) fun a135 hA136 => ?_; clear hA134 a133
 rw [decide_eq_true hd116] at hA136
 refine wl_nil ?_
 refine then_n ?_
 refine c_false hA136 rfl ?_
 refine c_skip ?_
 refine then_n ?_
 refine c_seq ?_
 refine c_region ?_
 refine st hA136 (op_move rfl (hA136.ev rfl)) rfl rfl (by decide) fun a137 hA138 => ?_; clear hA136 a135
 refine st hA138 (op_eql rfl (hA138.ev rfl) (evc _ _)) rfl rfl (by decide) fun a139 hA140 => ?_; clear hA138 a137
 refine st hA140 (op_move rfl (hA140.ev rfl)) rfl rfl (by decide) fun a141 hA142 => ?_; clear hA140 a139
 refine stg hA142 (op_move rfl (hA142.ev rfl)) rfl rfl rfl rfl (by decide) fun a143 hA144 => ?_; clear hA142 a141
 refine stg hA144 (op_move rfl (hA144.ev rfl)) rfl rfl rfl rfl (by decide) fun a145 hA146 => ?_; clear hA144 a143
 refine stg hA146 (op_move rfl (hA146.ev rfl)) rfl rfl rfl rfl (by decide) fun a147 hA148 => ?_; clear hA146 a145
 refine stwg hA148 (op_call rfl en_36 (ev2 (hA148.ev rfl) (hA148.ev rfl)) (rAllows_ok _ rs _ _ (runs_at (hS127.ok 7 _ rfl)) l _ (hS127.sk 5 rfl) R.length hR.1 (by omega) (are_small hR hb) hV)) rfl rfl rfl rfl (by decide) ?_
 rintro a149 _ w151 ⟨rfl, hE152⟩ hA150; have hS153 := hS127.step hE152; clear hE152 hA148 hS127 a147
 refine stg hA150 (op_eqlB un_4 rfl (hA150.ev rfl) (hA150.ev rfl)) rfl rfl rfl rfl (by decide) fun a154 hA155 => ?_; clear hA150 a149
 refine st hA155 (op_pick_t rfl (hA155.ev rfl) (hA155.ev rfl)) rfl rfl (by decide) fun a156 hA157 => ?_; clear hA155 a154
 refine st hA157 (op_move rfl (hA157.ev rfl)) rfl rfl (by decide) fun a158 hA159 => ?_; clear hA157 a156
 rcases Bool.eq_false_or_eq_true ((allowB rs l)) with hb160 | hb160
 ·skip
  rw [hb160] at hA159
  refine stwg hA159 (op_call rfl en_17 ev0 (awake_ok _)) rfl rfl rfl rfl (by decide) ?_
  rintro a161 _ w163 ⟨rfl, hE164⟩ hA162; have hS165 := hS153.step hE164; clear hE164 hA159 hS153 a158
  refine st hA162 (op_pick_t rfl (hA162.ev rfl) (hA162.ev rfl)) rfl rfl (by decide) fun a166 hA167 => ?_; clear hA162 a161
  refine st hA167 (op_assign rfl (hA167.ev rfl)) rfl rfl (by decide) fun a168 hA169 => ?_; clear hA167 a166
  refine wl_nil ?_
  refine then_n ?_
  refine c_ret ?_
  refine fin_run hA169 (.inl rfl) (run_results1 hA169 rfl (.tmp rfl)) ?_
  exact ⟨rfl, hS165.ext⟩
 ·skip
  rw [hb160] at hA159
  refine stwg hA159 (op_call rfl en_17 ev0 (awake_ok _)) rfl rfl rfl rfl (by decide) ?_
  rintro a170 _ w172 ⟨rfl, hE173⟩ hA171; have hS174 := hS153.step hE173; clear hE173 hA159 hS153 a158
  refine st hA171 (op_pick_t rfl (hA171.ev rfl) (hA171.ev rfl)) rfl rfl (by decide) fun a175 hA176 => ?_; clear hA171 a170
  refine st hA176 (op_assign rfl (hA176.ev rfl)) rfl rfl (by decide) fun a177 hA178 => ?_; clear hA176 a175
  refine wl_nil ?_
  refine then_n ?_
  refine c_ret ?_
  refine fin_run hA178 (.inl rfl) (run_results1 hA178 rfl (.tmp rfl)) ?_
  exact ⟨rfl, hS174.ext⟩
theorem CreepAllows_ok (w : World) (R : List (Int × Int)) (vr : Value) (hm : SlAt w vr 2 R.length (pairs R)) (rs : List RunD) (lv : List Value) (vu : Value) (hx : RunsAt w vu lv rs) (l : List Int) (xl : Value) (hxl : SlAt w xl 1 l.length (ints l)) : Calls Try.prog 10 #[.agg #[vr], vu, xl] w (Ret fun v w' => v = .bool true ∧ Ext NoB w w') := by
 rcases Bool.eq_false_or_eq_true (thinB R rs 0) with hf | hf
 ·by_cases hl : l.length ≤ 8
  ·by_cases hc : enterF R rs = 0
   ·rcases Bool.eq_false_or_eq_true (areB R l) with hb | hb
    ·exact CreepAllows_e w R vr hm rs lv vu hx l xl hxl hf hl hc hb
    ·exact CreepAllows_d w R vr hm rs lv vu hx l xl hxl hf hl hc hb
   ·exact CreepAllows_c w R vr hm rs lv vu hx l xl hxl hf hl hc
  ·exact CreepAllows_b w R vr hm rs lv vu hx l xl hxl hf hl
 ·exact CreepAllows_a w R vr hm rs lv vu hx l xl hxl hf
end Go.Proofs.Ytkkglkdnnfegkaa
