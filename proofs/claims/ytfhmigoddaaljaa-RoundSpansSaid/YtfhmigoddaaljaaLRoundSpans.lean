/-
  Walks through the functions of the seat, printed by a program of ours (gowalk), a theorem a function: what the call returns and what it leaves in memory.
-/
import Derived.Test.YtfhmigoddaaljaaFh
set_option linter.unusedSimpArgs false
set_option linter.unusedVariables false
namespace Go.Proofs.Ytfhmigoddaaljaa
open Go.RowKit Go.Shelf Go.Eng
set_option maxHeartbeats 4000000 in
theorem RoundSpans_a (rl rs rb : Value) (rlv : List Value) (d : RD) (w : World) (hR : RoundAt w rl rs rb rlv d) (xl : Value) (l : List Int) (hx : SlAt w xl 1 l.length (ints l)) (hf : fewB d = false) :
  Calls Try.prog 4 #[(Value.agg #[rl, rs, (Value.int .i64 d.spread), rb]), xl] w (Ret fun v w' => v = .bool true ∧ Ext NoB w w') := by
 refine calls_enter Try.func4 rfl fun a0 hA0 => ?_
 replace hA0 : Fr 97 [] [(0, (Value.agg #[rl, rs, (Value.int .i64 d.spread), rb])), (1, xl)] a0 := hA0
 have hS0 : Sep NoB w w [(sl xl 1 l.length (ints l)), (rndR false rl rs rb rlv d)] := sep_ro ⟨rfl, hx, rfl, hR, trivial⟩
 refine c_seq ?_
 refine c_region ?_
 refine stw hA0 (op_box hS0 rfl (hA0.ev rfl) (cs := [rl, rs, (Value.int .i64 d.spread), rb]) rfl) rfl rfl (by decide) ?_
 rintro a1 _ w3 ⟨b4, rfl, hS5⟩ hA2; clear hA0 hS0 a0
 refine st hA2 (op_assign rfl (evc _ _)) rfl rfl (by decide) fun a6 hA7 => ?_; clear hA2 a1
 refine wl_nil ?_
 refine then_n ?_
 refine c_seq ?_
 refine c_seq ?_
 refine c_region ?_
 refine st hA7 (op_loadA rfl ty_26 (hA7.ev rfl) (hS5.bk 0 rfl) (l := [rl, rs, (Value.int .i64 d.spread), rb]) rfl rfl) rfl rfl (by decide) fun a8 hA9 => ?_; clear hA7 a6
 refine stw hA9 (op_call rfl en_17 (ev1 (hA9.ev rfl)) (Few_ok rl rs rb rlv d _ (rnd_at (hS5.ok 2 _ rfl)))) rfl rfl (by decide) ?_
 rintro a10 _ w12 ⟨rfl, hE13⟩ hA11; have hS14 := hS5.step hE13; clear hE13 hA9 hS5 a8
 rw [hf] at hA11
 refine st hA11 (op_not rfl (hA11.ev rfl)) rfl rfl (by decide) fun a15 hA16 => ?_; clear hA11 a10
 refine st hA16 (op_move rfl (hA16.ev rfl)) rfl rfl (by decide) fun a17 hA18 => ?_; clear hA16 a15
 refine skp hA18 rfl rfl rfl rfl rfl (by decide) fun a19 hA20 => ?_; clear hA18 a17
 refine skp hA20 rfl rfl rfl rfl rfl (by decide) fun a21 hA22 => ?_; clear hA20 a19
 refine skp hA22 rfl rfl rfl rfl rfl (by decide) fun a23 hA24 => ?_; clear hA22 a21
 refine st hA24 (op_pick_t rfl (hA24.ev rfl) (evc _ _)) rfl rfl (by decide) fun a25 hA26 => ?_; clear hA24 a23
 refine wl_nil ?_
 refine then_n ?_
 refine c_true hA26 rfl ?_
 refine c_seq ?_
 have hA27 := hA26.as [] rfl; clear hA26
 refine c_region ?_
 refine stw hA27 (op_call rfl en_18 ev0 (wakes_ok _)) rfl rfl (by decide) ?_
 rintro a28 _ w30 ⟨rfl, hE31⟩ hA29; have hS32 := hS14.step hE31; clear hE31 hA27 hS14 a25
 refine st hA29 (op_assign rfl (hA29.ev rfl)) rfl rfl (by decide) fun a33 hA34 => ?_; clear hA29 a28
 refine wl_nil ?_
 refine then_n ?_
 refine c_ret ?_
 refine then_ret ?_
 refine fin_run hA34 (.inl rfl) (run_results1 hA34 rfl (.tmp rfl)) ?_
 exact ⟨rfl, hS32.ext⟩

set_option maxHeartbeats 4000000 in
theorem RoundSpans_b (rl rs rb : Value) (rlv : List Value) (d : RD) (w : World) (hR : RoundAt w rl rs rb rlv d) (xl : Value) (l : List Int) (hx : SlAt w xl 1 l.length (ints l)) (hf : fewB d = true) (hl : 10 < l.length) :
  Calls Try.prog 4 #[(Value.agg #[rl, rs, (Value.int .i64 d.spread), rb]), xl] w (Ret fun v w' => v = .bool true ∧ Ext NoB w w') := by
 refine calls_enter Try.func4 rfl fun a0 hA0 => ?_
 replace hA0 : Fr 97 [] [(0, (Value.agg #[rl, rs, (Value.int .i64 d.spread), rb])), (1, xl)] a0 := hA0
 have hS0 : Sep NoB w w [(sl xl 1 l.length (ints l)), (rndR false rl rs rb rlv d)] := sep_ro ⟨rfl, hx, rfl, hR, trivial⟩
 refine c_seq ?_
 refine c_region ?_
 refine stw hA0 (op_box hS0 rfl (hA0.ev rfl) (cs := [rl, rs, (Value.int .i64 d.spread), rb]) rfl) rfl rfl (by decide) ?_
 rintro a1 _ w3 ⟨b4, rfl, hS5⟩ hA2; clear hA0 hS0 a0
 refine st hA2 (op_assign rfl (evc _ _)) rfl rfl (by decide) fun a6 hA7 => ?_; clear hA2 a1
 refine wl_nil ?_
 refine then_n ?_
 refine c_seq ?_
 refine c_seq ?_
 refine c_region ?_
 refine st hA7 (op_loadA rfl ty_26 (hA7.ev rfl) (hS5.bk 0 rfl) (l := [rl, rs, (Value.int .i64 d.spread), rb]) rfl rfl) rfl rfl (by decide) fun a8 hA9 => ?_; clear hA7 a6
 refine stw hA9 (op_call rfl en_17 (ev1 (hA9.ev rfl)) (Few_ok rl rs rb rlv d _ (rnd_at (hS5.ok 2 _ rfl)))) rfl rfl (by decide) ?_
 rintro a10 _ w12 ⟨rfl, hE13⟩ hA11; have hS14 := hS5.step hE13; clear hE13 hA9 hS5 a8
 rw [hf] at hA11
 refine st hA11 (op_not rfl (hA11.ev rfl)) rfl rfl (by decide) fun a15 hA16 => ?_; clear hA11 a10
 refine st hA16 (op_move rfl (hA16.ev rfl)) rfl rfl (by decide) fun a17 hA18 => ?_; clear hA16 a15
 refine stg hA18 (op_move rfl (hA18.ev rfl)) rfl rfl rfl rfl (by decide) fun a19 hA20 => ?_; clear hA18 a17
 refine stg hA20 (op_lenS rfl un_23 (hA20.ev rfl) (hS14.sk 1 rfl)) rfl rfl rfl rfl (by decide) fun a21 hA22 => ?_; clear hA20 a19
 refine stg hA22 (op_gtr rfl (hA22.ev rfl) (evc _ _)) rfl rfl rfl rfl (by decide) fun a23 hA24 => ?_; clear hA22 a21
 have hd25 : 10 < (l.length : Int) := (by omega)
 rw [decide_eq_true hd25] at hA24
 refine st hA24 (op_pick_f rfl (hA24.ev rfl) (hA24.ev rfl)) rfl rfl (by decide) fun a26 hA27 => ?_; clear hA24 a23
 refine wl_nil ?_
 refine then_n ?_
 refine c_true hA27 rfl ?_
 refine c_seq ?_
 have hA28 := hA27.as [] rfl; clear hA27
 refine c_region ?_
 refine stw hA28 (op_call rfl en_18 ev0 (wakes_ok _)) rfl rfl (by decide) ?_
 rintro a29 _ w31 ⟨rfl, hE32⟩ hA30; have hS33 := hS14.step hE32; clear hE32 hA28 hS14 a26
 refine st hA30 (op_assign rfl (hA30.ev rfl)) rfl rfl (by decide) fun a34 hA35 => ?_; clear hA30 a29
 refine wl_nil ?_
 refine then_n ?_
 refine c_ret ?_
 refine then_ret ?_
 refine fin_run hA35 (.inl rfl) (run_results1 hA35 rfl (.tmp rfl)) ?_
 exact ⟨rfl, hS33.ext⟩

set_option maxHeartbeats 4000000 in
theorem RoundSpans_c (rl rs rb : Value) (rlv : List Value) (d : RD) (w : World) (hR : RoundAt w rl rs rb rlv d) (xl : Value) (l : List Int) (hx : SlAt w xl 1 l.length (ints l)) (hf : fewB d = true) (hl : l.length ≤ 10) (hc : checkR d ≠ 0) :
  Calls Try.prog 4 #[(Value.agg #[rl, rs, (Value.int .i64 d.spread), rb]), xl] w (Ret fun v w' => v = .bool true ∧ Ext NoB w w') := by
 refine calls_enter Try.func4 rfl fun a0 hA0 => ?_
 replace hA0 : Fr 97 [] [(0, (Value.agg #[rl, rs, (Value.int .i64 d.spread), rb])), (1, xl)] a0 := hA0
 have hth := thin_of (fewB_thin hf)
 have hS0 : Sep NoB w w [(sl xl 1 l.length (ints l)), (rndR false rl rs rb rlv d)] := sep_ro ⟨rfl, hx, rfl, hR, trivial⟩
 refine c_seq ?_
 refine c_region ?_
 refine stw hA0 (op_box hS0 rfl (hA0.ev rfl) (cs := [rl, rs, (Value.int .i64 d.spread), rb]) rfl) rfl rfl (by decide) ?_
 rintro a1 _ w3 ⟨b4, rfl, hS5⟩ hA2; clear hA0 hS0 a0
 refine st hA2 (op_assign rfl (evc _ _)) rfl rfl (by decide) fun a6 hA7 => ?_; clear hA2 a1
 refine wl_nil ?_
 refine then_n ?_
 refine c_seq ?_
 refine c_seq ?_
 refine c_region ?_
 refine st hA7 (op_loadA rfl ty_26 (hA7.ev rfl) (hS5.bk 0 rfl) (l := [rl, rs, (Value.int .i64 d.spread), rb]) rfl rfl) rfl rfl (by decide) fun a8 hA9 => ?_; clear hA7 a6
 refine stw hA9 (op_call rfl en_17 (ev1 (hA9.ev rfl)) (Few_ok rl rs rb rlv d _ (rnd_at (hS5.ok 2 _ rfl)))) rfl rfl (by decide) ?_
 rintro a10 _ w12 ⟨rfl, hE13⟩ hA11; have hS14 := hS5.step hE13; clear hE13 hA9 hS5 a8
 rw [hf] at hA11
 refine st hA11 (op_not rfl (hA11.ev rfl)) rfl rfl (by decide) fun a15 hA16 => ?_; clear hA11 a10
 refine st hA16 (op_move rfl (hA16.ev rfl)) rfl rfl (by decide) fun a17 hA18 => ?_; clear hA16 a15
 refine stg hA18 (op_move rfl (hA18.ev rfl)) rfl rfl rfl rfl (by decide) fun a19 hA20 => ?_; clear hA18 a17
 refine stg hA20 (op_lenS rfl un_23 (hA20.ev rfl) (hS14.sk 1 rfl)) rfl rfl rfl rfl (by decide) fun a21 hA22 => ?_; clear hA20 a19
 refine stg hA22 (op_gtr rfl (hA22.ev rfl) (evc _ _)) rfl rfl rfl rfl (by decide) fun a23 hA24 => ?_; clear hA22 a21
 have hd25 : ¬ (10 < (l.length : Int)) := (by omega)
 rw [decide_eq_false hd25] at hA24
 refine st hA24 (op_pick_f rfl (hA24.ev rfl) (hA24.ev rfl)) rfl rfl (by decide) fun a26 hA27 => ?_; clear hA24 a23
 refine wl_nil ?_
 refine then_n ?_
 refine c_false hA27 rfl ?_
 refine c_skip ?_
 refine then_n ?_
 refine c_seq ?_
 have hA28 := hA27.as [(2, (bptr b4 0)), (1, xl)] rfl; clear hA27
 refine c_region ?_
 refine st hA28 (op_loadA rfl ty_26 (hA28.ev rfl) (hS14.bk 0 rfl) (l := [rl, rs, (Value.int .i64 d.spread), rb]) rfl rfl) rfl rfl (by decide) fun a29 hA30 => ?_; clear hA28 a26
 refine stw hA30 (op_call rfl en_20 (ev1 (hA30.ev rfl)) (Round_ok rl rs rb rlv d _ (rnd_at (hS14.ok 2 _ rfl)) hth)) rfl rfl (by decide) ?_
 rintro a31 _ w33 ⟨vl34, vs35, vb36, lv37, rfl, hT38⟩ hA32; have hS39 := hS14.callS hT38 rfl; clear hT38 hA30 hS14 a29
 refine st hA32 (op_move rfl (hA32.ev rfl)) rfl rfl (by decide) fun a40 hA41 => ?_; clear hA32 a31
 refine stw hA41 (op_call rfl en_22 (ev1 (hA41.ev rfl)) (list_ok l _ _ (hS39.sk 2 rfl) (by omega))) rfl rfl (by decide) ?_
 rintro a42 v48 w44 ⟨hE45, hO46⟩ hA43; have hS47 := hS39.new_row hE45 hO46; clear hE45 hO46 hA41 hS39 a40
 refine stw hA43 (op_call rfl en_26 (ev2 (hA43.ev rfl) (hA43.ev rfl)) (by have h := (spansE_ok vl34 vs35 vb36 lv37 d _ (rnd_at (hS47.ok 1 _ rfl)) _ l (SlAt.of_row (hS47.ok_row 0 rfl)) (by omega)); rw [spansR_bad hc] at h; exact h)) rfl rfl (by decide) ?_
 rintro a49 _ w51 ⟨u55, rfl, hE52, hO53⟩ hA50; have hS54 := hS47.new_row hE52 hO53; clear hE52 hO53 hA43 hS47 a42
 refine st hA50 (op_move rfl (hA50.ev rfl)) rfl rfl (by decide) fun a56 hA57 => ?_; clear hA50 a49
 refine st hA57 (op_extract rfl (hA57.ev rfl) rfl) rfl rfl (by decide) fun a58 hA59 => ?_; clear hA57 a56
 refine st hA59 (op_extract rfl (hA59.ev rfl) rfl) rfl rfl (by decide) fun a60 hA61 => ?_; clear hA59 a58
 refine st hA61 (op_assign rfl (hA61.ev rfl)) rfl rfl (by decide) fun a62 hA63 => ?_; clear hA61 a60
 refine st hA63 (op_assign rfl (hA63.ev rfl)) rfl rfl (by decide) fun a64 hA65 => ?_; clear hA63 a62
 refine wl_nil ?_
 refine then_n ?_
 refine c_seq ?_
 have hA66 := hA65.as [(6, (Value.int .i64 (checkR d))), (5, u55), (2, (bptr b4 0)), (1, xl)] rfl; clear hA65
 refine c_region ?_
 refine st hA66 (op_loadA rfl ty_26 (hA66.ev rfl) (hS54.bk 3 rfl) (l := [rl, rs, (Value.int .i64 d.spread), rb]) rfl rfl) rfl rfl (by decide) fun a67 hA68 => ?_; clear hA66 a64
 refine stw hA68 (op_call rfl en_23 (ev1 (hA68.ev rfl)) (fault_ok rl rs rb rlv d _ (rnd_at (hS54.ok 5 _ rfl)))) rfl rfl (by decide) ?_
 rintro a69 _ w71 ⟨rfl, hE72⟩ hA70; have hS73 := hS54.step hE72; clear hE72 hA68 hS54 a67
 refine st hA70 (op_assign rfl (hA70.ev rfl)) rfl rfl (by decide) fun a74 hA75 => ?_; clear hA70 a69
 refine wl_nil ?_
 refine then_n ?_
 refine c_seq ?_
 refine c_seq ?_
 refine c_region ?_
 refine st hA75 (op_move rfl (hA75.ev rfl)) rfl rfl (by decide) fun a76 hA77 => ?_; clear hA75 a74
 refine st hA77 (op_eql rfl (hA77.ev rfl) (evc _ _)) rfl rfl (by decide) fun a78 hA79 => ?_; clear hA77 a76
 have hd80 : ¬ ((checkR d) = 0) := hc
 rw [decide_eq_false hd80] at hA79
 refine st hA79 (op_move rfl (hA79.ev rfl)) rfl rfl (by decide) fun a81 hA82 => ?_; clear hA79 a78
 refine skp hA82 rfl rfl rfl rfl rfl (by decide) fun a83 hA84 => ?_; clear hA82 a81
 refine skp hA84 rfl rfl rfl rfl rfl (by decide) fun a85 hA86 => ?_; clear hA84 a83
 refine skp hA86 rfl rfl rfl rfl rfl (by decide) fun a87 hA88 => ?_; clear hA86 a85
 refine skp hA88 rfl rfl rfl rfl rfl (by decide) fun a89 hA90 => ?_; clear hA88 a87
 refine st hA90 (op_pick_f rfl (hA90.ev rfl) (evc _ _)) rfl rfl (by decide) fun a91 hA92 => ?_; clear hA90 a89
 refine wl_nil ?_
 refine then_n ?_
 refine c_false hA92 rfl ?_
 refine c_skip ?_
 refine then_n ?_
 refine c_seq ?_
 refine c_seq ?_
 have hA93 := hA92.as [(7, (Value.int .i64 (checkR d))), (6, (Value.int .i64 (checkR d))), (5, u55), (2, (bptr b4 0)), (1, xl)] rfl; clear hA92
 refine c_region ?_
 refine st hA93 (op_move rfl (hA93.ev rfl)) rfl rfl (by decide) fun a94 hA95 => ?_; clear hA93 a91
 refine st hA95 (op_eql rfl (hA95.ev rfl) (evc _ _)) rfl rfl (by decide) fun a96 hA97 => ?_; clear hA95 a94
 rw [decide_eq_false hd80] at hA97
 refine st hA97 (op_move rfl (hA97.ev rfl)) rfl rfl (by decide) fun a98 hA99 => ?_; clear hA97 a96
 refine skp hA99 rfl rfl rfl rfl rfl (by decide) fun a100 hA101 => ?_; clear hA99 a98
 refine skp hA101 rfl rfl rfl rfl rfl (by decide) fun a102 hA103 => ?_; clear hA101 a100
 refine skp hA103 rfl rfl rfl rfl rfl (by decide) fun a104 hA105 => ?_; clear hA103 a102
 refine skp hA105 rfl rfl rfl rfl rfl (by decide) fun a106 hA107 => ?_; clear hA105 a104
 refine st hA107 (op_pick_f rfl (hA107.ev rfl) (evc _ _)) rfl rfl (by decide) fun a108 hA109 => ?_; clear hA107 a106
 refine wl_nil ?_
 refine then_n ?_
 refine c_false hA109 rfl ?_
 refine c_skip ?_
 refine then_n ?_
 refine c_seq ?_
 refine c_seq ?_
 have hA110 := hA109.as [(7, (Value.int .i64 (checkR d))), (6, (Value.int .i64 (checkR d))), (5, u55), (2, (bptr b4 0)), (1, xl)] rfl; clear hA109
 refine c_region ?_
 refine st hA110 (op_move rfl (hA110.ev rfl)) rfl rfl (by decide) fun a111 hA112 => ?_; clear hA110 a108
 refine st hA112 (op_neq rfl (hA112.ev rfl) (evc _ _)) rfl rfl (by decide) fun a113 hA114 => ?_; clear hA112 a111
 rw [decide_eq_false hd80] at hA114
 refine wl_nil ?_
 refine then_n ?_
 refine c_true hA114 rfl ?_
 refine c_seq ?_
 refine c_region ?_
 refine st hA114 (op_move rfl (hA114.ev rfl)) rfl rfl (by decide) fun a115 hA116 => ?_; clear hA114 a113
 refine st hA116 (op_move rfl (hA116.ev rfl)) rfl rfl (by decide) fun a117 hA118 => ?_; clear hA116 a115
 refine st hA118 (op_eql rfl (hA118.ev rfl) (hA118.ev rfl)) rfl rfl (by decide) fun a119 hA120 => ?_; clear hA118 a117
 have hd121 : (checkR d) = (checkR d) := rfl
 rw [decide_eq_true hd121] at hA120
 refine st hA120 (op_move rfl (hA120.ev rfl)) rfl rfl (by decide) fun a122 hA123 => ?_; clear hA120 a119
 refine stg hA123 (op_move rfl (hA123.ev rfl)) rfl rfl rfl rfl (by decide) fun a124 hA125 => ?_; clear hA123 a122
 refine stg hA125 (op_lenS rfl un_31 (hA125.ev rfl) (SlAt.of_row (hS73.ok_row 0 rfl))) rfl rfl rfl rfl (by decide) fun a126 hA127 => ?_; clear hA125 a124
 refine stg hA127 (op_eql rfl (hA127.ev rfl) (evc _ _)) rfl rfl rfl rfl (by decide) fun a128 hA129 => ?_; clear hA127 a126
 have hd130 : (([] : List (Int × Int)).length : Int) = 0 := rfl
 rw [decide_eq_true hd130] at hA129
 refine st hA129 (op_pick_t rfl (hA129.ev rfl) (hA129.ev rfl)) rfl rfl (by decide) fun a131 hA132 => ?_; clear hA129 a128
 refine st hA132 (op_move rfl (hA132.ev rfl)) rfl rfl (by decide) fun a133 hA134 => ?_; clear hA132 a131
 refine stwg hA134 (op_call rfl en_18 ev0 (wakes_ok _)) rfl rfl rfl rfl (by decide) ?_
 rintro a135 _ w137 ⟨rfl, hE138⟩ hA136; have hS139 := hS73.step hE138; clear hE138 hA134 hS73 a133
 refine st hA136 (op_pick_t rfl (hA136.ev rfl) (hA136.ev rfl)) rfl rfl (by decide) fun a140 hA141 => ?_; clear hA136 a135
 refine st hA141 (op_assign rfl (hA141.ev rfl)) rfl rfl (by decide) fun a142 hA143 => ?_; clear hA141 a140
 refine wl_nil ?_
 refine then_n ?_
 refine c_ret ?_
 refine then_ret ?_
 refine fin_run hA143 (.inl rfl) (run_results1 hA143 rfl (.tmp rfl)) ?_
 exact ⟨rfl, hS139.ext⟩

set_option maxHeartbeats 4000000 in
theorem RoundSpans_d (rl rs rb : Value) (rlv : List Value) (d : RD) (w : World) (hR : RoundAt w rl rs rb rlv d) (xl : Value) (l : List Int) (hx : SlAt w xl 1 l.length (ints l)) (hf : fewB d = true) (hl : l.length ≤ 10) (hc : checkR d = 0) (hr : riseB d.tols.length l = false) :
  Calls Try.prog 4 #[(Value.agg #[rl, rs, (Value.int .i64 d.spread), rb]), xl] w (Ret fun v w' => v = .bool true ∧ Ext NoB w w') := by
 refine calls_enter Try.func4 rfl fun a0 hA0 => ?_
 replace hA0 : Fr 97 [] [(0, (Value.agg #[rl, rs, (Value.int .i64 d.spread), rb])), (1, xl)] a0 := hA0
 have hth := thin_of (fewB_thin hf); have hV := valid_of hc
 have hS0 : Sep NoB w w [(sl xl 1 l.length (ints l)), (rndR false rl rs rb rlv d)] := sep_ro ⟨rfl, hx, rfl, hR, trivial⟩
 refine c_seq ?_
 refine c_region ?_
 refine stw hA0 (op_box hS0 rfl (hA0.ev rfl) (cs := [rl, rs, (Value.int .i64 d.spread), rb]) rfl) rfl rfl (by decide) ?_
 rintro a1 _ w3 ⟨b4, rfl, hS5⟩ hA2; clear hA0 hS0 a0
 refine st hA2 (op_assign rfl (evc _ _)) rfl rfl (by decide) fun a6 hA7 => ?_; clear hA2 a1
 refine wl_nil ?_
 refine then_n ?_
 refine c_seq ?_
 refine c_seq ?_
 refine c_region ?_
 refine st hA7 (op_loadA rfl ty_26 (hA7.ev rfl) (hS5.bk 0 rfl) (l := [rl, rs, (Value.int .i64 d.spread), rb]) rfl rfl) rfl rfl (by decide) fun a8 hA9 => ?_; clear hA7 a6
 refine stw hA9 (op_call rfl en_17 (ev1 (hA9.ev rfl)) (Few_ok rl rs rb rlv d _ (rnd_at (hS5.ok 2 _ rfl)))) rfl rfl (by decide) ?_
 rintro a10 _ w12 ⟨rfl, hE13⟩ hA11; have hS14 := hS5.step hE13; clear hE13 hA9 hS5 a8
 rw [hf] at hA11
 refine st hA11 (op_not rfl (hA11.ev rfl)) rfl rfl (by decide) fun a15 hA16 => ?_; clear hA11 a10
 refine st hA16 (op_move rfl (hA16.ev rfl)) rfl rfl (by decide) fun a17 hA18 => ?_; clear hA16 a15
 refine stg hA18 (op_move rfl (hA18.ev rfl)) rfl rfl rfl rfl (by decide) fun a19 hA20 => ?_; clear hA18 a17
 refine stg hA20 (op_lenS rfl un_23 (hA20.ev rfl) (hS14.sk 1 rfl)) rfl rfl rfl rfl (by decide) fun a21 hA22 => ?_; clear hA20 a19
 refine stg hA22 (op_gtr rfl (hA22.ev rfl) (evc _ _)) rfl rfl rfl rfl (by decide) fun a23 hA24 => ?_; clear hA22 a21
 have hd25 : ¬ (10 < (l.length : Int)) := (by omega)
 rw [decide_eq_false hd25] at hA24
 refine st hA24 (op_pick_f rfl (hA24.ev rfl) (hA24.ev rfl)) rfl rfl (by decide) fun a26 hA27 => ?_; clear hA24 a23
 refine wl_nil ?_
 refine then_n ?_
 refine c_false hA27 rfl ?_
 refine c_skip ?_
 refine then_n ?_
 refine c_seq ?_
 have hA28 := hA27.as [(2, (bptr b4 0)), (1, xl)] rfl; clear hA27
 refine c_region ?_
 refine st hA28 (op_loadA rfl ty_26 (hA28.ev rfl) (hS14.bk 0 rfl) (l := [rl, rs, (Value.int .i64 d.spread), rb]) rfl rfl) rfl rfl (by decide) fun a29 hA30 => ?_; clear hA28 a26
 refine stw hA30 (op_call rfl en_20 (ev1 (hA30.ev rfl)) (Round_ok rl rs rb rlv d _ (rnd_at (hS14.ok 2 _ rfl)) hth)) rfl rfl (by decide) ?_
 rintro a31 _ w33 ⟨vl34, vs35, vb36, lv37, rfl, hT38⟩ hA32; have hS39 := hS14.callS hT38 rfl; clear hT38 hA30 hS14 a29
 refine st hA32 (op_move rfl (hA32.ev rfl)) rfl rfl (by decide) fun a40 hA41 => ?_; clear hA32 a31
 refine stw hA41 (op_call rfl en_22 (ev1 (hA41.ev rfl)) (list_ok l _ _ (hS39.sk 2 rfl) (by omega))) rfl rfl (by decide) ?_
 rintro a42 v48 w44 ⟨hE45, hO46⟩ hA43; have hS47 := hS39.new_row hE45 hO46; clear hE45 hO46 hA41 hS39 a40
 refine stw hA43 (op_call rfl en_26 (ev2 (hA43.ev rfl) (hA43.ev rfl)) (by have h := (spansE_ok vl34 vs35 vb36 lv37 d _ (rnd_at (hS47.ok 1 _ rfl)) _ l (SlAt.of_row (hS47.ok_row 0 rfl)) (by omega)); rw [spansR_no hc hr] at h; exact h)) rfl rfl (by decide) ?_
 rintro a49 _ w51 ⟨u55, rfl, hE52, hO53⟩ hA50; have hS54 := hS47.new_row hE52 hO53; clear hE52 hO53 hA43 hS47 a42
 refine st hA50 (op_move rfl (hA50.ev rfl)) rfl rfl (by decide) fun a56 hA57 => ?_; clear hA50 a49
 refine st hA57 (op_extract rfl (hA57.ev rfl) rfl) rfl rfl (by decide) fun a58 hA59 => ?_; clear hA57 a56
 refine st hA59 (op_extract rfl (hA59.ev rfl) rfl) rfl rfl (by decide) fun a60 hA61 => ?_; clear hA59 a58
 refine st hA61 (op_assign rfl (hA61.ev rfl)) rfl rfl (by decide) fun a62 hA63 => ?_; clear hA61 a60
 refine st hA63 (op_assign rfl (hA63.ev rfl)) rfl rfl (by decide) fun a64 hA65 => ?_; clear hA63 a62
 refine wl_nil ?_
 refine then_n ?_
 refine c_seq ?_
 have hA66 := hA65.as [(6, (Value.int .i64 2)), (5, u55), (2, (bptr b4 0)), (1, xl)] rfl; clear hA65
 refine c_region ?_
 refine st hA66 (op_loadA rfl ty_26 (hA66.ev rfl) (hS54.bk 3 rfl) (l := [rl, rs, (Value.int .i64 d.spread), rb]) rfl rfl) rfl rfl (by decide) fun a67 hA68 => ?_; clear hA66 a64
 refine stw hA68 (op_call rfl en_23 (ev1 (hA68.ev rfl)) (fault_ok rl rs rb rlv d _ (rnd_at (hS54.ok 5 _ rfl)))) rfl rfl (by decide) ?_
 rintro a69 _ w71 ⟨rfl, hE72⟩ hA70; have hS73 := hS54.step hE72; clear hE72 hA68 hS54 a67
 refine st hA70 (op_assign rfl (hA70.ev rfl)) rfl rfl (by decide) fun a74 hA75 => ?_; clear hA70 a69
 refine wl_nil ?_
 refine then_n ?_
 refine c_seq ?_
 refine c_seq ?_
 refine c_region ?_
 refine st hA75 (op_move rfl (hA75.ev rfl)) rfl rfl (by decide) fun a76 hA77 => ?_; clear hA75 a74
 refine st hA77 (op_eql rfl (hA77.ev rfl) (evc _ _)) rfl rfl (by decide) fun a78 hA79 => ?_; clear hA77 a76
 have hd80 : (checkR d) = 0 := hc
 rw [decide_eq_true hd80] at hA79
 refine st hA79 (op_move rfl (hA79.ev rfl)) rfl rfl (by decide) fun a81 hA82 => ?_; clear hA79 a78
 refine stg hA82 (op_loadA rfl ty_26 (hA82.ev rfl) (hS73.bk 3 rfl) (l := [rl, rs, (Value.int .i64 d.spread), rb]) rfl rfl) rfl rfl rfl rfl (by decide) fun a83 hA84 => ?_; clear hA82 a81
 refine stg hA84 (op_move rfl (hA84.ev rfl)) rfl rfl rfl rfl (by decide) fun a85 hA86 => ?_; clear hA84 a83
 refine stwg hA86 (op_call rfl en_24 (ev2 (hA86.ev rfl) (hA86.ev rfl)) (Rising_ok rl rs rb rlv d _ (rnd_at (hS73.ok 5 _ rfl)) _ l (hS73.sk 4 rfl) (by omega) (by omega))) rfl rfl rfl rfl (by decide) ?_
 rintro a87 _ w89 ⟨rfl, hE90⟩ hA88; have hS91 := hS73.step hE90; clear hE90 hA86 hS73 a85
 rw [hr] at hA88
 refine stg hA88 (op_not rfl (hA88.ev rfl)) rfl rfl rfl rfl (by decide) fun a92 hA93 => ?_; clear hA88 a87
 refine st hA93 (op_pick_t rfl (hA93.ev rfl) (hA93.ev rfl)) rfl rfl (by decide) fun a94 hA95 => ?_; clear hA93 a92
 refine wl_nil ?_
 refine then_n ?_
 refine c_true hA95 rfl ?_
 have hA96 := hA95.as [(6, (Value.int .i64 2)), (5, u55), (2, (bptr b4 0)), (1, xl)] rfl; clear hA95
 refine c_region ?_
 refine st hA96 (op_assign rfl (evc _ _)) rfl rfl (by decide) fun a97 hA98 => ?_; clear hA96 a94
 refine wl_nil ?_
 refine then_n ?_
 refine c_seq ?_
 refine c_seq ?_
 refine c_region ?_
 refine st hA98 (op_move rfl (hA98.ev rfl)) rfl rfl (by decide) fun a99 hA100 => ?_; clear hA98 a97
 refine st hA100 (op_eql rfl (hA100.ev rfl) (evc _ _)) rfl rfl (by decide) fun a101 hA102 => ?_; clear hA100 a99
 refine st hA102 (op_move rfl (hA102.ev rfl)) rfl rfl (by decide) fun a103 hA104 => ?_; clear hA102 a101
 refine skp hA104 rfl rfl rfl rfl rfl (by decide) fun a105 hA106 => ?_; clear hA104 a103
 refine skp hA106 rfl rfl rfl rfl rfl (by decide) fun a107 hA108 => ?_; clear hA106 a105
 refine skp hA108 rfl rfl rfl rfl rfl (by decide) fun a109 hA110 => ?_; clear hA108 a107
 refine skp hA110 rfl rfl rfl rfl rfl (by decide) fun a111 hA112 => ?_; clear hA110 a109
 refine st hA112 (op_pick_f rfl (hA112.ev rfl) (evc _ _)) rfl rfl (by decide) fun a113 hA114 => ?_; clear hA112 a111
 refine wl_nil ?_
 refine then_n ?_
 refine c_false hA114 rfl ?_
 refine c_skip ?_
 refine then_n ?_
 refine c_seq ?_
 refine c_seq ?_
 have hA115 := hA114.as [(7, (Value.int .i64 2)), (6, (Value.int .i64 2)), (5, u55), (2, (bptr b4 0)), (1, xl)] rfl; clear hA114
 refine c_region ?_
 refine st hA115 (op_move rfl (hA115.ev rfl)) rfl rfl (by decide) fun a116 hA117 => ?_; clear hA115 a113
 refine st hA117 (op_neq rfl (hA117.ev rfl) (evc _ _)) rfl rfl (by decide) fun a118 hA119 => ?_; clear hA117 a116
 refine wl_nil ?_
 refine then_n ?_
 refine c_true hA119 rfl ?_
 refine c_seq ?_
 refine c_region ?_
 refine st hA119 (op_move rfl (hA119.ev rfl)) rfl rfl (by decide) fun a120 hA121 => ?_; clear hA119 a118
 refine st hA121 (op_move rfl (hA121.ev rfl)) rfl rfl (by decide) fun a122 hA123 => ?_; clear hA121 a120
 refine st hA123 (op_eql rfl (hA123.ev rfl) (hA123.ev rfl)) rfl rfl (by decide) fun a124 hA125 => ?_; clear hA123 a122
 refine st hA125 (op_move rfl (hA125.ev rfl)) rfl rfl (by decide) fun a126 hA127 => ?_; clear hA125 a124
 refine stg hA127 (op_move rfl (hA127.ev rfl)) rfl rfl rfl rfl (by decide) fun a128 hA129 => ?_; clear hA127 a126
 refine stg hA129 (op_lenS rfl un_31 (hA129.ev rfl) (SlAt.of_row (hS91.ok_row 0 rfl))) rfl rfl rfl rfl (by decide) fun a130 hA131 => ?_; clear hA129 a128
 refine stg hA131 (op_eql rfl (hA131.ev rfl) (evc _ _)) rfl rfl rfl rfl (by decide) fun a132 hA133 => ?_; clear hA131 a130
 have hd134 : (([] : List (Int × Int)).length : Int) = 0 := rfl
 rw [decide_eq_true hd134] at hA133
 refine st hA133 (op_pick_t rfl (hA133.ev rfl) (hA133.ev rfl)) rfl rfl (by decide) fun a135 hA136 => ?_; clear hA133 a132
 refine st hA136 (op_move rfl (hA136.ev rfl)) rfl rfl (by decide) fun a137 hA138 => ?_; clear hA136 a135
 refine stwg hA138 (op_call rfl en_18 ev0 (wakes_ok _)) rfl rfl rfl rfl (by decide) ?_
 rintro a139 _ w141 ⟨rfl, hE142⟩ hA140; have hS143 := hS91.step hE142; clear hE142 hA138 hS91 a137
 refine st hA140 (op_pick_t rfl (hA140.ev rfl) (hA140.ev rfl)) rfl rfl (by decide) fun a144 hA145 => ?_; clear hA140 a139
 refine st hA145 (op_assign rfl (hA145.ev rfl)) rfl rfl (by decide) fun a146 hA147 => ?_; clear hA145 a144
 refine wl_nil ?_
 refine then_n ?_
 refine c_ret ?_
 refine then_ret ?_
 refine fin_run hA147 (.inl rfl) (run_results1 hA147 rfl (.tmp rfl)) ?_
 exact ⟨rfl, hS143.ext⟩

set_option maxHeartbeats 4000000 in
theorem RoundSpans_e (rl rs rb : Value) (rlv : List Value) (d : RD) (w : World) (hR : RoundAt w rl rs rb rlv d) (xl : Value) (l : List Int) (hx : SlAt w xl 1 l.length (ints l)) (hf : fewB d = true) (hl : l.length ≤ 10) (hc : checkR d = 0) (hr : riseB d.tols.length l = true) (hex : explB d (offUpto l l.length) = false) :
  Calls Try.prog 4 #[(Value.agg #[rl, rs, (Value.int .i64 d.spread), rb]), xl] w (Ret fun v w' => v = .bool true ∧ Ext NoB w w') := by
 refine calls_enter Try.func4 rfl fun a0 hA0 => ?_
 replace hA0 : Fr 97 [] [(0, (Value.agg #[rl, rs, (Value.int .i64 d.spread), rb])), (1, xl)] a0 := hA0
 have hth := thin_of (fewB_thin hf); have hV := valid_of hc
 have hS0 : Sep NoB w w [(sl xl 1 l.length (ints l)), (rndR false rl rs rb rlv d)] := sep_ro ⟨rfl, hx, rfl, hR, trivial⟩
 refine c_seq ?_
 refine c_region ?_
 refine stw hA0 (op_box hS0 rfl (hA0.ev rfl) (cs := [rl, rs, (Value.int .i64 d.spread), rb]) rfl) rfl rfl (by decide) ?_
 rintro a1 _ w3 ⟨b4, rfl, hS5⟩ hA2; clear hA0 hS0 a0
 refine st hA2 (op_assign rfl (evc _ _)) rfl rfl (by decide) fun a6 hA7 => ?_; clear hA2 a1
 refine wl_nil ?_
 refine then_n ?_
 refine c_seq ?_
 refine c_seq ?_
 refine c_region ?_
 refine st hA7 (op_loadA rfl ty_26 (hA7.ev rfl) (hS5.bk 0 rfl) (l := [rl, rs, (Value.int .i64 d.spread), rb]) rfl rfl) rfl rfl (by decide) fun a8 hA9 => ?_; clear hA7 a6
 refine stw hA9 (op_call rfl en_17 (ev1 (hA9.ev rfl)) (Few_ok rl rs rb rlv d _ (rnd_at (hS5.ok 2 _ rfl)))) rfl rfl (by decide) ?_
 rintro a10 _ w12 ⟨rfl, hE13⟩ hA11; have hS14 := hS5.step hE13; clear hE13 hA9 hS5 a8
 rw [hf] at hA11
 refine st hA11 (op_not rfl (hA11.ev rfl)) rfl rfl (by decide) fun a15 hA16 => ?_; clear hA11 a10
 refine st hA16 (op_move rfl (hA16.ev rfl)) rfl rfl (by decide) fun a17 hA18 => ?_; clear hA16 a15
 refine stg hA18 (op_move rfl (hA18.ev rfl)) rfl rfl rfl rfl (by decide) fun a19 hA20 => ?_; clear hA18 a17
 refine stg hA20 (op_lenS rfl un_23 (hA20.ev rfl) (hS14.sk 1 rfl)) rfl rfl rfl rfl (by decide) fun a21 hA22 => ?_; clear hA20 a19
 refine stg hA22 (op_gtr rfl (hA22.ev rfl) (evc _ _)) rfl rfl rfl rfl (by decide) fun a23 hA24 => ?_; clear hA22 a21
 have hd25 : ¬ (10 < (l.length : Int)) := (by omega)
 rw [decide_eq_false hd25] at hA24
 refine st hA24 (op_pick_f rfl (hA24.ev rfl) (hA24.ev rfl)) rfl rfl (by decide) fun a26 hA27 => ?_; clear hA24 a23
 refine wl_nil ?_
 refine then_n ?_
 refine c_false hA27 rfl ?_
 refine c_skip ?_
 refine then_n ?_
 refine c_seq ?_
 have hA28 := hA27.as [(2, (bptr b4 0)), (1, xl)] rfl; clear hA27
 refine c_region ?_
 refine st hA28 (op_loadA rfl ty_26 (hA28.ev rfl) (hS14.bk 0 rfl) (l := [rl, rs, (Value.int .i64 d.spread), rb]) rfl rfl) rfl rfl (by decide) fun a29 hA30 => ?_; clear hA28 a26
 refine stw hA30 (op_call rfl en_20 (ev1 (hA30.ev rfl)) (Round_ok rl rs rb rlv d _ (rnd_at (hS14.ok 2 _ rfl)) hth)) rfl rfl (by decide) ?_
 rintro a31 _ w33 ⟨vl34, vs35, vb36, lv37, rfl, hT38⟩ hA32; have hS39 := hS14.callS hT38 rfl; clear hT38 hA30 hS14 a29
 refine st hA32 (op_move rfl (hA32.ev rfl)) rfl rfl (by decide) fun a40 hA41 => ?_; clear hA32 a31
 refine stw hA41 (op_call rfl en_22 (ev1 (hA41.ev rfl)) (list_ok l _ _ (hS39.sk 2 rfl) (by omega))) rfl rfl (by decide) ?_
 rintro a42 v48 w44 ⟨hE45, hO46⟩ hA43; have hS47 := hS39.new_row hE45 hO46; clear hE45 hO46 hA41 hS39 a40
 refine stw hA43 (op_call rfl en_26 (ev2 (hA43.ev rfl) (hA43.ev rfl)) (by have h := (spansE_ok vl34 vs35 vb36 lv37 d _ (rnd_at (hS47.ok 1 _ rfl)) _ l (SlAt.of_row (hS47.ok_row 0 rfl)) (by omega)); rw [spansR_fail hc hr hex] at h; exact h)) rfl rfl (by decide) ?_
 rintro a49 _ w51 ⟨u55, rfl, hE52, hO53⟩ hA50; have hS54 := hS47.new_row hE52 hO53; clear hE52 hO53 hA43 hS47 a42
 refine st hA50 (op_move rfl (hA50.ev rfl)) rfl rfl (by decide) fun a56 hA57 => ?_; clear hA50 a49
 refine st hA57 (op_extract rfl (hA57.ev rfl) rfl) rfl rfl (by decide) fun a58 hA59 => ?_; clear hA57 a56
 refine st hA59 (op_extract rfl (hA59.ev rfl) rfl) rfl rfl (by decide) fun a60 hA61 => ?_; clear hA59 a58
 refine st hA61 (op_assign rfl (hA61.ev rfl)) rfl rfl (by decide) fun a62 hA63 => ?_; clear hA61 a60
 refine st hA63 (op_assign rfl (hA63.ev rfl)) rfl rfl (by decide) fun a64 hA65 => ?_; clear hA63 a62
 refine wl_nil ?_
 refine then_n ?_
 refine c_seq ?_
 have hA66 := hA65.as [(6, (Value.int .i64 9)), (5, u55), (2, (bptr b4 0)), (1, xl)] rfl; clear hA65
 refine c_region ?_
 refine st hA66 (op_loadA rfl ty_26 (hA66.ev rfl) (hS54.bk 3 rfl) (l := [rl, rs, (Value.int .i64 d.spread), rb]) rfl rfl) rfl rfl (by decide) fun a67 hA68 => ?_; clear hA66 a64
 refine stw hA68 (op_call rfl en_23 (ev1 (hA68.ev rfl)) (fault_ok rl rs rb rlv d _ (rnd_at (hS54.ok 5 _ rfl)))) rfl rfl (by decide) ?_
 rintro a69 _ w71 ⟨rfl, hE72⟩ hA70; have hS73 := hS54.step hE72; clear hE72 hA68 hS54 a67
 refine st hA70 (op_assign rfl (hA70.ev rfl)) rfl rfl (by decide) fun a74 hA75 => ?_; clear hA70 a69
 refine wl_nil ?_
 refine then_n ?_
 refine c_seq ?_
 refine c_seq ?_
 refine c_region ?_
 refine st hA75 (op_move rfl (hA75.ev rfl)) rfl rfl (by decide) fun a76 hA77 => ?_; clear hA75 a74
 refine st hA77 (op_eql rfl (hA77.ev rfl) (evc _ _)) rfl rfl (by decide) fun a78 hA79 => ?_; clear hA77 a76
 have hd80 : (checkR d) = 0 := hc
 rw [decide_eq_true hd80] at hA79
 refine st hA79 (op_move rfl (hA79.ev rfl)) rfl rfl (by decide) fun a81 hA82 => ?_; clear hA79 a78
 refine stg hA82 (op_loadA rfl ty_26 (hA82.ev rfl) (hS73.bk 3 rfl) (l := [rl, rs, (Value.int .i64 d.spread), rb]) rfl rfl) rfl rfl rfl rfl (by decide) fun a83 hA84 => ?_; clear hA82 a81
 refine stg hA84 (op_move rfl (hA84.ev rfl)) rfl rfl rfl rfl (by decide) fun a85 hA86 => ?_; clear hA84 a83
 refine stwg hA86 (op_call rfl en_24 (ev2 (hA86.ev rfl) (hA86.ev rfl)) (Rising_ok rl rs rb rlv d _ (rnd_at (hS73.ok 5 _ rfl)) _ l (hS73.sk 4 rfl) (by omega) (by omega))) rfl rfl rfl rfl (by decide) ?_
 rintro a87 _ w89 ⟨rfl, hE90⟩ hA88; have hS91 := hS73.step hE90; clear hE90 hA86 hS73 a85
 rw [hr] at hA88
 refine stg hA88 (op_not rfl (hA88.ev rfl)) rfl rfl rfl rfl (by decide) fun a92 hA93 => ?_; clear hA88 a87
 refine st hA93 (op_pick_t rfl (hA93.ev rfl) (hA93.ev rfl)) rfl rfl (by decide) fun a94 hA95 => ?_; clear hA93 a92
 refine wl_nil ?_
 refine then_n ?_
 refine c_false hA95 rfl ?_
 refine c_skip ?_
 refine then_n ?_
 refine c_seq ?_
 refine c_seq ?_
 have hA96 := hA95.as [(7, (Value.int .i64 (checkR d))), (6, (Value.int .i64 9)), (5, u55), (2, (bptr b4 0)), (1, xl)] rfl; clear hA95
 refine c_region ?_
 refine st hA96 (op_move rfl (hA96.ev rfl)) rfl rfl (by decide) fun a97 hA98 => ?_; clear hA96 a94
 refine st hA98 (op_eql rfl (hA98.ev rfl) (evc _ _)) rfl rfl (by decide) fun a99 hA100 => ?_; clear hA98 a97
 rw [decide_eq_true hd80] at hA100
 refine st hA100 (op_move rfl (hA100.ev rfl)) rfl rfl (by decide) fun a101 hA102 => ?_; clear hA100 a99
 refine stg hA102 (op_loadA rfl ty_26 (hA102.ev rfl) (hS91.bk 3 rfl) (l := [rl, rs, (Value.int .i64 d.spread), rb]) rfl rfl) rfl rfl rfl rfl (by decide) fun a103 hA104 => ?_; clear hA102 a101
 refine stg hA104 (op_move rfl (hA104.ev rfl)) rfl rfl rfl rfl (by decide) fun a105 hA106 => ?_; clear hA104 a103
 refine stwg hA106 (op_call rfl en_25 (ev2 (hA106.ev rfl) (hA106.ev rfl)) (by have h := (RefExplains_ok rl rs rb rlv d _ (rnd_at (hS91.ok 5 _ rfl)) _ l (hS91.sk 4 rfl) (by omega) hV); rw [(refOk_rise hV hr).trans hex] at h; exact h)) rfl rfl rfl rfl (by decide) ?_
 rintro a107 _ w109 ⟨rfl, hE110⟩ hA108; have hS111 := hS91.step hE110; clear hE110 hA106 hS91 a105
 refine stg hA108 (op_not rfl (hA108.ev rfl)) rfl rfl rfl rfl (by decide) fun a112 hA113 => ?_; clear hA108 a107
 refine st hA113 (op_pick_t rfl (hA113.ev rfl) (hA113.ev rfl)) rfl rfl (by decide) fun a114 hA115 => ?_; clear hA113 a112
 refine wl_nil ?_
 refine then_n ?_
 refine c_true hA115 rfl ?_
 have hA116 := hA115.as [(6, (Value.int .i64 9)), (5, u55), (2, (bptr b4 0)), (1, xl)] rfl; clear hA115
 refine c_region ?_
 refine st hA116 (op_assign rfl (evc _ _)) rfl rfl (by decide) fun a117 hA118 => ?_; clear hA116 a114
 refine wl_nil ?_
 refine then_n ?_
 refine c_seq ?_
 refine c_seq ?_
 refine c_region ?_
 refine st hA118 (op_move rfl (hA118.ev rfl)) rfl rfl (by decide) fun a119 hA120 => ?_; clear hA118 a117
 refine st hA120 (op_neq rfl (hA120.ev rfl) (evc _ _)) rfl rfl (by decide) fun a121 hA122 => ?_; clear hA120 a119
 refine wl_nil ?_
 refine then_n ?_
 refine c_true hA122 rfl ?_
 refine c_seq ?_
 refine c_region ?_
 refine st hA122 (op_move rfl (hA122.ev rfl)) rfl rfl (by decide) fun a123 hA124 => ?_; clear hA122 a121
 refine st hA124 (op_move rfl (hA124.ev rfl)) rfl rfl (by decide) fun a125 hA126 => ?_; clear hA124 a123
 refine st hA126 (op_eql rfl (hA126.ev rfl) (hA126.ev rfl)) rfl rfl (by decide) fun a127 hA128 => ?_; clear hA126 a125
 refine st hA128 (op_move rfl (hA128.ev rfl)) rfl rfl (by decide) fun a129 hA130 => ?_; clear hA128 a127
 refine stg hA130 (op_move rfl (hA130.ev rfl)) rfl rfl rfl rfl (by decide) fun a131 hA132 => ?_; clear hA130 a129
 refine stg hA132 (op_lenS rfl un_31 (hA132.ev rfl) (SlAt.of_row (hS111.ok_row 0 rfl))) rfl rfl rfl rfl (by decide) fun a133 hA134 => ?_; clear hA132 a131
 refine stg hA134 (op_eql rfl (hA134.ev rfl) (evc _ _)) rfl rfl rfl rfl (by decide) fun a135 hA136 => ?_; clear hA134 a133
 have hd137 : (([] : List (Int × Int)).length : Int) = 0 := rfl
 rw [decide_eq_true hd137] at hA136
 refine st hA136 (op_pick_t rfl (hA136.ev rfl) (hA136.ev rfl)) rfl rfl (by decide) fun a138 hA139 => ?_; clear hA136 a135
 refine st hA139 (op_move rfl (hA139.ev rfl)) rfl rfl (by decide) fun a140 hA141 => ?_; clear hA139 a138
 refine stwg hA141 (op_call rfl en_18 ev0 (wakes_ok _)) rfl rfl rfl rfl (by decide) ?_
 rintro a142 _ w144 ⟨rfl, hE145⟩ hA143; have hS146 := hS111.step hE145; clear hE145 hA141 hS111 a140
 refine st hA143 (op_pick_t rfl (hA143.ev rfl) (hA143.ev rfl)) rfl rfl (by decide) fun a147 hA148 => ?_; clear hA143 a142
 refine st hA148 (op_assign rfl (hA148.ev rfl)) rfl rfl (by decide) fun a149 hA150 => ?_; clear hA148 a147
 refine wl_nil ?_
 refine then_n ?_
 refine c_ret ?_
 refine then_ret ?_
 refine fin_run hA150 (.inl rfl) (run_results1 hA150 rfl (.tmp rfl)) ?_
 exact ⟨rfl, hS146.ext⟩

set_option maxHeartbeats 4000000 in
theorem RoundSpans_f (rl rs rb : Value) (rlv : List Value) (d : RD) (w : World) (hR : RoundAt w rl rs rb rlv d) (xl : Value) (l : List Int) (hx : SlAt w xl 1 l.length (ints l)) (hf : fewB d = true) (hl : l.length ≤ 10) (hc : checkR d = 0) (hr : riseB d.tols.length l = true) (hex : explB d (offUpto l l.length) = true) (S1 : List (Int × Int)) (hs1 : spansR d l = (S1, 0)) (hl1 : S1.length = d.samples.length) (hb : ∀ k, k < d.samples.length → refSpan d l k = S1.getD k (0, 0)) :
  Calls Try.prog 4 #[(Value.agg #[rl, rs, (Value.int .i64 d.spread), rb]), xl] w (Ret fun v w' => v = .bool true ∧ Ext NoB w w') := by
 refine calls_enter Try.func4 rfl fun a0 hA0 => ?_
 replace hA0 : Fr 97 [] [(0, (Value.agg #[rl, rs, (Value.int .i64 d.spread), rb])), (1, xl)] a0 := hA0
 have hth := thin_of (fewB_thin hf); have hV := valid_of hc; have hns := hV.ns
 have hS0 : Sep NoB w w [(sl xl 1 l.length (ints l)), (rndR false rl rs rb rlv d)] := sep_ro ⟨rfl, hx, rfl, hR, trivial⟩
 refine c_seq ?_
 refine c_region ?_
 refine stw hA0 (op_box hS0 rfl (hA0.ev rfl) (cs := [rl, rs, (Value.int .i64 d.spread), rb]) rfl) rfl rfl (by decide) ?_
 rintro a1 _ w3 ⟨b4, rfl, hS5⟩ hA2; clear hA0 hS0 a0
 refine st hA2 (op_assign rfl (evc _ _)) rfl rfl (by decide) fun a6 hA7 => ?_; clear hA2 a1
 refine wl_nil ?_
 refine then_n ?_
 refine c_seq ?_
 refine c_seq ?_
 refine c_region ?_
 refine st hA7 (op_loadA rfl ty_26 (hA7.ev rfl) (hS5.bk 0 rfl) (l := [rl, rs, (Value.int .i64 d.spread), rb]) rfl rfl) rfl rfl (by decide) fun a8 hA9 => ?_; clear hA7 a6
 refine stw hA9 (op_call rfl en_17 (ev1 (hA9.ev rfl)) (Few_ok rl rs rb rlv d _ (rnd_at (hS5.ok 2 _ rfl)))) rfl rfl (by decide) ?_
 rintro a10 _ w12 ⟨rfl, hE13⟩ hA11; have hS14 := hS5.step hE13; clear hE13 hA9 hS5 a8
 rw [hf] at hA11
 refine st hA11 (op_not rfl (hA11.ev rfl)) rfl rfl (by decide) fun a15 hA16 => ?_; clear hA11 a10
 refine st hA16 (op_move rfl (hA16.ev rfl)) rfl rfl (by decide) fun a17 hA18 => ?_; clear hA16 a15
 refine stg hA18 (op_move rfl (hA18.ev rfl)) rfl rfl rfl rfl (by decide) fun a19 hA20 => ?_; clear hA18 a17
 refine stg hA20 (op_lenS rfl un_23 (hA20.ev rfl) (hS14.sk 1 rfl)) rfl rfl rfl rfl (by decide) fun a21 hA22 => ?_; clear hA20 a19
 refine stg hA22 (op_gtr rfl (hA22.ev rfl) (evc _ _)) rfl rfl rfl rfl (by decide) fun a23 hA24 => ?_; clear hA22 a21
 have hd25 : ¬ (10 < (l.length : Int)) := (by omega)
 rw [decide_eq_false hd25] at hA24
 refine st hA24 (op_pick_f rfl (hA24.ev rfl) (hA24.ev rfl)) rfl rfl (by decide) fun a26 hA27 => ?_; clear hA24 a23
 refine wl_nil ?_
 refine then_n ?_
 refine c_false hA27 rfl ?_
 refine c_skip ?_
 refine then_n ?_
 refine c_seq ?_
 have hA28 := hA27.as [(2, (bptr b4 0)), (1, xl)] rfl; clear hA27
 refine c_region ?_
 refine st hA28 (op_loadA rfl ty_26 (hA28.ev rfl) (hS14.bk 0 rfl) (l := [rl, rs, (Value.int .i64 d.spread), rb]) rfl rfl) rfl rfl (by decide) fun a29 hA30 => ?_; clear hA28 a26
 refine stw hA30 (op_call rfl en_20 (ev1 (hA30.ev rfl)) (Round_ok rl rs rb rlv d _ (rnd_at (hS14.ok 2 _ rfl)) hth)) rfl rfl (by decide) ?_
 rintro a31 _ w33 ⟨vl34, vs35, vb36, lv37, rfl, hT38⟩ hA32; have hS39 := hS14.callS hT38 rfl; clear hT38 hA30 hS14 a29
 refine st hA32 (op_move rfl (hA32.ev rfl)) rfl rfl (by decide) fun a40 hA41 => ?_; clear hA32 a31
 refine stw hA41 (op_call rfl en_22 (ev1 (hA41.ev rfl)) (list_ok l _ _ (hS39.sk 2 rfl) (by omega))) rfl rfl (by decide) ?_
 rintro a42 v48 w44 ⟨hE45, hO46⟩ hA43; have hS47 := hS39.new_row hE45 hO46; clear hE45 hO46 hA41 hS39 a40
 refine stw hA43 (op_call rfl en_26 (ev2 (hA43.ev rfl) (hA43.ev rfl)) (by have h := (spansE_ok vl34 vs35 vb36 lv37 d _ (rnd_at (hS47.ok 1 _ rfl)) _ l (SlAt.of_row (hS47.ok_row 0 rfl)) (by omega)); rw [hs1] at h; exact h)) rfl rfl (by decide) ?_
 rintro a49 _ w51 ⟨u55, rfl, hE52, hO53⟩ hA50; have hS54 := hS47.new_row hE52 hO53; clear hE52 hO53 hA43 hS47 a42
 refine st hA50 (op_move rfl (hA50.ev rfl)) rfl rfl (by decide) fun a56 hA57 => ?_; clear hA50 a49
 refine st hA57 (op_extract rfl (hA57.ev rfl) rfl) rfl rfl (by decide) fun a58 hA59 => ?_; clear hA57 a56
 refine st hA59 (op_extract rfl (hA59.ev rfl) rfl) rfl rfl (by decide) fun a60 hA61 => ?_; clear hA59 a58
 refine st hA61 (op_assign rfl (hA61.ev rfl)) rfl rfl (by decide) fun a62 hA63 => ?_; clear hA61 a60
 refine st hA63 (op_assign rfl (hA63.ev rfl)) rfl rfl (by decide) fun a64 hA65 => ?_; clear hA63 a62
 refine wl_nil ?_
 refine then_n ?_
 refine c_seq ?_
 have hA66 := hA65.as [(6, (Value.int .i64 0)), (5, u55), (2, (bptr b4 0)), (1, xl)] rfl; clear hA65
 refine c_region ?_
 refine st hA66 (op_loadA rfl ty_26 (hA66.ev rfl) (hS54.bk 3 rfl) (l := [rl, rs, (Value.int .i64 d.spread), rb]) rfl rfl) rfl rfl (by decide) fun a67 hA68 => ?_; clear hA66 a64
 refine stw hA68 (op_call rfl en_23 (ev1 (hA68.ev rfl)) (fault_ok rl rs rb rlv d _ (rnd_at (hS54.ok 5 _ rfl)))) rfl rfl (by decide) ?_
 rintro a69 _ w71 ⟨rfl, hE72⟩ hA70; have hS73 := hS54.step hE72; clear hE72 hA68 hS54 a67
 refine st hA70 (op_assign rfl (hA70.ev rfl)) rfl rfl (by decide) fun a74 hA75 => ?_; clear hA70 a69
 refine wl_nil ?_
 refine then_n ?_
 refine c_seq ?_
 refine c_seq ?_
 refine c_region ?_
 refine st hA75 (op_move rfl (hA75.ev rfl)) rfl rfl (by decide) fun a76 hA77 => ?_; clear hA75 a74
 refine st hA77 (op_eql rfl (hA77.ev rfl) (evc _ _)) rfl rfl (by decide) fun a78 hA79 => ?_; clear hA77 a76
 have hd80 : (checkR d) = 0 := hc
 rw [decide_eq_true hd80] at hA79
 refine st hA79 (op_move rfl (hA79.ev rfl)) rfl rfl (by decide) fun a81 hA82 => ?_; clear hA79 a78
 refine stg hA82 (op_loadA rfl ty_26 (hA82.ev rfl) (hS73.bk 3 rfl) (l := [rl, rs, (Value.int .i64 d.spread), rb]) rfl rfl) rfl rfl rfl rfl (by decide) fun a83 hA84 => ?_; clear hA82 a81
 refine stg hA84 (op_move rfl (hA84.ev rfl)) rfl rfl rfl rfl (by decide) fun a85 hA86 => ?_; clear hA84 a83
 refine stwg hA86 (op_call rfl en_24 (ev2 (hA86.ev rfl) (hA86.ev rfl)) (Rising_ok rl rs rb rlv d _ (rnd_at (hS73.ok 5 _ rfl)) _ l (hS73.sk 4 rfl) (by omega) (by omega))) rfl rfl rfl rfl (by decide) ?_
 rintro a87 _ w89 ⟨rfl, hE90⟩ hA88; have hS91 := hS73.step hE90; clear hE90 hA86 hS73 a85
 rw [hr] at hA88
 refine stg hA88 (op_not rfl (hA88.ev rfl)) rfl rfl rfl rfl (by decide) fun a92 hA93 => ?_; clear hA88 a87
 refine st hA93 (op_pick_t rfl (hA93.ev rfl) (hA93.ev rfl)) rfl rfl (by decide) fun a94 hA95 => ?_; clear hA93 a92
 refine wl_nil ?_
 refine then_n ?_
 refine c_false hA95 rfl ?_
 refine c_skip ?_
 refine then_n ?_
 refine c_seq ?_
 refine c_seq ?_
 have hA96 := hA95.as [(7, (Value.int .i64 (checkR d))), (6, (Value.int .i64 0)), (5, u55), (2, (bptr b4 0)), (1, xl)] rfl; clear hA95
 refine c_region ?_
 refine st hA96 (op_move rfl (hA96.ev rfl)) rfl rfl (by decide) fun a97 hA98 => ?_; clear hA96 a94
 refine st hA98 (op_eql rfl (hA98.ev rfl) (evc _ _)) rfl rfl (by decide) fun a99 hA100 => ?_; clear hA98 a97
 rw [decide_eq_true hd80] at hA100
 refine st hA100 (op_move rfl (hA100.ev rfl)) rfl rfl (by decide) fun a101 hA102 => ?_; clear hA100 a99
 refine stg hA102 (op_loadA rfl ty_26 (hA102.ev rfl) (hS91.bk 3 rfl) (l := [rl, rs, (Value.int .i64 d.spread), rb]) rfl rfl) rfl rfl rfl rfl (by decide) fun a103 hA104 => ?_; clear hA102 a101
 refine stg hA104 (op_move rfl (hA104.ev rfl)) rfl rfl rfl rfl (by decide) fun a105 hA106 => ?_; clear hA104 a103
 refine stwg hA106 (op_call rfl en_25 (ev2 (hA106.ev rfl) (hA106.ev rfl)) (by have h := (RefExplains_ok rl rs rb rlv d _ (rnd_at (hS91.ok 5 _ rfl)) _ l (hS91.sk 4 rfl) (by omega) hV); rw [(refOk_rise hV hr).trans hex] at h; exact h)) rfl rfl rfl rfl (by decide) ?_
 rintro a107 _ w109 ⟨rfl, hE110⟩ hA108; have hS111 := hS91.step hE110; clear hE110 hA106 hS91 a105
 refine stg hA108 (op_not rfl (hA108.ev rfl)) rfl rfl rfl rfl (by decide) fun a112 hA113 => ?_; clear hA108 a107
 refine st hA113 (op_pick_t rfl (hA113.ev rfl) (hA113.ev rfl)) rfl rfl (by decide) fun a114 hA115 => ?_; clear hA113 a112
 refine wl_nil ?_
 refine then_n ?_
 refine c_false hA115 rfl ?_
 refine c_skip ?_
 refine then_n ?_
 refine c_seq ?_
 refine c_seq ?_
 have hA116 := hA115.as [(7, (Value.int .i64 (checkR d))), (6, (Value.int .i64 0)), (5, u55), (2, (bptr b4 0)), (1, xl)] rfl; clear hA115
 refine c_region ?_
 refine st hA116 (op_move rfl (hA116.ev rfl)) rfl rfl (by decide) fun a117 hA118 => ?_; clear hA116 a114
 refine st hA118 (op_neq rfl (hA118.ev rfl) (evc _ _)) rfl rfl (by decide) fun a119 hA120 => ?_; clear hA118 a117
 rw [decide_eq_true hd80] at hA120
 refine wl_nil ?_
 refine then_n ?_
 refine c_false hA120 rfl ?_
 refine c_skip ?_
 refine then_n ?_
 refine c_seq ?_
 refine c_seq ?_
 refine c_region ?_
 refine st hA120 (op_move rfl (hA120.ev rfl)) rfl rfl (by decide) fun a121 hA122 => ?_; clear hA120 a119
 refine st hA122 (op_neq rfl (hA122.ev rfl) (evc _ _)) rfl rfl (by decide) fun a123 hA124 => ?_; clear hA122 a121
 refine st hA124 (op_move rfl (hA124.ev rfl)) rfl rfl (by decide) fun a125 hA126 => ?_; clear hA124 a123
 refine stg hA126 (op_move rfl (hA126.ev rfl)) rfl rfl rfl rfl (by decide) fun a127 hA128 => ?_; clear hA126 a125
 refine stg hA128 (op_lenS rfl un_31 (hA128.ev rfl) (SlAt.of_row (hS111.ok_row 0 rfl))) rfl rfl rfl rfl (by decide) fun a129 hA130 => ?_; clear hA128 a127
 refine stg hA130 (op_field rfl fd_26_1 (hA130.ev rfl)) rfl rfl rfl rfl (by decide) fun a131 hA132 => ?_; clear hA130 a129
 refine stg hA132 (op_load1 rfl ty_23 (hA132.ev rfl) (hS111.bk 3 rfl) rfl) rfl rfl rfl rfl (by decide) fun a133 hA134 => ?_; clear hA132 a131
 refine stg hA134 (op_lenS rfl un_23 (hA134.ev rfl) (rnd_at (hS111.ok 5 _ rfl)).samples) rfl rfl rfl rfl (by decide) fun a135 hA136 => ?_; clear hA134 a133
 refine stg hA136 (op_neq rfl (hA136.ev rfl) (hA136.ev rfl)) rfl rfl rfl rfl (by decide) fun a137 hA138 => ?_; clear hA136 a135
 have hd139 : (S1.length : Int) = (d.samples.length : Int) := (by omega)
 rw [decide_eq_true hd139] at hA138
 refine st hA138 (op_pick_f rfl (hA138.ev rfl) (hA138.ev rfl)) rfl rfl (by decide) fun a140 hA141 => ?_; clear hA138 a137
 refine wl_nil ?_
 refine then_n ?_
 refine c_false hA141 rfl ?_
 refine c_skip ?_
 refine then_n ?_
 refine c_seq ?_
 refine c_seq ?_
 have hA142 := hA141.as [(5, u55), (2, (bptr b4 0)), (1, xl)] rfl; clear hA141
 refine c_region ?_
 refine st hA142 (op_assign rfl (evc _ _)) rfl rfl (by decide) fun a143 hA144 => ?_; clear hA142 a140
 refine wl_nil ?_
 refine then_n ?_
 refine c_block ?_
 have hA145 := hA144.as [(8, (Value.int .i64 0)), (5, u55), (2, (bptr b4 0)), (1, xl)] rfl; clear hA144
 refine c_loop (G := Nat) (fun (k : Nat) a_ w_ => Fr 97 [] [(8, (Value.int .i64 (k : Int))), (5, u55), (2, (bptr b4 0)), (1, xl)] a_ ∧ Sep NoB w w_ [(row u55 46 2 S1.length (pairs S1)), (row v48 3 1 l.length (ints l)), (rndR true vl34 vs35 vb36 lv37 d), (blk b4 26 [rl, rs, (Value.int .i64 d.spread), rb]), (sl xl 1 l.length (ints l)), (rndR false rl rs rb rlv d)] ∧ (k ≤ S1.length)) (fun k => S1.length - k) 0 ⟨hA145.as _ rfl, hS111, by omega⟩ ?_
 clear hA145 hS111 a143
 rintro k a146 w148 ⟨hA147, hS149, hkk⟩
 refine c_seq ?_
 refine c_seq ?_
 refine c_region ?_
 refine st hA147 (op_move rfl (hA147.ev rfl)) rfl rfl (by decide) fun a150 hA151 => ?_; clear hA147 a146
 refine st hA151 (op_move rfl (hA151.ev rfl)) rfl rfl (by decide) fun a152 hA153 => ?_; clear hA151 a150
 refine st hA153 (op_lenS rfl un_31 (hA153.ev rfl) (SlAt.of_row (hS149.ok_row 0 rfl))) rfl rfl (by decide) fun a154 hA155 => ?_; clear hA153 a152
 refine st hA155 (op_lss rfl (hA155.ev rfl) (hA155.ev rfl)) rfl rfl (by decide) fun a156 hA157 => ?_; clear hA155 a154
 refine wl_nil ?_
 refine then_n ?_
 by_cases hb158 : (k : Int) < (S1.length : Int)
 ·skip
  rw [decide_eq_true hb158] at hA157
  refine c_true hA157 rfl ?_
  refine c_skip ?_
  refine then_n ?_
  refine c_seq ?_
  refine c_block ?_
  refine c_seq ?_
  refine c_region ?_
  refine st hA157 (op_loadA rfl ty_26 (hA157.ev rfl) (hS149.bk 3 rfl) (l := [rl, rs, (Value.int .i64 d.spread), rb]) rfl rfl) rfl rfl (by decide) fun a159 hA160 => ?_; clear hA157 a156
  refine st hA160 (op_move rfl (hA160.ev rfl)) rfl rfl (by decide) fun a161 hA162 => ?_; clear hA160 a159
  refine st hA162 (op_move rfl (hA162.ev rfl)) rfl rfl (by decide) fun a163 hA164 => ?_; clear hA162 a161
  refine stw hA164 (op_call rfl en_27 (ev3 (hA164.ev rfl) (hA164.ev rfl) (hA164.ev rfl)) (by have h := (Span_ok rl rs rb rlv d _ (rnd_at (hS149.ok 5 _ rfl)) _ l (hS149.sk 4 rfl) (by omega) k hV (by omega)); rw [hb _ (by omega)] at h; exact h)) rfl rfl (by decide) ?_
  rintro a165 _ w167 ⟨rfl, hE168⟩ hA166; have hS169 := hS149.step hE168; clear hE168 hA164 hS149 a163
  refine stw hA166 (op_alloc hS169 rfl ze_44 (cs := [(Value.int .i64 0), (Value.int .i64 0)]) rfl) rfl rfl (by decide) ?_
  rintro a170 _ w172 ⟨b173, rfl, hS174⟩ hA171; clear hA166 hS169 a165
  refine sts hA171 (op_store hS174 rfl ty_44 (hA171.ev rfl) (hA171.ev rfl) (i := 0) rfl (vs := [(Value.int .i64 ((S1.getD k (0, 0)).1)), (Value.int .i64 ((S1.getD k (0, 0)).2))]) rfl rfl rfl (Nat.le_of_ble_eq_true rfl)) rfl rfl ?_
  intro _ w175 hS176 hA177; clear hA171
  have hS178 : Sep NoB w w175 [(blk b173 44 [(Value.int .i64 ((S1.getD k (0, 0)).1)), (Value.int .i64 ((S1.getD k (0, 0)).2))]), (row u55 46 2 S1.length (pairs S1)), (row v48 3 1 l.length (ints l)), (rndR true vl34 vs35 vb36 lv37 d), (blk b4 26 [rl, rs, (Value.int .i64 d.spread), rb]), (sl xl 1 l.length (ints l)), (rndR false rl rs rb rlv d)] := hS176; clear hS176 hS174
  refine wl_nil ?_
  refine then_n ?_
  refine c_seq ?_
  have hA179 := hA177.as [(9, (bptr b173 0)), (8, (Value.int .i64 (k : Int))), (5, u55), (2, (bptr b4 0)), (1, xl)] rfl; clear hA177
  have hA180 := hA179.as [(9, (bptr b173 0)), (8, (Value.int .i64 (k : Int))), (5, u55), (2, (bptr b4 0)), (1, xl)] rfl; clear hA179
  refine c_drawV mixed hA180 hS178 16 [[], [], [0, 1], [2], [3], [], [5], [4, 6], [7], [8], [8], [8, 9, 10], [8, 11], [8, 12], [8], [8, 14]] [(fun (vs181 : Nat → Value) (v_ : Value) (rs_ : List Res) => v_ = u55 ∧ rs_ = []), (fun (vs181 : Nat → Value) (v_ : Value) (rs_ : List Res) => v_ = (Value.int .i64 (k : Int)) ∧ rs_ = []), (fun (vs181 : Nat → Value) (v_ : Value) (rs_ : List Res) => v_ = (eptr u55 (k * 2)) ∧ rs_ = []), (fun (vs181 : Nat → Value) (v_ : Value) (rs_ : List Res) => v_ = (eptr u55 (k * 2 + 0)) ∧ rs_ = []), (fun (vs181 : Nat → Value) (v_ : Value) (rs_ : List Res) => v_ = (Value.int .i64 ((S1.getD k (0, 0)).1)) ∧ rs_ = []), (fun (vs181 : Nat → Value) (v_ : Value) (rs_ : List Res) => v_ = (bptr b173 0) ∧ rs_ = []), (fun (vs181 : Nat → Value) (v_ : Value) (rs_ : List Res) => v_ = (Value.int .i64 ((S1.getD k (0, 0)).1)) ∧ rs_ = []), (fun (vs181 : Nat → Value) (v_ : Value) (rs_ : List Res) => v_ = (Value.bool (!true)) ∧ rs_ = []), (fun (vs181 : Nat → Value) (v_ : Value) (rs_ : List Res) => v_ = (Value.bool (!true)) ∧ rs_ = []), (fun (vs181 : Nat → Value) (v_ : Value) (rs_ : List Res) => v_ = u55 ∧ rs_ = []), (fun (vs181 : Nat → Value) (v_ : Value) (rs_ : List Res) => v_ = (Value.int .i64 (k : Int)) ∧ rs_ = []), (fun (vs181 : Nat → Value) (v_ : Value) (rs_ : List Res) => v_ = (eptr u55 (k * 2)) ∧ rs_ = []), (fun (vs181 : Nat → Value) (v_ : Value) (rs_ : List Res) => v_ = (eptr u55 (k * 2 + 1)) ∧ rs_ = []), (fun (vs181 : Nat → Value) (v_ : Value) (rs_ : List Res) => v_ = (Value.int .i64 ((S1.getD k (0, 0)).2)) ∧ rs_ = []), (fun (vs181 : Nat → Value) (v_ : Value) (rs_ : List Res) => v_ = (bptr b173 1) ∧ rs_ = []), (fun (vs181 : Nat → Value) (v_ : Value) (rs_ : List Res) => v_ = (Value.int .i64 ((S1.getD k (0, 0)).2)) ∧ rs_ = [])] (by decide +kernel) (by decide +kernel) rfl rfl ⟨(fun _ _ _ _ _ h_ => h_), (fun _ _ _ _ _ h_ => h_), (fun _ _ _ _ _ h_ => h_), (fun _ _ _ _ _ h_ => h_), (fun _ _ _ _ _ h_ => h_), (fun _ _ _ _ _ h_ => h_), (fun _ _ _ _ _ h_ => h_), (fun _ _ _ _ _ h_ => h_), (fun _ _ _ _ _ h_ => h_), (fun _ _ _ _ _ h_ => h_), (fun _ _ _ _ _ h_ => h_), (fun _ _ _ _ _ h_ => h_), (fun _ _ _ _ _ h_ => h_), (fun _ _ _ _ _ h_ => h_), (fun _ _ _ _ _ h_ => h_), (fun _ _ _ _ _ h_ => h_), trivial⟩ ?_ ?_
  ·skip
   refine ⟨fun a w vs181 hA hS hd => ?_, ?_⟩
   ·skip
    exact opG_of rfl (vv (op_move rfl (hA.ev rfl)) (And.intro rfl rfl))
   refine ⟨fun a w vs181 hA hS hd => ?_, ?_⟩
   ·skip
    exact opG_of rfl (vv (op_move rfl (hA.ev rfl)) (And.intro rfl rfl))
   refine ⟨fun a w vs181 hA hS hd => ?_, ?_⟩
   ·skip
    obtain ⟨e0, rs0, hy0, hp0⟩ := hd 0 (by decide)
    obtain ⟨hv0, hr0⟩ := hy0; subst hr0
    rw [hv0] at e0
    obtain ⟨e1, rs1, hy1, hp1⟩ := hd 1 (by decide)
    obtain ⟨hv1, hr1⟩ := hy1; subst hr1
    rw [hv1] at e1
    exact opG_of rfl (vv (op_indexS rfl un_31 ty_46 (tmp_ev (slot_ev e0 rfl)) (i := k) (tmp_ev (slot_ev e1 rfl)) (SlAt.of_row (hS.ok_row 1 rfl)) (by decide) (by omega)) (And.intro rfl rfl))
   refine ⟨fun a w vs181 hA hS hd => ?_, ?_⟩
   ·skip
    obtain ⟨e2, rs2, hy2, hp2⟩ := hd 2 (by decide)
    obtain ⟨hv2, hr2⟩ := hy2; subst hr2
    rw [hv2] at e2
    exact opG_of rfl (vv (op_fieldS rfl fd_46_0 (tmp_ev (slot_ev e2 rfl)) (SlAt.of_row (hS.ok_row 1 rfl)) (by rw [((SlAt.of_row (hS.ok_row 1 rfl))).1]; omega)) (And.intro rfl rfl))
   refine ⟨fun a w vs181 hA hS hd => ?_, ?_⟩
   ·skip
    obtain ⟨e3, rs3, hy3, hp3⟩ := hd 3 (by decide)
    obtain ⟨hv3, hr3⟩ := hy3; subst hr3
    rw [hv3] at e3
    exact opG_of rfl (vv (op_load1E rfl ty_3 (tmp_ev (slot_ev e3 rfl)) (SlAt.of_row (hS.ok_row 1 rfl)) (pairs_at0 (by omega))) (And.intro rfl rfl))
   refine ⟨fun a w vs181 hA hS hd => ?_, ?_⟩
   ·skip
    exact opG_of rfl (vv (op_field rfl fd_44_0 (hA.ev rfl)) (And.intro rfl rfl))
   refine ⟨fun a w vs181 hA hS hd => ?_, ?_⟩
   ·skip
    obtain ⟨e5, rs5, hy5, hp5⟩ := hd 5 (by decide)
    obtain ⟨hv5, hr5⟩ := hy5; subst hr5
    rw [hv5] at e5
    exact opG_of rfl (vv (op_load1 rfl ty_3 (tmp_ev (slot_ev e5 rfl)) (hS.bk 0 rfl) rfl) (And.intro rfl rfl))
   refine ⟨fun a w vs181 hA hS hd => ?_, ?_⟩
   ·skip
    obtain ⟨e4, rs4, hy4, hp4⟩ := hd 4 (by decide)
    obtain ⟨hv4, hr4⟩ := hy4; subst hr4
    rw [hv4] at e4
    obtain ⟨e6, rs6, hy6, hp6⟩ := hd 6 (by decide)
    obtain ⟨hv6, hr6⟩ := hy6; subst hr6
    rw [hv6] at e6
    exact opG_of rfl (vv (op_neq rfl (tmp_ev (slot_ev e4 rfl)) (tmp_ev (slot_ev e6 rfl))) (And.intro (by show Value.bool _ = _; simp only [decide_eq_true (show ((S1.getD k (0, 0)).1) = ((S1.getD k (0, 0)).1) from rfl), decide_true, decide_false, Bool.not_true, Bool.not_false]) rfl))
   refine ⟨fun a w vs181 hA hS hd => ?_, ?_⟩
   ·skip
    obtain ⟨e7, rs7, hy7, hp7⟩ := hd 7 (by decide)
    obtain ⟨hv7, hr7⟩ := hy7; subst hr7
    rw [hv7] at e7
    exact opG_of rfl (vv (op_move rfl (tmp_ev (slot_ev e7 rfl))) (And.intro rfl rfl))
   refine ⟨fun a w vs181 hA hS hd => ?_, ?_⟩
   ·skip
    obtain ⟨e8, rs8, hy8, hp8⟩ := hd 8 (by decide)
    obtain ⟨hv8, hr8⟩ := hy8; subst hr8
    rw [hv8] at e8
    exact opG_yes rfl rfl (slot_ev e8 rfl) (vv (op_move rfl (hA.ev rfl)) (And.intro rfl rfl))
   refine ⟨fun a w vs181 hA hS hd => ?_, ?_⟩
   ·skip
    obtain ⟨e8, rs8, hy8, hp8⟩ := hd 8 (by decide)
    obtain ⟨hv8, hr8⟩ := hy8; subst hr8
    rw [hv8] at e8
    exact opG_yes rfl rfl (slot_ev e8 rfl) (vv (op_move rfl (hA.ev rfl)) (And.intro rfl rfl))
   refine ⟨fun a w vs181 hA hS hd => ?_, ?_⟩
   ·skip
    obtain ⟨e8, rs8, hy8, hp8⟩ := hd 8 (by decide)
    obtain ⟨hv8, hr8⟩ := hy8; subst hr8
    rw [hv8] at e8
    obtain ⟨e9, rs9, hy9, hp9⟩ := hd 9 (by decide)
    obtain ⟨hv9, hr9⟩ := hy9; subst hr9
    rw [hv9] at e9
    obtain ⟨e10, rs10, hy10, hp10⟩ := hd 10 (by decide)
    obtain ⟨hv10, hr10⟩ := hy10; subst hr10
    rw [hv10] at e10
    exact opG_yes rfl rfl (slot_ev e8 rfl) (vv (op_indexS rfl un_31 ty_46 (tmp_ev (slot_ev e9 rfl)) (i := k) (tmp_ev (slot_ev e10 rfl)) (SlAt.of_row (hS.ok_row 1 rfl)) (by decide) (by omega)) (And.intro rfl rfl))
   refine ⟨fun a w vs181 hA hS hd => ?_, ?_⟩
   ·skip
    obtain ⟨e8, rs8, hy8, hp8⟩ := hd 8 (by decide)
    obtain ⟨hv8, hr8⟩ := hy8; subst hr8
    rw [hv8] at e8
    obtain ⟨e11, rs11, hy11, hp11⟩ := hd 11 (by decide)
    obtain ⟨hv11, hr11⟩ := hy11; subst hr11
    rw [hv11] at e11
    exact opG_yes rfl rfl (slot_ev e8 rfl) (vv (op_fieldS rfl fd_46_1 (tmp_ev (slot_ev e11 rfl)) (SlAt.of_row (hS.ok_row 1 rfl)) (by rw [((SlAt.of_row (hS.ok_row 1 rfl))).1]; omega)) (And.intro rfl rfl))
   refine ⟨fun a w vs181 hA hS hd => ?_, ?_⟩
   ·skip
    obtain ⟨e8, rs8, hy8, hp8⟩ := hd 8 (by decide)
    obtain ⟨hv8, hr8⟩ := hy8; subst hr8
    rw [hv8] at e8
    obtain ⟨e12, rs12, hy12, hp12⟩ := hd 12 (by decide)
    obtain ⟨hv12, hr12⟩ := hy12; subst hr12
    rw [hv12] at e12
    exact opG_yes rfl rfl (slot_ev e8 rfl) (vv (op_load1E rfl ty_3 (tmp_ev (slot_ev e12 rfl)) (SlAt.of_row (hS.ok_row 1 rfl)) (pairs_at1 (by omega))) (And.intro rfl rfl))
   refine ⟨fun a w vs181 hA hS hd => ?_, ?_⟩
   ·skip
    obtain ⟨e8, rs8, hy8, hp8⟩ := hd 8 (by decide)
    obtain ⟨hv8, hr8⟩ := hy8; subst hr8
    rw [hv8] at e8
    exact opG_yes rfl rfl (slot_ev e8 rfl) (vv (op_field rfl fd_44_1 (hA.ev rfl)) (And.intro rfl rfl))
   refine ⟨fun a w vs181 hA hS hd => ?_, ?_⟩
   ·skip
    obtain ⟨e8, rs8, hy8, hp8⟩ := hd 8 (by decide)
    obtain ⟨hv8, hr8⟩ := hy8; subst hr8
    rw [hv8] at e8
    obtain ⟨e14, rs14, hy14, hp14⟩ := hd 14 (by decide)
    obtain ⟨hv14, hr14⟩ := hy14; subst hr14
    rw [hv14] at e14
    exact opG_yes rfl rfl (slot_ev e8 rfl) (vv (op_load1 rfl ty_3 (tmp_ev (slot_ev e14 rfl)) (hS.bk 0 rfl) rfl) (And.intro rfl rfl))
   trivial
  intro a182 w183 vs181 rsf187 hA184 hH186 hS185; clear hA180 hS178
  obtain ⟨hs_0, hy_0⟩ := hH186 0 (by decide)
  obtain ⟨hv_0, hr_0⟩ := hy_0
  obtain ⟨hs_1, hy_1⟩ := hH186 1 (by decide)
  obtain ⟨hv_1, hr_1⟩ := hy_1
  obtain ⟨hs_2, hy_2⟩ := hH186 2 (by decide)
  obtain ⟨hv_2, hr_2⟩ := hy_2
  obtain ⟨hs_3, hy_3⟩ := hH186 3 (by decide)
  obtain ⟨hv_3, hr_3⟩ := hy_3
  obtain ⟨hs_4, hy_4⟩ := hH186 4 (by decide)
  obtain ⟨hv_4, hr_4⟩ := hy_4
  obtain ⟨hs_5, hy_5⟩ := hH186 5 (by decide)
  obtain ⟨hv_5, hr_5⟩ := hy_5
  obtain ⟨hs_6, hy_6⟩ := hH186 6 (by decide)
  obtain ⟨hv_6, hr_6⟩ := hy_6
  obtain ⟨hs_7, hy_7⟩ := hH186 7 (by decide)
  obtain ⟨hv_7, hr_7⟩ := hy_7
  obtain ⟨hs_8, hy_8⟩ := hH186 8 (by decide)
  obtain ⟨hv_8, hr_8⟩ := hy_8
  obtain ⟨hs_9, hy_9⟩ := hH186 9 (by decide)
  obtain ⟨hv_9, hr_9⟩ := hy_9
  obtain ⟨hs_10, hy_10⟩ := hH186 10 (by decide)
  obtain ⟨hv_10, hr_10⟩ := hy_10
  obtain ⟨hs_11, hy_11⟩ := hH186 11 (by decide)
  obtain ⟨hv_11, hr_11⟩ := hy_11
  obtain ⟨hs_12, hy_12⟩ := hH186 12 (by decide)
  obtain ⟨hv_12, hr_12⟩ := hy_12
  obtain ⟨hs_13, hy_13⟩ := hH186 13 (by decide)
  obtain ⟨hv_13, hr_13⟩ := hy_13
  obtain ⟨hs_14, hy_14⟩ := hH186 14 (by decide)
  obtain ⟨hv_14, hr_14⟩ := hy_14
  obtain ⟨hs_15, hy_15⟩ := hH186 15 (by decide)
  obtain ⟨hv_15, hr_15⟩ := hy_15
  have hS188 : Sep NoB w w183 [(blk b173 44 [(Value.int .i64 ((S1.getD k (0, 0)).1)), (Value.int .i64 ((S1.getD k (0, 0)).2))]), (row u55 46 2 S1.length (pairs S1)), (row v48 3 1 l.length (ints l)), (rndR true vl34 vs35 vb36 lv37 d), (blk b4 26 [rl, rs, (Value.int .i64 d.spread), rb]), (sl xl 1 l.length (ints l)), (rndR false rl rs rb rlv d)] := by rw [show catR rsf187 0 16 = ([] : List Res) by (try simp only [catR, hr_0, hr_1, hr_2, hr_3, hr_4, hr_5, hr_6, hr_7, hr_8, hr_9, hr_10, hr_11, hr_12, hr_13, hr_14, hr_15]); (try rfl)] at hS185; exact hS185
  rw [hv_8] at hs_8
  have hA189 : Fr 97 [] [(86, (Value.bool (!true))), (9, (bptr b173 0)), (8, (Value.int .i64 (k : Int))), (5, u55), (2, (bptr b4 0)), (1, xl)] a182 := hA184.add (slot_ev hs_8 rfl); clear hA184
  rw [hv_13] at hs_13
  have hA190 : Fr 97 [] [(91, (Value.int .i64 ((S1.getD k (0, 0)).2))), (86, (Value.bool (!true))), (9, (bptr b173 0)), (8, (Value.int .i64 (k : Int))), (5, u55), (2, (bptr b4 0)), (1, xl)] a182 := hA189.add (slot_ev hs_13 rfl); clear hA189
  rw [hv_15] at hs_15
  have hA191 : Fr 97 [] [(93, (Value.int .i64 ((S1.getD k (0, 0)).2))), (91, (Value.int .i64 ((S1.getD k (0, 0)).2))), (86, (Value.bool (!true))), (9, (bptr b173 0)), (8, (Value.int .i64 (k : Int))), (5, u55), (2, (bptr b4 0)), (1, xl)] a182 := hA190.add (slot_ev hs_15 rfl); clear hA190
  clear hH186 hS185 hs_0 hs_1 hs_2 hs_3 hs_4 hs_5 hs_6 hs_7 hs_8 hs_9 hs_10 hs_11 hs_12 hs_13 hs_14 hs_15
  clear hr_0
  clear hv_0
  clear hr_1
  clear hv_1
  clear hr_2
  clear hv_2
  clear hr_3
  clear hv_3
  clear hr_4
  clear hv_4
  clear hr_5
  clear hv_5
  clear hr_6
  clear hv_6
  clear hr_7
  clear hv_7
  clear hr_8
  clear hv_8
  clear hr_9
  clear hv_9
  clear hr_10
  clear hv_10
  clear hr_11
  clear hv_11
  clear hr_12
  clear hv_12
  clear hr_13
  clear hv_13
  clear hr_14
  clear hv_14
  clear hr_15
  clear hv_15
  refine stg hA191 (op_neq rfl (hA191.ev rfl) (hA191.ev rfl)) rfl rfl rfl rfl (by decide) fun a192 hA193 => ?_; clear hA191 a182
  have hd194 : ((S1.getD k (0, 0)).2) = ((S1.getD k (0, 0)).2) := rfl
  rw [decide_eq_true hd194] at hA193
  refine st hA193 (op_pick_f rfl (hA193.ev rfl) (hA193.ev rfl)) rfl rfl (by decide) fun a195 hA196 => ?_; clear hA193 a192
  refine wl_nil ?_
  refine then_n ?_
  refine c_false hA196 rfl ?_
  refine c_skip ?_
  refine blk_n ?_
  refine then_n ?_
  have hA197 := hA196.as [(8, (Value.int .i64 (k : Int))), (5, u55), (2, (bptr b4 0)), (1, xl)] rfl; clear hA196
  refine c_region ?_
  refine st hA197 (op_move rfl (hA197.ev rfl)) rfl rfl (by decide) fun a198 hA199 => ?_; clear hA197 a195
  refine st hA199 (op_add rfl (hA199.ev rfl) (evc _ _) (by omega) (by omega)) rfl rfl (by decide) fun a200 hA201 => ?_; clear hA199 a198
  refine st hA201 (op_assign rfl (hA201.ev rfl)) rfl rfl (by decide) fun a202 hA203 => ?_; clear hA201 a200
  refine wl_nil ?_
  have hS204 : Sep NoB w w183 [(row u55 46 2 S1.length (pairs S1)), (row v48 3 1 l.length (ints l)), (rndR true vl34 vs35 vb36 lv37 d), (blk b4 26 [rl, rs, (Value.int .i64 d.spread), rb]), (sl xl 1 l.length (ints l)), (rndR false rl rs rb rlv d)] := hS188.keep [1, 2, 3, 4, 5, 6] (by decide) _ rfl rfl; clear hS188
  exact then_n ⟨k + 1, ⟨hA203.as _ rfl, hS204, by omega⟩, by omega⟩
 ·skip
  rw [decide_eq_false hb158] at hA157
  refine c_false hA157 rfl ?_
  refine c_exit ?_
  refine then_exit ?_
  refine then_exit ?_
  refine blk_hit ?_
  refine then_n ?_
  refine c_seq ?_
  have hA205 := hA157.as [] rfl; clear hA157
  refine c_region ?_
  refine stw hA205 (op_call rfl en_18 ev0 (wakes_ok _)) rfl rfl (by decide) ?_
  rintro a206 _ w208 ⟨rfl, hE209⟩ hA207; have hS210 := hS149.step hE209; clear hE209 hA205 hS149 a156
  refine st hA207 (op_assign rfl (hA207.ev rfl)) rfl rfl (by decide) fun a211 hA212 => ?_; clear hA207 a206
  refine wl_nil ?_
  refine then_n ?_
  refine c_ret ?_
  refine fin_run hA212 (.inl rfl) (run_results1 hA212 rfl (.tmp rfl)) ?_
  exact ⟨rfl, hS210.ext⟩

theorem RoundSpans_ok (rl rs rb : Value) (rlv : List Value) (d : RD) (w : World) (hR : RoundAt w rl rs rb rlv d) (xl : Value) (l : List Int) (hx : SlAt w xl 1 l.length (ints l)) : Calls Try.prog 4 #[.agg #[rl, rs, .int .i64 d.spread, rb], xl] w (Ret fun v w' => v = .bool true ∧ Ext NoB w w') := by
 rcases Bool.eq_false_or_eq_true (fewB d) with hf | hf
 ·rcases Nat.lt_or_ge 10 l.length with hl | hl
  ·exact RoundSpans_b rl rs rb rlv d w hR xl l hx hf hl
  ·by_cases hc : checkR d = 0
   ·rcases Bool.eq_false_or_eq_true (riseB d.tols.length l) with hr | hr
    ·rcases Bool.eq_false_or_eq_true (explB d (offUpto l l.length)) with he | he
     ·exact RoundSpans_f rl rs rb rlv d w hR xl l hx hf hl hc hr he _ (spansR_yes hc hr he) (spansF_len he) (fun k hk => refSpan_eq (valid_of hc) hr he hk)
     ·exact RoundSpans_e rl rs rb rlv d w hR xl l hx hf hl hc hr he
    ·exact RoundSpans_d rl rs rb rlv d w hR xl l hx hf hl hc hr
   ·exact RoundSpans_c rl rs rb rlv d w hR xl l hx hf hl hc
 ·exact RoundSpans_a rl rs rb rlv d w hR xl l hx hf

end Go.Proofs.Ytfhmigoddaaljaa
