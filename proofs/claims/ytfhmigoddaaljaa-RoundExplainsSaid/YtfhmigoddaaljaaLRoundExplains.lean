/-
  Walks through the functions of the seat, printed by a program of ours (gowalk), a theorem a function: what the call returns and what it leaves in memory.
-/
import Derived.Test.YtfhmigoddaaljaaFf
import Derived.Test.YtfhmigoddaaljaaPlain
set_option linter.unusedSimpArgs false
set_option linter.unusedVariables false
namespace Go.Proofs.Ytfhmigoddaaljaa
open Go.RowKit Go.Shelf Go.Eng
set_option maxHeartbeats 4000000 in
theorem RoundExplains_a (rl rs rb : Value) (rlv : List Value) (d : RD) (w : World) (hR : RoundAt w rl rs rb rlv d) (xl : Value) (l : List Int) (hx : SlAt w xl 1 l.length (ints l)) (hf : fewB d = false) :
  Calls Try.prog 3 #[(Value.agg #[rl, rs, (Value.int .i64 d.spread), rb]), xl] w (Ret fun v w' => v = .bool true ∧ Ext NoB w w') := by
 refine calls_enter Try.func3 rfl fun a0 hA0 => ?_
 replace hA0 : Fr 66 [] [(0, (Value.agg #[rl, rs, (Value.int .i64 d.spread), rb])), (1, xl)] a0 := hA0
 have hS0 : Sep NoB w w [(sl xl 1 l.length (ints l)), (rndR false rl rs rb rlv d)] := sep_ro ⟨rfl, hx, rfl, hR, trivial⟩
 refine c_seq ?_
 refine c_region ?_
 refine stw hA0 (op_box hS0 rfl (hA0.ev rfl) (cs := [rl, rs, (Value.int .i64 d.spread), rb]) rfl) rfl rfl (by decide) ?_
 rintro a1 _ w3 ⟨b4, rfl, hS5⟩ hA2; clear hA0 hS0 a0
 refine st hA2 (op_assign rfl (evc _ _)) rfl rfl (by decide) fun a6 hA7 => ?_; clear hA2 a1
 refine wl_nil ?_
 refine then_n ?_
 refine c_seq ?_
 refine c_seq ?_
 refine c_region ?_
 refine st hA7 (op_loadA rfl ty_26 (hA7.ev rfl) (hS5.bk 0 rfl) (l := [rl, rs, (Value.int .i64 d.spread), rb]) rfl rfl) rfl rfl (by decide) fun a8 hA9 => ?_; clear hA7 a6
 refine stw hA9 (op_call rfl en_17 (ev1 (hA9.ev rfl)) (Few_ok rl rs rb rlv d _ (rnd_at (hS5.ok 2 _ rfl)))) rfl rfl (by decide) ?_
 rintro a10 _ w12 ⟨rfl, hE13⟩ hA11; have hS14 := hS5.step hE13; clear hE13 hA9 hS5 a8
 rw [hf] at hA11
 refine st hA11 (op_not rfl (hA11.ev rfl)) rfl rfl (by decide) fun a15 hA16 => ?_; clear hA11 a10
 refine st hA16 (op_move rfl (hA16.ev rfl)) rfl rfl (by decide) fun a17 hA18 => ?_; clear hA16 a15
 refine skp hA18 rfl rfl rfl rfl rfl (by decide) fun a19 hA20 => ?_; clear hA18 a17
 refine skp hA20 rfl rfl rfl rfl rfl (by decide) fun a21 hA22 => ?_; clear hA20 a19
 refine skp hA22 rfl rfl rfl rfl rfl (by decide) fun a23 hA24 => ?_; clear hA22 a21
 refine st hA24 (op_pick_t rfl (hA24.ev rfl) (evc _ _)) rfl rfl (by decide) fun a25 hA26 => ?_; clear hA24 a23
 refine wl_nil ?_
 refine then_n ?_
 refine c_true hA26 rfl ?_
 refine c_seq ?_
 have hA27 := hA26.as [] rfl; clear hA26
 refine c_region ?_
 refine stw hA27 (op_call rfl en_18 ev0 (wakes_ok _)) rfl rfl (by decide) ?_
 rintro a28 _ w30 ⟨rfl, hE31⟩ hA29; have hS32 := hS14.step hE31; clear hE31 hA27 hS14 a25
 refine st hA29 (op_assign rfl (hA29.ev rfl)) rfl rfl (by decide) fun a33 hA34 => ?_; clear hA29 a28
 refine wl_nil ?_
 refine then_n ?_
 refine c_ret ?_
 refine then_ret ?_
 refine fin_run hA34 (.inl rfl) (run_results1 hA34 rfl (.tmp rfl)) ?_
 exact ⟨rfl, hS32.ext⟩

set_option maxHeartbeats 4000000 in
theorem RoundExplains_b (rl rs rb : Value) (rlv : List Value) (d : RD) (w : World) (hR : RoundAt w rl rs rb rlv d) (xl : Value) (l : List Int) (hx : SlAt w xl 1 l.length (ints l)) (hf : fewB d = true) (hl : 10 < l.length) :
  Calls Try.prog 3 #[(Value.agg #[rl, rs, (Value.int .i64 d.spread), rb]), xl] w (Ret fun v w' => v = .bool true ∧ Ext NoB w w') := by
 refine calls_enter Try.func3 rfl fun a0 hA0 => ?_
 replace hA0 : Fr 66 [] [(0, (Value.agg #[rl, rs, (Value.int .i64 d.spread), rb])), (1, xl)] a0 := hA0
 have hS0 : Sep NoB w w [(sl xl 1 l.length (ints l)), (rndR false rl rs rb rlv d)] := sep_ro ⟨rfl, hx, rfl, hR, trivial⟩
 refine c_seq ?_
 refine c_region ?_
 refine stw hA0 (op_box hS0 rfl (hA0.ev rfl) (cs := [rl, rs, (Value.int .i64 d.spread), rb]) rfl) rfl rfl (by decide) ?_
 rintro a1 _ w3 ⟨b4, rfl, hS5⟩ hA2; clear hA0 hS0 a0
 refine st hA2 (op_assign rfl (evc _ _)) rfl rfl (by decide) fun a6 hA7 => ?_; clear hA2 a1
 refine wl_nil ?_
 refine then_n ?_
 refine c_seq ?_
 refine c_seq ?_
 refine c_region ?_
 refine st hA7 (op_loadA rfl ty_26 (hA7.ev rfl) (hS5.bk 0 rfl) (l := [rl, rs, (Value.int .i64 d.spread), rb]) rfl rfl) rfl rfl (by decide) fun a8 hA9 => ?_; clear hA7 a6
 refine stw hA9 (op_call rfl en_17 (ev1 (hA9.ev rfl)) (Few_ok rl rs rb rlv d _ (rnd_at (hS5.ok 2 _ rfl)))) rfl rfl (by decide) ?_
 rintro a10 _ w12 ⟨rfl, hE13⟩ hA11; have hS14 := hS5.step hE13; clear hE13 hA9 hS5 a8
 rw [hf] at hA11
 refine st hA11 (op_not rfl (hA11.ev rfl)) rfl rfl (by decide) fun a15 hA16 => ?_; clear hA11 a10
 refine st hA16 (op_move rfl (hA16.ev rfl)) rfl rfl (by decide) fun a17 hA18 => ?_; clear hA16 a15
 refine stg hA18 (op_move rfl (hA18.ev rfl)) rfl rfl rfl rfl (by decide) fun a19 hA20 => ?_; clear hA18 a17
 refine stg hA20 (op_lenS rfl un_23 (hA20.ev rfl) (hS14.sk 1 rfl)) rfl rfl rfl rfl (by decide) fun a21 hA22 => ?_; clear hA20 a19
 refine stg hA22 (op_gtr rfl (hA22.ev rfl) (evc _ _)) rfl rfl rfl rfl (by decide) fun a23 hA24 => ?_; clear hA22 a21
 have hd25 : 10 < (l.length : Int) := (by omega)
 rw [decide_eq_true hd25] at hA24
 refine st hA24 (op_pick_f rfl (hA24.ev rfl) (hA24.ev rfl)) rfl rfl (by decide) fun a26 hA27 => ?_; clear hA24 a23
 refine wl_nil ?_
 refine then_n ?_
 refine c_true hA27 rfl ?_
 refine c_seq ?_
 have hA28 := hA27.as [] rfl; clear hA27
 refine c_region ?_
 refine stw hA28 (op_call rfl en_18 ev0 (wakes_ok _)) rfl rfl (by decide) ?_
 rintro a29 _ w31 ⟨rfl, hE32⟩ hA30; have hS33 := hS14.step hE32; clear hE32 hA28 hS14 a26
 refine st hA30 (op_assign rfl (hA30.ev rfl)) rfl rfl (by decide) fun a34 hA35 => ?_; clear hA30 a29
 refine wl_nil ?_
 refine then_n ?_
 refine c_ret ?_
 refine then_ret ?_
 refine fin_run hA35 (.inl rfl) (run_results1 hA35 rfl (.tmp rfl)) ?_
 exact ⟨rfl, hS33.ext⟩

set_option maxHeartbeats 4000000 in
theorem RoundExplains_c (rl rs rb : Value) (rlv : List Value) (d : RD) (w : World) (hR : RoundAt w rl rs rb rlv d) (xl : Value) (l : List Int) (hx : SlAt w xl 1 l.length (ints l)) (hf : fewB d = true) (hl : l.length ≤ 10) (hc : checkR d ≠ 0) :
  Calls Try.prog 3 #[(Value.agg #[rl, rs, (Value.int .i64 d.spread), rb]), xl] w (Ret fun v w' => v = .bool true ∧ Ext NoB w w') := by
 refine calls_enter Try.func3 rfl fun a0 hA0 => ?_
 replace hA0 : Fr 66 [] [(0, (Value.agg #[rl, rs, (Value.int .i64 d.spread), rb])), (1, xl)] a0 := hA0
 have hth := thin_of (fewB_thin hf)
 have hS0 : Sep NoB w w [(sl xl 1 l.length (ints l)), (rndR false rl rs rb rlv d)] := sep_ro ⟨rfl, hx, rfl, hR, trivial⟩
 refine c_seq ?_
 refine c_region ?_
 refine stw hA0 (op_box hS0 rfl (hA0.ev rfl) (cs := [rl, rs, (Value.int .i64 d.spread), rb]) rfl) rfl rfl (by decide) ?_
 rintro a1 _ w3 ⟨b4, rfl, hS5⟩ hA2; clear hA0 hS0 a0
 refine st hA2 (op_assign rfl (evc _ _)) rfl rfl (by decide) fun a6 hA7 => ?_; clear hA2 a1
 refine wl_nil ?_
 refine then_n ?_
 refine c_seq ?_
 refine c_seq ?_
 refine c_region ?_
 refine st hA7 (op_loadA rfl ty_26 (hA7.ev rfl) (hS5.bk 0 rfl) (l := [rl, rs, (Value.int .i64 d.spread), rb]) rfl rfl) rfl rfl (by decide) fun a8 hA9 => ?_; clear hA7 a6
 refine stw hA9 (op_call rfl en_17 (ev1 (hA9.ev rfl)) (Few_ok rl rs rb rlv d _ (rnd_at (hS5.ok 2 _ rfl)))) rfl rfl (by decide) ?_
 rintro a10 _ w12 ⟨rfl, hE13⟩ hA11; have hS14 := hS5.step hE13; clear hE13 hA9 hS5 a8
 rw [hf] at hA11
 refine st hA11 (op_not rfl (hA11.ev rfl)) rfl rfl (by decide) fun a15 hA16 => ?_; clear hA11 a10
 refine st hA16 (op_move rfl (hA16.ev rfl)) rfl rfl (by decide) fun a17 hA18 => ?_; clear hA16 a15
 refine stg hA18 (op_move rfl (hA18.ev rfl)) rfl rfl rfl rfl (by decide) fun a19 hA20 => ?_; clear hA18 a17
 refine stg hA20 (op_lenS rfl un_23 (hA20.ev rfl) (hS14.sk 1 rfl)) rfl rfl rfl rfl (by decide) fun a21 hA22 => ?_; clear hA20 a19
 refine stg hA22 (op_gtr rfl (hA22.ev rfl) (evc _ _)) rfl rfl rfl rfl (by decide) fun a23 hA24 => ?_; clear hA22 a21
 have hd25 : ¬ (10 < (l.length : Int)) := (by omega)
 rw [decide_eq_false hd25] at hA24
 refine st hA24 (op_pick_f rfl (hA24.ev rfl) (hA24.ev rfl)) rfl rfl (by decide) fun a26 hA27 => ?_; clear hA24 a23
 refine wl_nil ?_
 refine then_n ?_
 refine c_false hA27 rfl ?_
 refine c_skip ?_
 refine then_n ?_
 refine c_seq ?_
 have hA28 := hA27.as [(2, (bptr b4 0)), (1, xl)] rfl; clear hA27
 refine c_region ?_
 refine st hA28 (op_loadA rfl ty_26 (hA28.ev rfl) (hS14.bk 0 rfl) (l := [rl, rs, (Value.int .i64 d.spread), rb]) rfl rfl) rfl rfl (by decide) fun a29 hA30 => ?_; clear hA28 a26
 refine stw hA30 (op_call rfl en_20 (ev1 (hA30.ev rfl)) (Round_ok rl rs rb rlv d _ (rnd_at (hS14.ok 2 _ rfl)) hth)) rfl rfl (by decide) ?_
 rintro a31 _ w33 ⟨vl34, vs35, vb36, lv37, rfl, hT38⟩ hA32; have hS39 := hS14.callS hT38 rfl; clear hT38 hA30 hS14 a29
 refine stw hA32 (op_call rfl en_19 (ev1 (hA32.ev rfl)) (check_ok vl34 vs35 vb36 lv37 d _ (rnd_at (hS39.ok 0 _ rfl)))) rfl rfl (by decide) ?_
 rintro a40 _ w42 ⟨rfl, hE43⟩ hA41; have hS44 := hS39.step hE43; clear hE43 hA32 hS39 a31
 refine st hA41 (op_assign rfl (hA41.ev rfl)) rfl rfl (by decide) fun a45 hA46 => ?_; clear hA41 a40
 refine wl_nil ?_
 refine then_n ?_
 refine c_seq ?_
 refine c_region ?_
 refine st hA46 (op_loadA rfl ty_26 (hA46.ev rfl) (hS44.bk 1 rfl) (l := [rl, rs, (Value.int .i64 d.spread), rb]) rfl rfl) rfl rfl (by decide) fun a47 hA48 => ?_; clear hA46 a45
 refine stw hA48 (op_call rfl en_20 (ev1 (hA48.ev rfl)) (Round_ok rl rs rb rlv d _ (rnd_at (hS44.ok 3 _ rfl)) hth)) rfl rfl (by decide) ?_
 rintro a49 _ w51 ⟨vl52, vs53, vb54, lv55, rfl, hT56⟩ hA50; have hS57 := hS44.callS hT56 rfl; clear hT56 hA48 hS44 a47
 refine st hA50 (op_move rfl (hA50.ev rfl)) rfl rfl (by decide) fun a58 hA59 => ?_; clear hA50 a49
 refine stw hA59 (op_call rfl en_22 (ev1 (hA59.ev rfl)) (list_ok l _ _ (hS57.sk 3 rfl) (by omega))) rfl rfl (by decide) ?_
 rintro a60 v66 w62 ⟨hE63, hO64⟩ hA61; have hS65 := hS57.new_row hE63 hO64; clear hE63 hO64 hA59 hS57 a58
 refine stw hA61 (op_call rfl en_21 (ev2 (hA61.ev rfl) (hA61.ev rfl)) (by have h := (explains_ok vl52 vs53 vb54 lv55 d _ (rnd_at (hS65.ok 1 _ rfl)) _ l (SlAt.of_row (hS65.ok_row 0 rfl)) (by omega)); rw [explainsF_bad hc] at h; exact h)) rfl rfl (by decide) ?_
 rintro a67 _ w69 ⟨rfl, hE70⟩ hA68; have hS71 := hS65.step hE70; clear hE70 hA61 hS65 a60
 refine st hA68 (op_move rfl (hA68.ev rfl)) rfl rfl (by decide) fun a72 hA73 => ?_; clear hA68 a67
 refine st hA73 (op_extract rfl (hA73.ev rfl) rfl) rfl rfl (by decide) fun a74 hA75 => ?_; clear hA73 a72
 refine st hA75 (op_extract rfl (hA75.ev rfl) rfl) rfl rfl (by decide) fun a76 hA77 => ?_; clear hA75 a74
 refine st hA77 (op_assign rfl (hA77.ev rfl)) rfl rfl (by decide) fun a78 hA79 => ?_; clear hA77 a76
 refine st hA79 (op_assign rfl (hA79.ev rfl)) rfl rfl (by decide) fun a80 hA81 => ?_; clear hA79 a78
 refine wl_nil ?_
 refine then_n ?_
 refine c_seq ?_
 have hA82 := hA81.as [(7, (Value.int .i64 (checkR d))), (6, (Value.bool false)), (5, (Value.int .i64 (checkR d))), (2, (bptr b4 0)), (1, xl)] rfl; clear hA81
 refine c_region ?_
 refine st hA82 (op_loadA rfl ty_26 (hA82.ev rfl) (hS71.bk 3 rfl) (l := [rl, rs, (Value.int .i64 d.spread), rb]) rfl rfl) rfl rfl (by decide) fun a83 hA84 => ?_; clear hA82 a80
 refine stw hA84 (op_call rfl en_23 (ev1 (hA84.ev rfl)) (fault_ok rl rs rb rlv d _ (rnd_at (hS71.ok 5 _ rfl)))) rfl rfl (by decide) ?_
 rintro a85 _ w87 ⟨rfl, hE88⟩ hA86; have hS89 := hS71.step hE88; clear hE88 hA84 hS71 a83
 refine st hA86 (op_assign rfl (hA86.ev rfl)) rfl rfl (by decide) fun a90 hA91 => ?_; clear hA86 a85
 refine wl_nil ?_
 refine then_n ?_
 refine c_seq ?_
 refine c_seq ?_
 refine c_region ?_
 refine st hA91 (op_move rfl (hA91.ev rfl)) rfl rfl (by decide) fun a92 hA93 => ?_; clear hA91 a90
 refine st hA93 (op_move rfl (hA93.ev rfl)) rfl rfl (by decide) fun a94 hA95 => ?_; clear hA93 a92
 refine st hA95 (op_neq rfl (hA95.ev rfl) (hA95.ev rfl)) rfl rfl (by decide) fun a96 hA97 => ?_; clear hA95 a94
 have hd98 : (checkR d) = (checkR d) := rfl
 rw [decide_eq_true hd98] at hA97
 refine wl_nil ?_
 refine then_n ?_
 refine c_false hA97 rfl ?_
 refine c_skip ?_
 refine then_n ?_
 refine c_seq ?_
 refine c_seq ?_
 have hA99 := hA97.as [(8, (Value.int .i64 (checkR d))), (7, (Value.int .i64 (checkR d))), (6, (Value.bool false)), (2, (bptr b4 0)), (1, xl)] rfl; clear hA97
 refine c_region ?_
 refine st hA99 (op_move rfl (hA99.ev rfl)) rfl rfl (by decide) fun a100 hA101 => ?_; clear hA99 a96
 refine st hA101 (op_eql rfl (hA101.ev rfl) (evc _ _)) rfl rfl (by decide) fun a102 hA103 => ?_; clear hA101 a100
 have hd104 : ¬ ((checkR d) = 0) := hc
 rw [decide_eq_false hd104] at hA103
 refine st hA103 (op_move rfl (hA103.ev rfl)) rfl rfl (by decide) fun a105 hA106 => ?_; clear hA103 a102
 refine skp hA106 rfl rfl rfl rfl rfl (by decide) fun a107 hA108 => ?_; clear hA106 a105
 refine skp hA108 rfl rfl rfl rfl rfl (by decide) fun a109 hA110 => ?_; clear hA108 a107
 refine skp hA110 rfl rfl rfl rfl rfl (by decide) fun a111 hA112 => ?_; clear hA110 a109
 refine skp hA112 rfl rfl rfl rfl rfl (by decide) fun a113 hA114 => ?_; clear hA112 a111
 refine st hA114 (op_pick_f rfl (hA114.ev rfl) (evc _ _)) rfl rfl (by decide) fun a115 hA116 => ?_; clear hA114 a113
 refine wl_nil ?_
 refine then_n ?_
 refine c_false hA116 rfl ?_
 refine c_skip ?_
 refine then_n ?_
 refine c_seq ?_
 refine c_seq ?_
 have hA117 := hA116.as [(8, (Value.int .i64 (checkR d))), (7, (Value.int .i64 (checkR d))), (6, (Value.bool false)), (2, (bptr b4 0)), (1, xl)] rfl; clear hA116
 refine c_region ?_
 refine st hA117 (op_move rfl (hA117.ev rfl)) rfl rfl (by decide) fun a118 hA119 => ?_; clear hA117 a115
 refine st hA119 (op_neq rfl (hA119.ev rfl) (evc _ _)) rfl rfl (by decide) fun a120 hA121 => ?_; clear hA119 a118
 rw [decide_eq_false hd104] at hA121
 refine wl_nil ?_
 refine then_n ?_
 refine c_true hA121 rfl ?_
 refine c_seq ?_
 refine c_region ?_
 refine st hA121 (op_move rfl (hA121.ev rfl)) rfl rfl (by decide) fun a122 hA123 => ?_; clear hA121 a120
 refine st hA123 (op_move rfl (hA123.ev rfl)) rfl rfl (by decide) fun a124 hA125 => ?_; clear hA123 a122
 refine st hA125 (op_eql rfl (hA125.ev rfl) (hA125.ev rfl)) rfl rfl (by decide) fun a126 hA127 => ?_; clear hA125 a124
 rw [decide_eq_true hd98] at hA127
 refine st hA127 (op_move rfl (hA127.ev rfl)) rfl rfl (by decide) fun a128 hA129 => ?_; clear hA127 a126
 refine stg hA129 (op_move rfl (hA129.ev rfl)) rfl rfl rfl rfl (by decide) fun a130 hA131 => ?_; clear hA129 a128
 refine stg hA131 (op_not rfl (hA131.ev rfl)) rfl rfl rfl rfl (by decide) fun a132 hA133 => ?_; clear hA131 a130
 refine st hA133 (op_pick_t rfl (hA133.ev rfl) (hA133.ev rfl)) rfl rfl (by decide) fun a134 hA135 => ?_; clear hA133 a132
 refine st hA135 (op_move rfl (hA135.ev rfl)) rfl rfl (by decide) fun a136 hA137 => ?_; clear hA135 a134
 refine stwg hA137 (op_call rfl en_18 ev0 (wakes_ok _)) rfl rfl rfl rfl (by decide) ?_
 rintro a138 _ w140 ⟨rfl, hE141⟩ hA139; have hS142 := hS89.step hE141; clear hE141 hA137 hS89 a136
 refine st hA139 (op_pick_t rfl (hA139.ev rfl) (hA139.ev rfl)) rfl rfl (by decide) fun a143 hA144 => ?_; clear hA139 a138
 refine st hA144 (op_assign rfl (hA144.ev rfl)) rfl rfl (by decide) fun a145 hA146 => ?_; clear hA144 a143
 refine wl_nil ?_
 refine then_n ?_
 refine c_ret ?_
 refine then_ret ?_
 refine fin_run hA146 (.inl rfl) (run_results1 hA146 rfl (.tmp rfl)) ?_
 exact ⟨rfl, hS142.ext⟩

set_option maxHeartbeats 4000000 in
theorem RoundExplains_d (rl rs rb : Value) (rlv : List Value) (d : RD) (w : World) (hR : RoundAt w rl rs rb rlv d) (xl : Value) (l : List Int) (hx : SlAt w xl 1 l.length (ints l)) (hf : fewB d = true) (hl : l.length ≤ 10) (hc : checkR d = 0) (hr : riseB d.tols.length l = false) :
  Calls Try.prog 3 #[(Value.agg #[rl, rs, (Value.int .i64 d.spread), rb]), xl] w (Ret fun v w' => v = .bool true ∧ Ext NoB w w') := by
 refine calls_enter Try.func3 rfl fun a0 hA0 => ?_
 replace hA0 : Fr 66 [] [(0, (Value.agg #[rl, rs, (Value.int .i64 d.spread), rb])), (1, xl)] a0 := hA0
 have hth := thin_of (fewB_thin hf)
 have hS0 : Sep NoB w w [(sl xl 1 l.length (ints l)), (rndR false rl rs rb rlv d)] := sep_ro ⟨rfl, hx, rfl, hR, trivial⟩
 refine c_seq ?_
 refine c_region ?_
 refine stw hA0 (op_box hS0 rfl (hA0.ev rfl) (cs := [rl, rs, (Value.int .i64 d.spread), rb]) rfl) rfl rfl (by decide) ?_
 rintro a1 _ w3 ⟨b4, rfl, hS5⟩ hA2; clear hA0 hS0 a0
 refine st hA2 (op_assign rfl (evc _ _)) rfl rfl (by decide) fun a6 hA7 => ?_; clear hA2 a1
 refine wl_nil ?_
 refine then_n ?_
 refine c_seq ?_
 refine c_seq ?_
 refine c_region ?_
 refine st hA7 (op_loadA rfl ty_26 (hA7.ev rfl) (hS5.bk 0 rfl) (l := [rl, rs, (Value.int .i64 d.spread), rb]) rfl rfl) rfl rfl (by decide) fun a8 hA9 => ?_; clear hA7 a6
 refine stw hA9 (op_call rfl en_17 (ev1 (hA9.ev rfl)) (Few_ok rl rs rb rlv d _ (rnd_at (hS5.ok 2 _ rfl)))) rfl rfl (by decide) ?_
 rintro a10 _ w12 ⟨rfl, hE13⟩ hA11; have hS14 := hS5.step hE13; clear hE13 hA9 hS5 a8
 rw [hf] at hA11
 refine st hA11 (op_not rfl (hA11.ev rfl)) rfl rfl (by decide) fun a15 hA16 => ?_; clear hA11 a10
 refine st hA16 (op_move rfl (hA16.ev rfl)) rfl rfl (by decide) fun a17 hA18 => ?_; clear hA16 a15
 refine stg hA18 (op_move rfl (hA18.ev rfl)) rfl rfl rfl rfl (by decide) fun a19 hA20 => ?_; clear hA18 a17
 refine stg hA20 (op_lenS rfl un_23 (hA20.ev rfl) (hS14.sk 1 rfl)) rfl rfl rfl rfl (by decide) fun a21 hA22 => ?_; clear hA20 a19
 refine stg hA22 (op_gtr rfl (hA22.ev rfl) (evc _ _)) rfl rfl rfl rfl (by decide) fun a23 hA24 => ?_; clear hA22 a21
 have hd25 : ¬ (10 < (l.length : Int)) := (by omega)
 rw [decide_eq_false hd25] at hA24
 refine st hA24 (op_pick_f rfl (hA24.ev rfl) (hA24.ev rfl)) rfl rfl (by decide) fun a26 hA27 => ?_; clear hA24 a23
 refine wl_nil ?_
 refine then_n ?_
 refine c_false hA27 rfl ?_
 refine c_skip ?_
 refine then_n ?_
 refine c_seq ?_
 have hA28 := hA27.as [(2, (bptr b4 0)), (1, xl)] rfl; clear hA27
 refine c_region ?_
 refine st hA28 (op_loadA rfl ty_26 (hA28.ev rfl) (hS14.bk 0 rfl) (l := [rl, rs, (Value.int .i64 d.spread), rb]) rfl rfl) rfl rfl (by decide) fun a29 hA30 => ?_; clear hA28 a26
 refine stw hA30 (op_call rfl en_20 (ev1 (hA30.ev rfl)) (Round_ok rl rs rb rlv d _ (rnd_at (hS14.ok 2 _ rfl)) hth)) rfl rfl (by decide) ?_
 rintro a31 _ w33 ⟨vl34, vs35, vb36, lv37, rfl, hT38⟩ hA32; have hS39 := hS14.callS hT38 rfl; clear hT38 hA30 hS14 a29
 refine stw hA32 (op_call rfl en_19 (ev1 (hA32.ev rfl)) (check_ok vl34 vs35 vb36 lv37 d _ (rnd_at (hS39.ok 0 _ rfl)))) rfl rfl (by decide) ?_
 rintro a40 _ w42 ⟨rfl, hE43⟩ hA41; have hS44 := hS39.step hE43; clear hE43 hA32 hS39 a31
 refine st hA41 (op_assign rfl (hA41.ev rfl)) rfl rfl (by decide) fun a45 hA46 => ?_; clear hA41 a40
 refine wl_nil ?_
 refine then_n ?_
 refine c_seq ?_
 refine c_region ?_
 refine st hA46 (op_loadA rfl ty_26 (hA46.ev rfl) (hS44.bk 1 rfl) (l := [rl, rs, (Value.int .i64 d.spread), rb]) rfl rfl) rfl rfl (by decide) fun a47 hA48 => ?_; clear hA46 a45
 refine stw hA48 (op_call rfl en_20 (ev1 (hA48.ev rfl)) (Round_ok rl rs rb rlv d _ (rnd_at (hS44.ok 3 _ rfl)) hth)) rfl rfl (by decide) ?_
 rintro a49 _ w51 ⟨vl52, vs53, vb54, lv55, rfl, hT56⟩ hA50; have hS57 := hS44.callS hT56 rfl; clear hT56 hA48 hS44 a47
 refine st hA50 (op_move rfl (hA50.ev rfl)) rfl rfl (by decide) fun a58 hA59 => ?_; clear hA50 a49
 refine stw hA59 (op_call rfl en_22 (ev1 (hA59.ev rfl)) (list_ok l _ _ (hS57.sk 3 rfl) (by omega))) rfl rfl (by decide) ?_
 rintro a60 v66 w62 ⟨hE63, hO64⟩ hA61; have hS65 := hS57.new_row hE63 hO64; clear hE63 hO64 hA59 hS57 a58
 refine stw hA61 (op_call rfl en_21 (ev2 (hA61.ev rfl) (hA61.ev rfl)) (by have h := (explains_ok vl52 vs53 vb54 lv55 d _ (rnd_at (hS65.ok 1 _ rfl)) _ l (SlAt.of_row (hS65.ok_row 0 rfl)) (by omega)); rw [explainsF_no hc hr] at h; exact h)) rfl rfl (by decide) ?_
 rintro a67 _ w69 ⟨rfl, hE70⟩ hA68; have hS71 := hS65.step hE70; clear hE70 hA61 hS65 a60
 refine st hA68 (op_move rfl (hA68.ev rfl)) rfl rfl (by decide) fun a72 hA73 => ?_; clear hA68 a67
 refine st hA73 (op_extract rfl (hA73.ev rfl) rfl) rfl rfl (by decide) fun a74 hA75 => ?_; clear hA73 a72
 refine st hA75 (op_extract rfl (hA75.ev rfl) rfl) rfl rfl (by decide) fun a76 hA77 => ?_; clear hA75 a74
 refine st hA77 (op_assign rfl (hA77.ev rfl)) rfl rfl (by decide) fun a78 hA79 => ?_; clear hA77 a76
 refine st hA79 (op_assign rfl (hA79.ev rfl)) rfl rfl (by decide) fun a80 hA81 => ?_; clear hA79 a78
 refine wl_nil ?_
 refine then_n ?_
 refine c_seq ?_
 have hA82 := hA81.as [(7, (Value.int .i64 2)), (6, (Value.bool false)), (5, (Value.int .i64 (checkR d))), (2, (bptr b4 0)), (1, xl)] rfl; clear hA81
 refine c_region ?_
 refine st hA82 (op_loadA rfl ty_26 (hA82.ev rfl) (hS71.bk 3 rfl) (l := [rl, rs, (Value.int .i64 d.spread), rb]) rfl rfl) rfl rfl (by decide) fun a83 hA84 => ?_; clear hA82 a80
 refine stw hA84 (op_call rfl en_23 (ev1 (hA84.ev rfl)) (fault_ok rl rs rb rlv d _ (rnd_at (hS71.ok 5 _ rfl)))) rfl rfl (by decide) ?_
 rintro a85 _ w87 ⟨rfl, hE88⟩ hA86; have hS89 := hS71.step hE88; clear hE88 hA84 hS71 a83
 refine st hA86 (op_assign rfl (hA86.ev rfl)) rfl rfl (by decide) fun a90 hA91 => ?_; clear hA86 a85
 refine wl_nil ?_
 refine then_n ?_
 refine c_seq ?_
 refine c_seq ?_
 refine c_region ?_
 refine st hA91 (op_move rfl (hA91.ev rfl)) rfl rfl (by decide) fun a92 hA93 => ?_; clear hA91 a90
 refine st hA93 (op_move rfl (hA93.ev rfl)) rfl rfl (by decide) fun a94 hA95 => ?_; clear hA93 a92
 refine st hA95 (op_neq rfl (hA95.ev rfl) (hA95.ev rfl)) rfl rfl (by decide) fun a96 hA97 => ?_; clear hA95 a94
 have hd98 : (checkR d) = (checkR d) := rfl
 rw [decide_eq_true hd98] at hA97
 refine wl_nil ?_
 refine then_n ?_
 refine c_false hA97 rfl ?_
 refine c_skip ?_
 refine then_n ?_
 refine c_seq ?_
 refine c_seq ?_
 have hA99 := hA97.as [(8, (Value.int .i64 (checkR d))), (7, (Value.int .i64 2)), (6, (Value.bool false)), (2, (bptr b4 0)), (1, xl)] rfl; clear hA97
 refine c_region ?_
 refine st hA99 (op_move rfl (hA99.ev rfl)) rfl rfl (by decide) fun a100 hA101 => ?_; clear hA99 a96
 refine st hA101 (op_eql rfl (hA101.ev rfl) (evc _ _)) rfl rfl (by decide) fun a102 hA103 => ?_; clear hA101 a100
 have hd104 : (checkR d) = 0 := hc
 rw [decide_eq_true hd104] at hA103
 refine st hA103 (op_move rfl (hA103.ev rfl)) rfl rfl (by decide) fun a105 hA106 => ?_; clear hA103 a102
 refine stg hA106 (op_loadA rfl ty_26 (hA106.ev rfl) (hS89.bk 3 rfl) (l := [rl, rs, (Value.int .i64 d.spread), rb]) rfl rfl) rfl rfl rfl rfl (by decide) fun a107 hA108 => ?_; clear hA106 a105
 refine stg hA108 (op_move rfl (hA108.ev rfl)) rfl rfl rfl rfl (by decide) fun a109 hA110 => ?_; clear hA108 a107
 refine stwg hA110 (op_call rfl en_24 (ev2 (hA110.ev rfl) (hA110.ev rfl)) (Rising_ok rl rs rb rlv d _ (rnd_at (hS89.ok 5 _ rfl)) _ l (hS89.sk 4 rfl) (by omega) (by omega))) rfl rfl rfl rfl (by decide) ?_
 rintro a111 _ w113 ⟨rfl, hE114⟩ hA112; have hS115 := hS89.step hE114; clear hE114 hA110 hS89 a109
 rw [hr] at hA112
 refine stg hA112 (op_not rfl (hA112.ev rfl)) rfl rfl rfl rfl (by decide) fun a116 hA117 => ?_; clear hA112 a111
 refine st hA117 (op_pick_t rfl (hA117.ev rfl) (hA117.ev rfl)) rfl rfl (by decide) fun a118 hA119 => ?_; clear hA117 a116
 refine wl_nil ?_
 refine then_n ?_
 refine c_true hA119 rfl ?_
 have hA120 := hA119.as [(7, (Value.int .i64 2)), (6, (Value.bool false)), (2, (bptr b4 0)), (1, xl)] rfl; clear hA119
 refine c_region ?_
 refine st hA120 (op_assign rfl (evc _ _)) rfl rfl (by decide) fun a121 hA122 => ?_; clear hA120 a118
 refine wl_nil ?_
 refine then_n ?_
 refine c_seq ?_
 refine c_seq ?_
 refine c_region ?_
 refine st hA122 (op_move rfl (hA122.ev rfl)) rfl rfl (by decide) fun a123 hA124 => ?_; clear hA122 a121
 refine st hA124 (op_neq rfl (hA124.ev rfl) (evc _ _)) rfl rfl (by decide) fun a125 hA126 => ?_; clear hA124 a123
 refine wl_nil ?_
 refine then_n ?_
 refine c_true hA126 rfl ?_
 refine c_seq ?_
 refine c_region ?_
 refine st hA126 (op_move rfl (hA126.ev rfl)) rfl rfl (by decide) fun a127 hA128 => ?_; clear hA126 a125
 refine st hA128 (op_move rfl (hA128.ev rfl)) rfl rfl (by decide) fun a129 hA130 => ?_; clear hA128 a127
 refine st hA130 (op_eql rfl (hA130.ev rfl) (hA130.ev rfl)) rfl rfl (by decide) fun a131 hA132 => ?_; clear hA130 a129
 refine st hA132 (op_move rfl (hA132.ev rfl)) rfl rfl (by decide) fun a133 hA134 => ?_; clear hA132 a131
 refine stg hA134 (op_move rfl (hA134.ev rfl)) rfl rfl rfl rfl (by decide) fun a135 hA136 => ?_; clear hA134 a133
 refine stg hA136 (op_not rfl (hA136.ev rfl)) rfl rfl rfl rfl (by decide) fun a137 hA138 => ?_; clear hA136 a135
 refine st hA138 (op_pick_t rfl (hA138.ev rfl) (hA138.ev rfl)) rfl rfl (by decide) fun a139 hA140 => ?_; clear hA138 a137
 refine st hA140 (op_move rfl (hA140.ev rfl)) rfl rfl (by decide) fun a141 hA142 => ?_; clear hA140 a139
 refine stwg hA142 (op_call rfl en_18 ev0 (wakes_ok _)) rfl rfl rfl rfl (by decide) ?_
 rintro a143 _ w145 ⟨rfl, hE146⟩ hA144; have hS147 := hS115.step hE146; clear hE146 hA142 hS115 a141
 refine st hA144 (op_pick_t rfl (hA144.ev rfl) (hA144.ev rfl)) rfl rfl (by decide) fun a148 hA149 => ?_; clear hA144 a143
 refine st hA149 (op_assign rfl (hA149.ev rfl)) rfl rfl (by decide) fun a150 hA151 => ?_; clear hA149 a148
 refine wl_nil ?_
 refine then_n ?_
 refine c_ret ?_
 refine then_ret ?_
 refine fin_run hA151 (.inl rfl) (run_results1 hA151 rfl (.tmp rfl)) ?_
 exact ⟨rfl, hS147.ext⟩

set_option maxHeartbeats 4000000 in
theorem RoundExplains_e (rl rs rb : Value) (rlv : List Value) (d : RD) (w : World) (hR : RoundAt w rl rs rb rlv d) (xl : Value) (l : List Int) (hx : SlAt w xl 1 l.length (ints l)) (hf : fewB d = true) (hl : l.length ≤ 10) (hc : checkR d = 0) (hr : riseB d.tols.length l = true) :
  Calls Try.prog 3 #[(Value.agg #[rl, rs, (Value.int .i64 d.spread), rb]), xl] w (Ret fun v w' => v = .bool true ∧ Ext NoB w w') := by
 refine calls_enter Try.func3 rfl fun a0 hA0 => ?_
 replace hA0 : Fr 66 [] [(0, (Value.agg #[rl, rs, (Value.int .i64 d.spread), rb])), (1, xl)] a0 := hA0
 have hth := thin_of (fewB_thin hf); have hV := valid_of hc
 have hS0 : Sep NoB w w [(sl xl 1 l.length (ints l)), (rndR false rl rs rb rlv d)] := sep_ro ⟨rfl, hx, rfl, hR, trivial⟩
 refine c_seq ?_
 refine c_region ?_
 refine stw hA0 (op_box hS0 rfl (hA0.ev rfl) (cs := [rl, rs, (Value.int .i64 d.spread), rb]) rfl) rfl rfl (by decide) ?_
 rintro a1 _ w3 ⟨b4, rfl, hS5⟩ hA2; clear hA0 hS0 a0
 refine st hA2 (op_assign rfl (evc _ _)) rfl rfl (by decide) fun a6 hA7 => ?_; clear hA2 a1
 refine wl_nil ?_
 refine then_n ?_
 refine c_seq ?_
 refine c_seq ?_
 refine c_region ?_
 refine st hA7 (op_loadA rfl ty_26 (hA7.ev rfl) (hS5.bk 0 rfl) (l := [rl, rs, (Value.int .i64 d.spread), rb]) rfl rfl) rfl rfl (by decide) fun a8 hA9 => ?_; clear hA7 a6
 refine stw hA9 (op_call rfl en_17 (ev1 (hA9.ev rfl)) (Few_ok rl rs rb rlv d _ (rnd_at (hS5.ok 2 _ rfl)))) rfl rfl (by decide) ?_
 rintro a10 _ w12 ⟨rfl, hE13⟩ hA11; have hS14 := hS5.step hE13; clear hE13 hA9 hS5 a8
 rw [hf] at hA11
 refine st hA11 (op_not rfl (hA11.ev rfl)) rfl rfl (by decide) fun a15 hA16 => ?_; clear hA11 a10
 refine st hA16 (op_move rfl (hA16.ev rfl)) rfl rfl (by decide) fun a17 hA18 => ?_; clear hA16 a15
 refine stg hA18 (op_move rfl (hA18.ev rfl)) rfl rfl rfl rfl (by decide) fun a19 hA20 => ?_; clear hA18 a17
 refine stg hA20 (op_lenS rfl un_23 (hA20.ev rfl) (hS14.sk 1 rfl)) rfl rfl rfl rfl (by decide) fun a21 hA22 => ?_; clear hA20 a19
 refine stg hA22 (op_gtr rfl (hA22.ev rfl) (evc _ _)) rfl rfl rfl rfl (by decide) fun a23 hA24 => ?_; clear hA22 a21
 have hd25 : ¬ (10 < (l.length : Int)) := (by omega)
 rw [decide_eq_false hd25] at hA24
 refine st hA24 (op_pick_f rfl (hA24.ev rfl) (hA24.ev rfl)) rfl rfl (by decide) fun a26 hA27 => ?_; clear hA24 a23
 refine wl_nil ?_
 refine then_n ?_
 refine c_false hA27 rfl ?_
 refine c_skip ?_
 refine then_n ?_
 refine c_seq ?_
 have hA28 := hA27.as [(2, (bptr b4 0)), (1, xl)] rfl; clear hA27
 refine c_region ?_
 refine st hA28 (op_loadA rfl ty_26 (hA28.ev rfl) (hS14.bk 0 rfl) (l := [rl, rs, (Value.int .i64 d.spread), rb]) rfl rfl) rfl rfl (by decide) fun a29 hA30 => ?_; clear hA28 a26
 refine stw hA30 (op_call rfl en_20 (ev1 (hA30.ev rfl)) (Round_ok rl rs rb rlv d _ (rnd_at (hS14.ok 2 _ rfl)) hth)) rfl rfl (by decide) ?_
 rintro a31 _ w33 ⟨vl34, vs35, vb36, lv37, rfl, hT38⟩ hA32; have hS39 := hS14.callS hT38 rfl; clear hT38 hA30 hS14 a29
 refine stw hA32 (op_call rfl en_19 (ev1 (hA32.ev rfl)) (check_ok vl34 vs35 vb36 lv37 d _ (rnd_at (hS39.ok 0 _ rfl)))) rfl rfl (by decide) ?_
 rintro a40 _ w42 ⟨rfl, hE43⟩ hA41; have hS44 := hS39.step hE43; clear hE43 hA32 hS39 a31
 refine st hA41 (op_assign rfl (hA41.ev rfl)) rfl rfl (by decide) fun a45 hA46 => ?_; clear hA41 a40
 refine wl_nil ?_
 refine then_n ?_
 refine c_seq ?_
 refine c_region ?_
 refine st hA46 (op_loadA rfl ty_26 (hA46.ev rfl) (hS44.bk 1 rfl) (l := [rl, rs, (Value.int .i64 d.spread), rb]) rfl rfl) rfl rfl (by decide) fun a47 hA48 => ?_; clear hA46 a45
 refine stw hA48 (op_call rfl en_20 (ev1 (hA48.ev rfl)) (Round_ok rl rs rb rlv d _ (rnd_at (hS44.ok 3 _ rfl)) hth)) rfl rfl (by decide) ?_
 rintro a49 _ w51 ⟨vl52, vs53, vb54, lv55, rfl, hT56⟩ hA50; have hS57 := hS44.callS hT56 rfl; clear hT56 hA48 hS44 a47
 refine st hA50 (op_move rfl (hA50.ev rfl)) rfl rfl (by decide) fun a58 hA59 => ?_; clear hA50 a49
 refine stw hA59 (op_call rfl en_22 (ev1 (hA59.ev rfl)) (list_ok l _ _ (hS57.sk 3 rfl) (by omega))) rfl rfl (by decide) ?_
 rintro a60 v66 w62 ⟨hE63, hO64⟩ hA61; have hS65 := hS57.new_row hE63 hO64; clear hE63 hO64 hA59 hS57 a58
 refine stw hA61 (op_call rfl en_21 (ev2 (hA61.ev rfl) (hA61.ev rfl)) (by have h := (explains_ok vl52 vs53 vb54 lv55 d _ (rnd_at (hS65.ok 1 _ rfl)) _ l (SlAt.of_row (hS65.ok_row 0 rfl)) (by omega)); rw [explainsF_yes hc hr] at h; exact h)) rfl rfl (by decide) ?_
 rintro a67 _ w69 ⟨rfl, hE70⟩ hA68; have hS71 := hS65.step hE70; clear hE70 hA61 hS65 a60
 refine st hA68 (op_move rfl (hA68.ev rfl)) rfl rfl (by decide) fun a72 hA73 => ?_; clear hA68 a67
 refine st hA73 (op_extract rfl (hA73.ev rfl) rfl) rfl rfl (by decide) fun a74 hA75 => ?_; clear hA73 a72
 refine st hA75 (op_extract rfl (hA75.ev rfl) rfl) rfl rfl (by decide) fun a76 hA77 => ?_; clear hA75 a74
 refine st hA77 (op_assign rfl (hA77.ev rfl)) rfl rfl (by decide) fun a78 hA79 => ?_; clear hA77 a76
 refine st hA79 (op_assign rfl (hA79.ev rfl)) rfl rfl (by decide) fun a80 hA81 => ?_; clear hA79 a78
 refine wl_nil ?_
 refine then_n ?_
 refine c_seq ?_
 have hA82 := hA81.as [(7, (Value.int .i64 0)), (6, (Value.bool (explB d (offUpto l l.length)))), (5, (Value.int .i64 (checkR d))), (2, (bptr b4 0)), (1, xl)] rfl; clear hA81
 refine c_region ?_
 refine st hA82 (op_loadA rfl ty_26 (hA82.ev rfl) (hS71.bk 3 rfl) (l := [rl, rs, (Value.int .i64 d.spread), rb]) rfl rfl) rfl rfl (by decide) fun a83 hA84 => ?_; clear hA82 a80
 refine stw hA84 (op_call rfl en_23 (ev1 (hA84.ev rfl)) (fault_ok rl rs rb rlv d _ (rnd_at (hS71.ok 5 _ rfl)))) rfl rfl (by decide) ?_
 rintro a85 _ w87 ⟨rfl, hE88⟩ hA86; have hS89 := hS71.step hE88; clear hE88 hA84 hS71 a83
 refine st hA86 (op_assign rfl (hA86.ev rfl)) rfl rfl (by decide) fun a90 hA91 => ?_; clear hA86 a85
 refine wl_nil ?_
 refine then_n ?_
 refine c_seq ?_
 refine c_seq ?_
 refine c_region ?_
 refine st hA91 (op_move rfl (hA91.ev rfl)) rfl rfl (by decide) fun a92 hA93 => ?_; clear hA91 a90
 refine st hA93 (op_move rfl (hA93.ev rfl)) rfl rfl (by decide) fun a94 hA95 => ?_; clear hA93 a92
 refine st hA95 (op_neq rfl (hA95.ev rfl) (hA95.ev rfl)) rfl rfl (by decide) fun a96 hA97 => ?_; clear hA95 a94
 have hd98 : (checkR d) = (checkR d) := rfl
 rw [decide_eq_true hd98] at hA97
 refine wl_nil ?_
 refine then_n ?_
 refine c_false hA97 rfl ?_
 refine c_skip ?_
 refine then_n ?_
 refine c_seq ?_
 refine c_seq ?_
 have hA99 := hA97.as [(8, (Value.int .i64 (checkR d))), (7, (Value.int .i64 0)), (6, (Value.bool (explB d (offUpto l l.length)))), (2, (bptr b4 0)), (1, xl)] rfl; clear hA97
 refine c_region ?_
 refine st hA99 (op_move rfl (hA99.ev rfl)) rfl rfl (by decide) fun a100 hA101 => ?_; clear hA99 a96
 refine st hA101 (op_eql rfl (hA101.ev rfl) (evc _ _)) rfl rfl (by decide) fun a102 hA103 => ?_; clear hA101 a100
 have hd104 : (checkR d) = 0 := hc
 rw [decide_eq_true hd104] at hA103
 refine st hA103 (op_move rfl (hA103.ev rfl)) rfl rfl (by decide) fun a105 hA106 => ?_; clear hA103 a102
 refine stg hA106 (op_loadA rfl ty_26 (hA106.ev rfl) (hS89.bk 3 rfl) (l := [rl, rs, (Value.int .i64 d.spread), rb]) rfl rfl) rfl rfl rfl rfl (by decide) fun a107 hA108 => ?_; clear hA106 a105
 refine stg hA108 (op_move rfl (hA108.ev rfl)) rfl rfl rfl rfl (by decide) fun a109 hA110 => ?_; clear hA108 a107
 refine stwg hA110 (op_call rfl en_24 (ev2 (hA110.ev rfl) (hA110.ev rfl)) (Rising_ok rl rs rb rlv d _ (rnd_at (hS89.ok 5 _ rfl)) _ l (hS89.sk 4 rfl) (by omega) (by omega))) rfl rfl rfl rfl (by decide) ?_
 rintro a111 _ w113 ⟨rfl, hE114⟩ hA112; have hS115 := hS89.step hE114; clear hE114 hA110 hS89 a109
 rw [hr] at hA112
 refine stg hA112 (op_not rfl (hA112.ev rfl)) rfl rfl rfl rfl (by decide) fun a116 hA117 => ?_; clear hA112 a111
 refine st hA117 (op_pick_t rfl (hA117.ev rfl) (hA117.ev rfl)) rfl rfl (by decide) fun a118 hA119 => ?_; clear hA117 a116
 refine wl_nil ?_
 refine then_n ?_
 refine c_false hA119 rfl ?_
 refine c_skip ?_
 refine then_n ?_
 refine c_seq ?_
 refine c_seq ?_
 have hA120 := hA119.as [(8, (Value.int .i64 (checkR d))), (7, (Value.int .i64 0)), (6, (Value.bool (explB d (offUpto l l.length)))), (2, (bptr b4 0)), (1, xl)] rfl; clear hA119
 refine c_region ?_
 refine st hA120 (op_move rfl (hA120.ev rfl)) rfl rfl (by decide) fun a121 hA122 => ?_; clear hA120 a118
 refine st hA122 (op_neq rfl (hA122.ev rfl) (evc _ _)) rfl rfl (by decide) fun a123 hA124 => ?_; clear hA122 a121
 rw [decide_eq_true hd104] at hA124
 refine wl_nil ?_
 refine then_n ?_
 refine c_false hA124 rfl ?_
 refine c_skip ?_
 refine then_n ?_
 refine c_seq ?_
 refine c_region ?_
 refine st hA124 (op_move rfl (hA124.ev rfl)) rfl rfl (by decide) fun a125 hA126 => ?_; clear hA124 a123
 refine st hA126 (op_eql rfl (hA126.ev rfl) (evc _ _)) rfl rfl (by decide) fun a127 hA128 => ?_; clear hA126 a125
 refine st hA128 (op_move rfl (hA128.ev rfl)) rfl rfl (by decide) fun a129 hA130 => ?_; clear hA128 a127
 refine stg hA130 (op_move rfl (hA130.ev rfl)) rfl rfl rfl rfl (by decide) fun a131 hA132 => ?_; clear hA130 a129
 refine stg hA132 (op_loadA rfl ty_26 (hA132.ev rfl) (hS115.bk 3 rfl) (l := [rl, rs, (Value.int .i64 d.spread), rb]) rfl rfl) rfl rfl rfl rfl (by decide) fun a133 hA134 => ?_; clear hA132 a131
 refine stg hA134 (op_move rfl (hA134.ev rfl)) rfl rfl rfl rfl (by decide) fun a135 hA136 => ?_; clear hA134 a133
 refine stwg hA136 (op_call rfl en_25 (ev2 (hA136.ev rfl) (hA136.ev rfl)) (by have h := (RefExplains_ok rl rs rb rlv d _ (rnd_at (hS115.ok 5 _ rfl)) _ l (hS115.sk 4 rfl) (by omega) hV); rw [refOk_rise hV hr] at h; exact h)) rfl rfl rfl rfl (by decide) ?_
 rintro a137 _ w139 ⟨rfl, hE140⟩ hA138; have hS141 := hS115.step hE140; clear hE140 hA136 hS115 a135
 refine stg hA138 (op_eqlB un_4 rfl (hA138.ev rfl) (hA138.ev rfl)) rfl rfl rfl rfl (by decide) fun a142 hA143 => ?_; clear hA138 a137
 refine st hA143 (op_pick_t rfl (hA143.ev rfl) (hA143.ev rfl)) rfl rfl (by decide) fun a144 hA145 => ?_; clear hA143 a142
 refine st hA145 (op_move rfl (hA145.ev rfl)) rfl rfl (by decide) fun a146 hA147 => ?_; clear hA145 a144
 rcases Bool.eq_false_or_eq_true ((explB d (offUpto l l.length))) with hb148 | hb148
 ·skip
  rw [hb148] at hA147
  refine stwg hA147 (op_call rfl en_18 ev0 (wakes_ok _)) rfl rfl rfl rfl (by decide) ?_
  rintro a149 _ w151 ⟨rfl, hE152⟩ hA150; have hS153 := hS141.step hE152; clear hE152 hA147 hS141 a146
  refine st hA150 (op_pick_t rfl (hA150.ev rfl) (hA150.ev rfl)) rfl rfl (by decide) fun a154 hA155 => ?_; clear hA150 a149
  refine st hA155 (op_assign rfl (hA155.ev rfl)) rfl rfl (by decide) fun a156 hA157 => ?_; clear hA155 a154
  refine wl_nil ?_
  refine then_n ?_
  refine c_ret ?_
  refine fin_run hA157 (.inl rfl) (run_results1 hA157 rfl (.tmp rfl)) ?_
  exact ⟨rfl, hS153.ext⟩
 ·skip
  rw [hb148] at hA147
  refine stwg hA147 (op_call rfl en_18 ev0 (wakes_ok _)) rfl rfl rfl rfl (by decide) ?_
  rintro a158 _ w160 ⟨rfl, hE161⟩ hA159; have hS162 := hS141.step hE161; clear hE161 hA147 hS141 a146
  refine st hA159 (op_pick_t rfl (hA159.ev rfl) (hA159.ev rfl)) rfl rfl (by decide) fun a163 hA164 => ?_; clear hA159 a158
  refine st hA164 (op_assign rfl (hA164.ev rfl)) rfl rfl (by decide) fun a165 hA166 => ?_; clear hA164 a163
  refine wl_nil ?_
  refine then_n ?_
  refine c_ret ?_
  refine fin_run hA166 (.inl rfl) (run_results1 hA166 rfl (.tmp rfl)) ?_
  exact ⟨rfl, hS162.ext⟩

theorem RoundExplains_ok (rl rs rb : Value) (rlv : List Value) (d : RD) (w : World) (hR : RoundAt w rl rs rb rlv d) (xl : Value) (l : List Int) (hx : SlAt w xl 1 l.length (ints l)) : Calls Try.prog 3 #[.agg #[rl, rs, .int .i64 d.spread, rb], xl] w (Ret fun v w' => v = .bool true ∧ Ext NoB w w') := by
 rcases Bool.eq_false_or_eq_true (fewB d) with hf | hf
 ·rcases Nat.lt_or_ge 10 l.length with hl | hl
  ·exact RoundExplains_b rl rs rb rlv d w hR xl l hx hf hl
  ·by_cases hc : checkR d = 0
   ·rcases Bool.eq_false_or_eq_true (riseB d.tols.length l) with hr | hr
    ·exact RoundExplains_e rl rs rb rlv d w hR xl l hx hf hl hc hr
    ·exact RoundExplains_d rl rs rb rlv d w hR xl l hx hf hl hc hr
   ·exact RoundExplains_c rl rs rb rlv d w hR xl l hx hf hl hc
 ·exact RoundExplains_a rl rs rb rlv d w hR xl l hx hf

end Go.Proofs.Ytfhmigoddaaljaa
