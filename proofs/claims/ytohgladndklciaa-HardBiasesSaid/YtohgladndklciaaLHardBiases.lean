/-
  Walks through the functions of the seat, printed by a program of ours (gowalk), a theorem a function: what the call returns and what it leaves in memory.
-/
import Derived.Test.YtohgladndklciaaBf
set_option linter.unusedSimpArgs false
set_option linter.unusedVariables false
namespace Go.Proofs.Ytohgladndklciaa
open Go.RowKit Go.Shelf Go.Eng Go.Hard
set_option maxHeartbeats 4000000 in
theorem HardBiases_a (b : BookD) (vt vm : Value) (lr lb lk : Nat → Value) (w : World) (hT : TabsAt w vt lr lb b.tabs) (hM : MacsAt w vm lk b.macs) (i : Int) (hf : thinF b 0 = false) :
  Calls Try.prog 10 #[(Value.agg #[(Value.int .i64 b.scales), vt, vm]), (Value.int .i64 i)] w (Ret fun v w' => v = .bool true ∧ Ext NoB w w') := by
 refine calls_enter Try.func10 rfl fun a0 hA0 => ?_
 replace hA0 : Fr 128 [] [(0, (Value.agg #[(Value.int .i64 b.scales), vt, vm])), (1, (Value.int .i64 i))] a0 := hA0
 have hS0 : Sep NoB w w [(tabsR false vt lr lb b.tabs), (macsR false vm lk b.macs)] := sep_ro ⟨rfl, hT, rfl, hM, trivial⟩
 refine c_seq ?_
 refine c_region ?_
 refine stw hA0 (op_box hS0 rfl (hA0.ev rfl) (cs := [(Value.int .i64 b.scales), vt, vm]) rfl) rfl rfl (by decide) ?_
 rintro a1 _ w3 ⟨b4, rfl, hS5⟩ hA2; clear hA0 hS0 a0
 refine st hA2 (op_assign rfl (evc _ _)) rfl rfl (by decide) fun a6 hA7 => ?_; clear hA2 a1
 refine wl_nil ?_
 refine then_n ?_
 refine c_seq ?_
 refine c_seq ?_
 refine c_region ?_
 refine st hA7 (op_loadA rfl ty_25 (hA7.ev rfl) (hS5.bk 0 rfl) (l := [(Value.int .i64 b.scales), vt, vm]) rfl rfl) rfl rfl (by decide) fun a8 hA9 => ?_; clear hA7 a6
 refine stw hA9 (op_call rfl en_16 (ev2 (hA9.ev rfl) (evc _ _)) (thin0_ok b vt vm lr lb lk _ (tabs_at (hS5.ok 1 _ rfl)) (macs_at (hS5.ok 2 _ rfl)))) rfl rfl (by decide) ?_
 rintro a10 _ w12 ⟨rfl, hE13⟩ hA11; have hS14 := hS5.step hE13; clear hE13 hA9 hS5 a8
 have hd15 : (thinF b 0) = false := hf
 rw [hd15] at hA11
 refine st hA11 (op_not rfl (hA11.ev rfl)) rfl rfl (by decide) fun a16 hA17 => ?_; clear hA11 a10
 refine wl_nil ?_
 refine then_n ?_
 refine c_true hA17 rfl ?_
 refine c_seq ?_
 have hA18 := hA17.as [] rfl; clear hA17
 refine c_region ?_
 refine stw hA18 (op_call rfl en_17 ev0 (awake_ok _)) rfl rfl (by decide) ?_
 rintro a19 _ w21 ⟨rfl, hE22⟩ hA20; have hS23 := hS14.step hE22; clear hE22 hA18 hS14 a16
 refine st hA20 (op_assign rfl (hA20.ev rfl)) rfl rfl (by decide) fun a24 hA25 => ?_; clear hA20 a19
 refine wl_nil ?_
 refine then_n ?_
 refine c_ret ?_
 refine then_ret ?_
 refine fin_run hA25 (.inl rfl) (run_results1 hA25 rfl (.tmp rfl)) ?_
 exact ⟨rfl, hS23.ext⟩
set_option maxHeartbeats 4000000 in
theorem HardBiases_b (b : BookD) (vt vm : Value) (lr lb lk : Nat → Value) (w : World) (hT : TabsAt w vt lr lb b.tabs) (hM : MacsAt w vm lk b.macs) (i : Int) (hf : thinF b 0 = true) (hc : checkF b ≠ 0) :
  Calls Try.prog 10 #[(Value.agg #[(Value.int .i64 b.scales), vt, vm]), (Value.int .i64 i)] w (Ret fun v w' => v = .bool true ∧ Ext NoB w w') := by
 refine calls_enter Try.func10 rfl fun a0 hA0 => ?_
 replace hA0 : Fr 128 [] [(0, (Value.agg #[(Value.int .i64 b.scales), vt, vm])), (1, (Value.int .i64 i))] a0 := hA0
 have hth := (thin_iff.1 hf).1; have htl9 := hth.tl; have hml9 := hth.ml; have he := biasE_c (i := i) hc; have hR : biasR b i = (0, 0) := biasR_n (by rw [he]; exact hc)
 have hS0 : Sep NoB w w [(tabsR false vt lr lb b.tabs), (macsR false vm lk b.macs)] := sep_ro ⟨rfl, hT, rfl, hM, trivial⟩
 refine c_seq ?_
 refine c_region ?_
 refine stw hA0 (op_box hS0 rfl (hA0.ev rfl) (cs := [(Value.int .i64 b.scales), vt, vm]) rfl) rfl rfl (by decide) ?_
 rintro a1 _ w3 ⟨b4, rfl, hS5⟩ hA2; clear hA0 hS0 a0
 refine st hA2 (op_assign rfl (evc _ _)) rfl rfl (by decide) fun a6 hA7 => ?_; clear hA2 a1
 refine wl_nil ?_
 refine then_n ?_
 refine c_seq ?_
 refine c_seq ?_
 refine c_region ?_
 refine st hA7 (op_loadA rfl ty_25 (hA7.ev rfl) (hS5.bk 0 rfl) (l := [(Value.int .i64 b.scales), vt, vm]) rfl rfl) rfl rfl (by decide) fun a8 hA9 => ?_; clear hA7 a6
 refine stw hA9 (op_call rfl en_16 (ev2 (hA9.ev rfl) (evc _ _)) (thin0_ok b vt vm lr lb lk _ (tabs_at (hS5.ok 1 _ rfl)) (macs_at (hS5.ok 2 _ rfl)))) rfl rfl (by decide) ?_
 rintro a10 _ w12 ⟨rfl, hE13⟩ hA11; have hS14 := hS5.step hE13; clear hE13 hA9 hS5 a8
 have hd15 : (thinF b 0) = true := hf
 rw [hd15] at hA11
 refine st hA11 (op_not rfl (hA11.ev rfl)) rfl rfl (by decide) fun a16 hA17 => ?_; clear hA11 a10
 refine wl_nil ?_
 refine then_n ?_
 refine c_false hA17 rfl ?_
 refine c_skip ?_
 refine then_n ?_
 refine c_seq ?_
 refine c_region ?_
 refine st hA17 (op_loadA rfl ty_25 (hA17.ev rfl) (hS14.bk 0 rfl) (l := [(Value.int .i64 b.scales), vt, vm]) rfl rfl) rfl rfl (by decide) fun a18 hA19 => ?_; clear hA17 a16
 refine stw hA19 (op_call rfl en_19 (ev1 (hA19.ev rfl)) (Book_ok b vt vm lr lb lk _ (tabs_at (hS14.ok 1 _ rfl)) (macs_at (hS14.ok 2 _ rfl)) hth)) rfl rfl (by decide) ?_
 rintro a20 _ w22 ⟨vt23, vm24, lr25, lb26, lk27, rfl, hT28⟩ hA21; have hS29 := hS14.callS hT28 rfl; clear hT28 hA19 hS14 a18
 refine stw hA21 (op_call rfl en_32 (ev1 (hA21.ev rfl)) (check_book b vt23 vm24 lr25 lb26 lk27 _ (tabs_at (hS29.ok 0 _ rfl)) (macs_at (hS29.ok 1 _ rfl)) hth)) rfl rfl (by decide) ?_
 rintro a30 _ w32 ⟨rfl, hE33⟩ hA31; have hS34 := hS29.step hE33; clear hE33 hA21 hS29 a20
 refine st hA31 (op_assign rfl (hA31.ev rfl)) rfl rfl (by decide) fun a35 hA36 => ?_; clear hA31 a30
 refine wl_nil ?_
 refine then_n ?_
 refine c_seq ?_
 have hA37 := hA36.as [(5, (Value.int .i64 (checkF b))), (2, (bptr b4 0)), (1, (Value.int .i64 i))] rfl; clear hA36
 refine c_region ?_
 refine st hA37 (op_loadA rfl ty_25 (hA37.ev rfl) (hS34.bk 2 rfl) (l := [(Value.int .i64 b.scales), vt, vm]) rfl rfl) rfl rfl (by decide) fun a38 hA39 => ?_; clear hA37 a35
 refine stw hA39 (op_call rfl en_19 (ev1 (hA39.ev rfl)) (Book_ok b vt vm lr lb lk _ (tabs_at (hS34.ok 3 _ rfl)) (macs_at (hS34.ok 4 _ rfl)) hth)) rfl rfl (by decide) ?_
 rintro a40 _ w42 ⟨vt43, vm44, lr45, lb46, lk47, rfl, hT48⟩ hA41; have hS49 := hS34.callS hT48 rfl; clear hT48 hA39 hS34 a38
 refine st hA41 (op_move rfl (hA41.ev rfl)) rfl rfl (by decide) fun a50 hA51 => ?_; clear hA41 a40
 refine stw hA51 (op_call rfl en_33 (ev2 (hA51.ev rfl) (hA51.ev rfl)) (Bias_ok b vt43 vm44 lr45 lb46 lk47 _ (tabs_at (hS49.ok 0 _ rfl)) (macs_at (hS49.ok 1 _ rfl)) hth i)) rfl rfl (by decide) ?_
 rintro a52 _ w54 ⟨rfl, hE55⟩ hA53; have hS56 := hS49.step hE55; clear hE55 hA51 hS49 a50
 refine st hA53 (op_move rfl (hA53.ev rfl)) rfl rfl (by decide) fun a57 hA58 => ?_; clear hA53 a52
 refine st hA58 (op_extract rfl (hA58.ev rfl) rfl) rfl rfl (by decide) fun a59 hA60 => ?_; clear hA58 a57
 refine st hA60 (op_extract rfl (hA60.ev rfl) rfl) rfl rfl (by decide) fun a61 hA62 => ?_; clear hA60 a59
 refine stw hA62 (op_alloc hS56 rfl ze_30 (cs := [(Value.int .i64 0), (Value.int .i64 0)]) rfl) rfl rfl (by decide) ?_
 rintro a63 _ w65 ⟨b66, rfl, hS67⟩ hA64; clear hA62 hS56 a61
 refine sts hA64 (op_store hS67 rfl ty_30 (hA64.ev rfl) (hA64.ev rfl) (i := 0) rfl (vs := [(Value.int .i64 ((biasR b i).1)), (Value.int .i64 ((biasR b i).2))]) rfl rfl rfl (Nat.le_of_ble_eq_true rfl)) rfl rfl ?_
 intro _ w68 hS69 hA70; clear hA64
 have hS71 : Sep NoB w w68 [(blk b66 30 [(Value.int .i64 ((biasR b i).1)), (Value.int .i64 ((biasR b i).2))]), (tabsR true vt43 lr45 lb46 b.tabs), (macsR true vm44 lk47 b.macs), (tabsR true vt23 lr25 lb26 b.tabs), (macsR true vm24 lk27 b.macs), (blk b4 25 [(Value.int .i64 b.scales), vt, vm]), (tabsR false vt lr lb b.tabs), (macsR false vm lk b.macs)] := hS69; clear hS69 hS67
 refine st hA70 (op_assign rfl (hA70.ev rfl)) rfl rfl (by decide) fun a72 hA73 => ?_; clear hA70 a63
 refine wl_nil ?_
 refine then_n ?_
 refine c_seq ?_
 have hA74 := hA73.as [(7, (Value.int .i64 (biasE b i))), (6, (bptr b66 0)), (5, (Value.int .i64 (checkF b))), (2, (bptr b4 0)), (1, (Value.int .i64 i))] rfl; clear hA73
 refine c_region ?_
 refine st hA74 (op_loadA rfl ty_25 (hA74.ev rfl) (hS71.bk 5 rfl) (l := [(Value.int .i64 b.scales), vt, vm]) rfl rfl) rfl rfl (by decide) fun a75 hA76 => ?_; clear hA74 a72
 refine stw hA76 (op_call rfl en_19 (ev1 (hA76.ev rfl)) (Book_ok b vt vm lr lb lk _ (tabs_at (hS71.ok 6 _ rfl)) (macs_at (hS71.ok 7 _ rfl)) hth)) rfl rfl (by decide) ?_
 rintro a77 _ w79 ⟨vt80, vm81, lr82, lb83, lk84, rfl, hT85⟩ hA78; have hS86 := hS71.callS hT85 rfl; clear hT85 hA76 hS71 a75
 refine stw hA78 (op_call rfl en_34 (ev1 (hA78.ev rfl)) (Off_bad b vt80 vm81 lr82 lb83 lk84 _ (tabs_at (hS86.ok 0 _ rfl)) (macs_at (hS86.ok 1 _ rfl)) hth hc)) rfl rfl (by decide) ?_
 rintro a87 _ w89 ⟨rfl, hE90⟩ hA88; have hS91 := hS86.step hE90; clear hE90 hA78 hS86 a77
 refine st hA88 (op_move rfl (hA88.ev rfl)) rfl rfl (by decide) fun a92 hA93 => ?_; clear hA88 a87
 refine st hA93 (op_extract rfl (hA93.ev rfl) rfl) rfl rfl (by decide) fun a94 hA95 => ?_; clear hA93 a92
 refine st hA95 (op_extract rfl (hA95.ev rfl) rfl) rfl rfl (by decide) fun a96 hA97 => ?_; clear hA95 a94
 refine st hA97 (op_assign rfl (hA97.ev rfl)) rfl rfl (by decide) fun a98 hA99 => ?_; clear hA97 a96
 refine st hA99 (op_assign rfl (hA99.ev rfl)) rfl rfl (by decide) fun a100 hA101 => ?_; clear hA99 a98
 refine wl_nil ?_
 refine then_n ?_
 refine c_seq ?_
 have hA102 := hA101.as [(9, (Value.int .i64 (checkF b))), (8, (Value.slice none 0 0)), (7, (Value.int .i64 (biasE b i))), (6, (bptr b66 0)), (5, (Value.int .i64 (checkF b))), (2, (bptr b4 0)), (1, (Value.int .i64 i))] rfl; clear hA101
 refine c_region ?_
 refine st hA102 (op_loadA rfl ty_25 (hA102.ev rfl) (hS91.bk 7 rfl) (l := [(Value.int .i64 b.scales), vt, vm]) rfl rfl) rfl rfl (by decide) fun a103 hA104 => ?_; clear hA102 a100
 refine stw hA104 (op_call rfl en_21 (ev1 (hA104.ev rfl)) (rfault_ok b vt vm lr lb lk _ (tabs_at (hS91.ok 8 _ rfl)) (macs_at (hS91.ok 9 _ rfl)) hth)) rfl rfl (by decide) ?_
 rintro a105 _ w107 ⟨rfl, hE108⟩ hA106; have hS109 := hS91.step hE108; clear hE108 hA104 hS91 a103
 refine st hA106 (op_assign rfl (hA106.ev rfl)) rfl rfl (by decide) fun a110 hA111 => ?_; clear hA106 a105
 refine wl_nil ?_
 refine then_n ?_
 refine c_seq ?_
 refine c_seq ?_
 refine c_region ?_
 refine st hA111 (op_move rfl (hA111.ev rfl)) rfl rfl (by decide) fun a112 hA113 => ?_; clear hA111 a110
 refine st hA113 (op_move rfl (hA113.ev rfl)) rfl rfl (by decide) fun a114 hA115 => ?_; clear hA113 a112
 refine st hA115 (op_neq rfl (hA115.ev rfl) (hA115.ev rfl)) rfl rfl (by decide) fun a116 hA117 => ?_; clear hA115 a114
 have hd118 : (checkF b) = (checkF b) := rfl
 rw [decide_eq_true hd118] at hA117
 refine wl_nil ?_
 refine then_n ?_
 refine c_false hA117 rfl ?_
 refine c_skip ?_
 refine then_n ?_
 refine c_seq ?_
 refine c_seq ?_
 have hA119 := hA117.as [(10, (Value.int .i64 (checkF b))), (9, (Value.int .i64 (checkF b))), (8, (Value.slice none 0 0)), (7, (Value.int .i64 (biasE b i))), (6, (bptr b66 0)), (2, (bptr b4 0)), (1, (Value.int .i64 i))] rfl; clear hA117
 refine c_region ?_
 refine st hA119 (op_move rfl (hA119.ev rfl)) rfl rfl (by decide) fun a120 hA121 => ?_; clear hA119 a116
 refine st hA121 (op_neq rfl (hA121.ev rfl) (evc _ _)) rfl rfl (by decide) fun a122 hA123 => ?_; clear hA121 a120
 have hd124 : ¬ ((checkF b) = 0) := hc
 rw [decide_eq_false hd124] at hA123
 refine wl_nil ?_
 refine then_n ?_
 refine c_true hA123 rfl ?_
 refine c_seq ?_
 refine c_region ?_
 refine st hA123 (op_move rfl (hA123.ev rfl)) rfl rfl (by decide) fun a125 hA126 => ?_; clear hA123 a122
 refine st hA126 (op_move rfl (hA126.ev rfl)) rfl rfl (by decide) fun a127 hA128 => ?_; clear hA126 a125
 refine st hA128 (op_eql rfl (hA128.ev rfl) (hA128.ev rfl)) rfl rfl (by decide) fun a129 hA130 => ?_; clear hA128 a127
 have hd131 : (biasE b i) = (checkF b) := he
 rw [decide_eq_true hd131] at hA130
 refine st hA130 (op_move rfl (hA130.ev rfl)) rfl rfl (by decide) fun a132 hA133 => ?_; clear hA130 a129
 refine stg hA133 (op_move rfl (hA133.ev rfl)) rfl rfl rfl rfl (by decide) fun a134 hA135 => ?_; clear hA133 a132
 refine stg hA135 (op_move rfl (hA135.ev rfl)) rfl rfl rfl rfl (by decide) fun a136 hA137 => ?_; clear hA135 a134
 refine stg hA137 (op_eql rfl (hA137.ev rfl) (hA137.ev rfl)) rfl rfl rfl rfl (by decide) fun a138 hA139 => ?_; clear hA137 a136
 rw [decide_eq_true hd118] at hA139
 refine st hA139 (op_pick_t rfl (hA139.ev rfl) (hA139.ev rfl)) rfl rfl (by decide) fun a140 hA141 => ?_; clear hA139 a138
 refine st hA141 (op_move rfl (hA141.ev rfl)) rfl rfl (by decide) fun a142 hA143 => ?_; clear hA141 a140
 refine stg hA143 (op_loadA rfl ty_30 (hA143.ev rfl) (hS109.bk 2 rfl) (l := [(Value.int .i64 ((biasR b i).1)), (Value.int .i64 ((biasR b i).2))]) rfl rfl) rfl rfl rfl rfl (by decide) fun a144 hA145 => ?_; clear hA143 a142
 refine stg hA145 (op_build rfl pv0 bd_30_) rfl rfl rfl rfl (by decide) fun a146 hA147 => ?_; clear hA145 a144
 refine stg hA147 (op_eqlP tw_30 rfl (hA147.ev rfl) (hA147.ev rfl)) rfl rfl rfl rfl (by decide) fun a148 hA149 => ?_; clear hA147 a146
 have hd150 : (decide ((((biasR b i).1) : Int) = 0) && decide ((((biasR b i).2) : Int) = 0)) = true := (by rw [hR]; simp)
 rw [hd150] at hA149
 have hq151 := hd150; simp only [Bool.and_eq_true, Bool.and_eq_false_iff, decide_eq_true_eq, decide_eq_false_iff_not] at hq151
 refine st hA149 (op_pick_t rfl (hA149.ev rfl) (hA149.ev rfl)) rfl rfl (by decide) fun a152 hA153 => ?_; clear hA149 a148
 refine st hA153 (op_move rfl (hA153.ev rfl)) rfl rfl (by decide) fun a154 hA155 => ?_; clear hA153 a152
 refine stg hA155 (op_move rfl (hA155.ev rfl)) rfl rfl rfl rfl (by decide) fun a156 hA157 => ?_; clear hA155 a154
 refine stg hA157 (op_len rfl un_44 (hA157.ev rfl)) rfl rfl rfl rfl (by decide) fun a158 hA159 => ?_; clear hA157 a156
 refine stg hA159 (op_eql rfl (hA159.ev rfl) (evc _ _)) rfl rfl rfl rfl (by decide) fun a160 hA161 => ?_; clear hA159 a158
 have hd162 : ((0 : Nat) : Int) = 0 := rfl
 rw [decide_eq_true hd162] at hA161
 refine st hA161 (op_pick_t rfl (hA161.ev rfl) (hA161.ev rfl)) rfl rfl (by decide) fun a163 hA164 => ?_; clear hA161 a160
 refine st hA164 (op_move rfl (hA164.ev rfl)) rfl rfl (by decide) fun a165 hA166 => ?_; clear hA164 a163
 refine stwg hA166 (op_call rfl en_17 ev0 (awake_ok _)) rfl rfl rfl rfl (by decide) ?_
 rintro a167 _ w169 ⟨rfl, hE170⟩ hA168; have hS171 := hS109.step hE170; clear hE170 hA166 hS109 a165
 refine st hA168 (op_pick_t rfl (hA168.ev rfl) (hA168.ev rfl)) rfl rfl (by decide) fun a172 hA173 => ?_; clear hA168 a167
 refine st hA173 (op_assign rfl (hA173.ev rfl)) rfl rfl (by decide) fun a174 hA175 => ?_; clear hA173 a172
 refine wl_nil ?_
 refine then_n ?_
 refine c_ret ?_
 refine then_ret ?_
 refine fin_run hA175 (.inl rfl) (run_results1 hA175 rfl (.tmp rfl)) ?_
 exact ⟨rfl, hS171.ext⟩
set_option maxHeartbeats 4000000 in
theorem HardBiases_c (b : BookD) (vt vm : Value) (lr lb lk : Nat → Value) (w : World) (hT : TabsAt w vt lr lb b.tabs) (hM : MacsAt w vm lk b.macs) (i : Int) (hf : thinF b 0 = true) (hc : checkF b = 0) :
  Calls Try.prog 10 #[(Value.agg #[(Value.int .i64 b.scales), vt, vm]), (Value.int .i64 i)] w (Ret fun v w' => v = .bool true ∧ Ext NoB w w') := by
 refine calls_enter Try.func10 rfl fun a0 hA0 => ?_
 replace hA0 : Fr 128 [] [(0, (Value.agg #[(Value.int .i64 b.scales), vt, vm])), (1, (Value.int .i64 i))] a0 := hA0
 have hth := (thin_iff.1 hf).1; have htl9 := hth.tl; have hml9 := hth.ml
 have hS0 : Sep NoB w w [(tabsR false vt lr lb b.tabs), (macsR false vm lk b.macs)] := sep_ro ⟨rfl, hT, rfl, hM, trivial⟩
 refine c_seq ?_
 refine c_region ?_
 refine stw hA0 (op_box hS0 rfl (hA0.ev rfl) (cs := [(Value.int .i64 b.scales), vt, vm]) rfl) rfl rfl (by decide) ?_
 rintro a1 _ w3 ⟨b4, rfl, hS5⟩ hA2; clear hA0 hS0 a0
 refine st hA2 (op_assign rfl (evc _ _)) rfl rfl (by decide) fun a6 hA7 => ?_; clear hA2 a1
 refine wl_nil ?_
 refine then_n ?_
 refine c_seq ?_
 refine c_seq ?_
 refine c_region ?_
 refine st hA7 (op_loadA rfl ty_25 (hA7.ev rfl) (hS5.bk 0 rfl) (l := [(Value.int .i64 b.scales), vt, vm]) rfl rfl) rfl rfl (by decide) fun a8 hA9 => ?_; clear hA7 a6
 refine stw hA9 (op_call rfl en_16 (ev2 (hA9.ev rfl) (evc _ _)) (thin0_ok b vt vm lr lb lk _ (tabs_at (hS5.ok 1 _ rfl)) (macs_at (hS5.ok 2 _ rfl)))) rfl rfl (by decide) ?_
 rintro a10 _ w12 ⟨rfl, hE13⟩ hA11; have hS14 := hS5.step hE13; clear hE13 hA9 hS5 a8
 have hd15 : (thinF b 0) = true := hf
 rw [hd15] at hA11
 refine st hA11 (op_not rfl (hA11.ev rfl)) rfl rfl (by decide) fun a16 hA17 => ?_; clear hA11 a10
 refine wl_nil ?_
 refine then_n ?_
 refine c_false hA17 rfl ?_
 refine c_skip ?_
 refine then_n ?_
 refine c_seq ?_
 refine c_region ?_
 refine st hA17 (op_loadA rfl ty_25 (hA17.ev rfl) (hS14.bk 0 rfl) (l := [(Value.int .i64 b.scales), vt, vm]) rfl rfl) rfl rfl (by decide) fun a18 hA19 => ?_; clear hA17 a16
 refine stw hA19 (op_call rfl en_19 (ev1 (hA19.ev rfl)) (Book_ok b vt vm lr lb lk _ (tabs_at (hS14.ok 1 _ rfl)) (macs_at (hS14.ok 2 _ rfl)) hth)) rfl rfl (by decide) ?_
 rintro a20 _ w22 ⟨vt23, vm24, lr25, lb26, lk27, rfl, hT28⟩ hA21; have hS29 := hS14.callS hT28 rfl; clear hT28 hA19 hS14 a18
 refine stw hA21 (op_call rfl en_32 (ev1 (hA21.ev rfl)) (check_book b vt23 vm24 lr25 lb26 lk27 _ (tabs_at (hS29.ok 0 _ rfl)) (macs_at (hS29.ok 1 _ rfl)) hth)) rfl rfl (by decide) ?_
 rintro a30 _ w32 ⟨rfl, hE33⟩ hA31; have hS34 := hS29.step hE33; clear hE33 hA21 hS29 a20
 refine st hA31 (op_assign rfl (hA31.ev rfl)) rfl rfl (by decide) fun a35 hA36 => ?_; clear hA31 a30
 refine wl_nil ?_
 refine then_n ?_
 refine c_seq ?_
 have hA37 := hA36.as [(5, (Value.int .i64 (checkF b))), (2, (bptr b4 0)), (1, (Value.int .i64 i))] rfl; clear hA36
 refine c_region ?_
 refine st hA37 (op_loadA rfl ty_25 (hA37.ev rfl) (hS34.bk 2 rfl) (l := [(Value.int .i64 b.scales), vt, vm]) rfl rfl) rfl rfl (by decide) fun a38 hA39 => ?_; clear hA37 a35
 refine stw hA39 (op_call rfl en_19 (ev1 (hA39.ev rfl)) (Book_ok b vt vm lr lb lk _ (tabs_at (hS34.ok 3 _ rfl)) (macs_at (hS34.ok 4 _ rfl)) hth)) rfl rfl (by decide) ?_
 rintro a40 _ w42 ⟨vt43, vm44, lr45, lb46, lk47, rfl, hT48⟩ hA41; have hS49 := hS34.callS hT48 rfl; clear hT48 hA39 hS34 a38
 refine st hA41 (op_move rfl (hA41.ev rfl)) rfl rfl (by decide) fun a50 hA51 => ?_; clear hA41 a40
 refine stw hA51 (op_call rfl en_33 (ev2 (hA51.ev rfl) (hA51.ev rfl)) (Bias_ok b vt43 vm44 lr45 lb46 lk47 _ (tabs_at (hS49.ok 0 _ rfl)) (macs_at (hS49.ok 1 _ rfl)) hth i)) rfl rfl (by decide) ?_
 rintro a52 _ w54 ⟨rfl, hE55⟩ hA53; have hS56 := hS49.step hE55; clear hE55 hA51 hS49 a50
 refine st hA53 (op_move rfl (hA53.ev rfl)) rfl rfl (by decide) fun a57 hA58 => ?_; clear hA53 a52
 refine st hA58 (op_extract rfl (hA58.ev rfl) rfl) rfl rfl (by decide) fun a59 hA60 => ?_; clear hA58 a57
 refine st hA60 (op_extract rfl (hA60.ev rfl) rfl) rfl rfl (by decide) fun a61 hA62 => ?_; clear hA60 a59
 refine stw hA62 (op_alloc hS56 rfl ze_30 (cs := [(Value.int .i64 0), (Value.int .i64 0)]) rfl) rfl rfl (by decide) ?_
 rintro a63 _ w65 ⟨b66, rfl, hS67⟩ hA64; clear hA62 hS56 a61
 refine sts hA64 (op_store hS67 rfl ty_30 (hA64.ev rfl) (hA64.ev rfl) (i := 0) rfl (vs := [(Value.int .i64 ((biasR b i).1)), (Value.int .i64 ((biasR b i).2))]) rfl rfl rfl (Nat.le_of_ble_eq_true rfl)) rfl rfl ?_
 intro _ w68 hS69 hA70; clear hA64
 have hS71 : Sep NoB w w68 [(blk b66 30 [(Value.int .i64 ((biasR b i).1)), (Value.int .i64 ((biasR b i).2))]), (tabsR true vt43 lr45 lb46 b.tabs), (macsR true vm44 lk47 b.macs), (tabsR true vt23 lr25 lb26 b.tabs), (macsR true vm24 lk27 b.macs), (blk b4 25 [(Value.int .i64 b.scales), vt, vm]), (tabsR false vt lr lb b.tabs), (macsR false vm lk b.macs)] := hS69; clear hS69 hS67
 refine st hA70 (op_assign rfl (hA70.ev rfl)) rfl rfl (by decide) fun a72 hA73 => ?_; clear hA70 a63
 refine wl_nil ?_
 refine then_n ?_
 refine c_seq ?_
 have hA74 := hA73.as [(7, (Value.int .i64 (biasE b i))), (6, (bptr b66 0)), (5, (Value.int .i64 (checkF b))), (2, (bptr b4 0)), (1, (Value.int .i64 i))] rfl; clear hA73
 refine c_region ?_
 refine st hA74 (op_loadA rfl ty_25 (hA74.ev rfl) (hS71.bk 5 rfl) (l := [(Value.int .i64 b.scales), vt, vm]) rfl rfl) rfl rfl (by decide) fun a75 hA76 => ?_; clear hA74 a72
 refine stw hA76 (op_call rfl en_19 (ev1 (hA76.ev rfl)) (Book_ok b vt vm lr lb lk _ (tabs_at (hS71.ok 6 _ rfl)) (macs_at (hS71.ok 7 _ rfl)) hth)) rfl rfl (by decide) ?_
 rintro a77 _ w79 ⟨vt80, vm81, lr82, lb83, lk84, rfl, hT85⟩ hA78; have hS86 := hS71.callS hT85 rfl; clear hT85 hA76 hS71 a75
 refine stw hA78 (op_call rfl en_34 (ev1 (hA78.ev rfl)) (Off_ok b vt80 vm81 lr82 lb83 lk84 _ (tabs_at (hS86.ok 0 _ rfl)) (macs_at (hS86.ok 1 _ rfl)) hth hc)) rfl rfl (by decide) ?_
 rintro a87 _ w89 ⟨u92, rfl, hT90⟩ hA88
 have hS91 : Sep NoB w w89 [(row u92 3 1 ((offL b).length) (ints (offL b))), (tabsR true vt80 lr82 lb83 b.tabs), (macsR true vm81 lk84 b.macs), (blk b66 30 [(Value.int .i64 ((biasR b i).1)), (Value.int .i64 ((biasR b i).2))]), (tabsR true vt43 lr45 lb46 b.tabs), (macsR true vm44 lk47 b.macs), (tabsR true vt23 lr25 lb26 b.tabs), (macsR true vm24 lk27 b.macs), (blk b4 25 [(Value.int .i64 b.scales), vt, vm]), (tabsR false vt lr lb b.tabs), (macsR false vm lk b.macs)] := hS86.callS hT90 rfl; clear hT90 hA78 hS86 a77
 refine st hA88 (op_move rfl (hA88.ev rfl)) rfl rfl (by decide) fun a93 hA94 => ?_; clear hA88 a87
 refine st hA94 (op_extract rfl (hA94.ev rfl) rfl) rfl rfl (by decide) fun a95 hA96 => ?_; clear hA94 a93
 refine st hA96 (op_extract rfl (hA96.ev rfl) rfl) rfl rfl (by decide) fun a97 hA98 => ?_; clear hA96 a95
 refine st hA98 (op_assign rfl (hA98.ev rfl)) rfl rfl (by decide) fun a99 hA100 => ?_; clear hA98 a97
 refine st hA100 (op_assign rfl (hA100.ev rfl)) rfl rfl (by decide) fun a101 hA102 => ?_; clear hA100 a99
 refine wl_nil ?_
 refine then_n ?_
 refine c_seq ?_
 have hA103 := hA102.as [(9, (Value.int .i64 0)), (8, u92), (7, (Value.int .i64 (biasE b i))), (6, (bptr b66 0)), (5, (Value.int .i64 (checkF b))), (2, (bptr b4 0)), (1, (Value.int .i64 i))] rfl; clear hA102
 refine c_region ?_
 refine st hA103 (op_loadA rfl ty_25 (hA103.ev rfl) (hS91.bk 8 rfl) (l := [(Value.int .i64 b.scales), vt, vm]) rfl rfl) rfl rfl (by decide) fun a104 hA105 => ?_; clear hA103 a101
 refine stw hA105 (op_call rfl en_21 (ev1 (hA105.ev rfl)) (rfault_ok b vt vm lr lb lk _ (tabs_at (hS91.ok 9 _ rfl)) (macs_at (hS91.ok 10 _ rfl)) hth)) rfl rfl (by decide) ?_
 rintro a106 _ w108 ⟨rfl, hE109⟩ hA107; have hS110 := hS91.step hE109; clear hE109 hA105 hS91 a104
 refine st hA107 (op_assign rfl (hA107.ev rfl)) rfl rfl (by decide) fun a111 hA112 => ?_; clear hA107 a106
 refine wl_nil ?_
 refine then_n ?_
 refine c_seq ?_
 refine c_seq ?_
 refine c_region ?_
 refine st hA112 (op_move rfl (hA112.ev rfl)) rfl rfl (by decide) fun a113 hA114 => ?_; clear hA112 a111
 refine st hA114 (op_move rfl (hA114.ev rfl)) rfl rfl (by decide) fun a115 hA116 => ?_; clear hA114 a113
 refine st hA116 (op_neq rfl (hA116.ev rfl) (hA116.ev rfl)) rfl rfl (by decide) fun a117 hA118 => ?_; clear hA116 a115
 have hd119 : (checkF b) = (checkF b) := rfl
 rw [decide_eq_true hd119] at hA118
 refine wl_nil ?_
 refine then_n ?_
 refine c_false hA118 rfl ?_
 refine c_skip ?_
 refine then_n ?_
 refine c_seq ?_
 refine c_seq ?_
 have hA120 := hA118.as [(10, (Value.int .i64 (checkF b))), (9, (Value.int .i64 0)), (8, u92), (7, (Value.int .i64 (biasE b i))), (6, (bptr b66 0)), (2, (bptr b4 0)), (1, (Value.int .i64 i))] rfl; clear hA118
 refine c_region ?_
 refine st hA120 (op_move rfl (hA120.ev rfl)) rfl rfl (by decide) fun a121 hA122 => ?_; clear hA120 a117
 refine st hA122 (op_neq rfl (hA122.ev rfl) (evc _ _)) rfl rfl (by decide) fun a123 hA124 => ?_; clear hA122 a121
 have hd125 : (checkF b) = 0 := hc
 rw [decide_eq_true hd125] at hA124
 refine wl_nil ?_
 refine then_n ?_
 refine c_false hA124 rfl ?_
 refine c_skip ?_
 refine then_n ?_
 refine c_seq ?_
 refine c_region ?_
 refine st hA124 (op_assign rfl (evc _ _)) rfl rfl (by decide) fun a126 hA127 => ?_; clear hA124 a123
 have hS128 := hS110.nil_row 3 1; clear hS110
 refine wl_nil ?_
 refine then_n ?_
 refine c_seq ?_
 refine c_seq ?_
 refine c_region ?_
 refine st hA127 (op_assign rfl (evc _ _)) rfl rfl (by decide) fun a129 hA130 => ?_; clear hA127 a126
 refine wl_nil ?_
 refine then_n ?_
 refine c_block ?_
 have hA131 := hA130.as [(12, (Value.int .i64 0)), (11, (Value.slice none 0 0)), (10, (Value.int .i64 (checkF b))), (9, (Value.int .i64 0)), (8, u92), (7, (Value.int .i64 (biasE b i))), (6, (bptr b66 0)), (2, (bptr b4 0)), (1, (Value.int .i64 i))] rfl; clear hA130
 refine c_loop (G := Nat) (fun (k : Nat) a_ w_ => ∃ v11_ : Value, Fr 128 [] [(12, (Value.int .i64 (k : Int))), (11, v11_), (10, (Value.int .i64 (checkF b))), (9, (Value.int .i64 0)), (8, u92), (7, (Value.int .i64 (biasE b i))), (6, (bptr b66 0)), (2, (bptr b4 0)), (1, (Value.int .i64 i))] a_ ∧ Sep NoB w w_ [(row v11_ 3 1 ((offU b k).length) (ints (offU b k))), (row u92 3 1 ((offL b).length) (ints (offL b))), (tabsR true vt80 lr82 lb83 b.tabs), (macsR true vm81 lk84 b.macs), (blk b66 30 [(Value.int .i64 ((biasR b i).1)), (Value.int .i64 ((biasR b i).2))]), (tabsR true vt43 lr45 lb46 b.tabs), (macsR true vm44 lk47 b.macs), (tabsR true vt23 lr25 lb26 b.tabs), (macsR true vm24 lk27 b.macs), (blk b4 25 [(Value.int .i64 b.scales), vt, vm]), (tabsR false vt lr lb b.tabs), (macsR false vm lk b.macs)] ∧ (k ≤ b.macs.length)) (fun k => b.macs.length - k) 0 ⟨(Value.slice none 0 0), hA131.as _ rfl, (hS128.row_say (i := 0) rfl (by rfl) (by rfl)), by omega⟩ ?_
 clear hA131 hS128 a129
 rintro k a132 w134 ⟨v11_, hA133, hS135, hkk⟩
 refine c_seq ?_
 refine c_seq ?_
 refine c_region ?_
 refine st hA133 (op_move rfl (hA133.ev rfl)) rfl rfl (by decide) fun a136 hA137 => ?_; clear hA133 a132
 refine st hA137 (op_field rfl fd_25_2 (hA137.ev rfl)) rfl rfl (by decide) fun a138 hA139 => ?_; clear hA137 a136
 refine st hA139 (op_load1 rfl ty_23 (hA139.ev rfl) (hS135.bk 9 rfl) rfl) rfl rfl (by decide) fun a140 hA141 => ?_; clear hA139 a138
 refine st hA141 (op_lenS rfl un_23 (hA141.ev rfl) (macs_at (hS135.ok 11 _ rfl)).macs) rfl rfl (by decide) fun a142 hA143 => ?_; clear hA141 a140
 refine st hA143 (op_lss rfl (hA143.ev rfl) (hA143.ev rfl)) rfl rfl (by decide) fun a144 hA145 => ?_; clear hA143 a142
 refine wl_nil ?_
 refine then_n ?_
 by_cases hb146 : (k : Int) < (b.macs.length : Int)
 ·skip
  rw [decide_eq_true hb146] at hA145
  refine c_true hA145 rfl ?_
  refine c_skip ?_
  refine then_n ?_
  refine c_seq ?_
  refine c_block ?_
  refine c_seq ?_
  refine c_region ?_
  refine st hA145 (op_field rfl fd_25_2 (hA145.ev rfl)) rfl rfl (by decide) fun a147 hA148 => ?_; clear hA145 a144
  refine st hA148 (op_load1 rfl ty_23 (hA148.ev rfl) (hS135.bk 9 rfl) rfl) rfl rfl (by decide) fun a149 hA150 => ?_; clear hA148 a147
  refine st hA150 (op_move rfl (hA150.ev rfl)) rfl rfl (by decide) fun a151 hA152 => ?_; clear hA150 a149
  refine st hA152 (op_indexS rfl un_23 ty_61 (hA152.ev rfl) (i := k) (hA152.ev rfl) (macs_at (hS135.ok 11 _ rfl)).macs (by decide) (by omega)) rfl rfl (by decide) fun a153 hA154 => ?_; clear hA152 a151
  refine st hA154 (op_loadAE rfl ty_61 (hA154.ev rfl) (macs_at (hS135.ok 11 _ rfl)).macs (macs_all (by omega)) rfl (by decide)) rfl rfl (by decide) fun a155 hA156 => ?_; clear hA154 a153
  refine stw hA156 (op_call rfl en_35 (ev1 (hA156.ev rfl)) (roff_ok _ (b.macs.getD k mac0) _ _ ((macs_at (hS135.ok 11 _ rfl)).blk (i := k) (by omega)) ((check_ok hc).mac (by omega)) (hth.kl _))) rfl rfl (by decide) ?_
  rintro a157 _ w159 ⟨rfl, hE160⟩ hA158; have hS161 := hS135.step hE160; clear hE160 hA156 hS135 a155
  refine wl_nil ?_
  refine then_n ?_
  rcases Bool.eq_false_or_eq_true ((offB (b.macs.getD k mac0))) with hb162 | hb162
  ·skip
   rw [hb162] at hA158
   refine c_true hA158 rfl ?_
   have hA163 := hA158.as [(12, (Value.int .i64 (k : Int))), (11, v11_), (10, (Value.int .i64 (checkF b))), (9, (Value.int .i64 0)), (8, u92), (7, (Value.int .i64 (biasE b i))), (6, (bptr b66 0)), (2, (bptr b4 0)), (1, (Value.int .i64 i))] rfl; clear hA158
   refine c_region ?_
   refine st hA163 (op_move rfl (hA163.ev rfl)) rfl rfl (by decide) fun a164 hA165 => ?_; clear hA163 a157
   refine st hA165 (op_move rfl (hA165.ev rfl)) rfl rfl (by decide) fun a166 hA167 => ?_; clear hA165 a164
   refine stw hA167 (op_buildSlice hS161 rfl (pv1 (hA167.ev rfl)) un_44 ty_3 ze_3 (by decide) (cs := [(Value.int .i64 (k : Int))]) (bs_3_1_0i _)) rfl rfl (by decide) ?_
   rintro a168 _ w170 ⟨b171, rfl, hS172⟩ hA169; clear hA167 hS161 a166
   refine stw hA169 (op_append hS172 rfl un_44 el_3 (hA169.ev rfl) (hA169.ev rfl) (i := 1) rfl (SlAt.of_blk (hS172.bk 0 rfl) rfl (Nat.le_of_ble_eq_true rfl)) rfl (by have := offU_len b k; simp only [maxLen]; omega) (by have := offU_len b k; omega)) rfl rfl (by decide) ?_
   intro a173 v176 w175 hS177 hA174
   have hS178 := hS177.row_say (i := 1) rfl (n' := ((offU b k) ++ [(k : Int)]).length) (xs' := (ints ((offU b k) ++ [(k : Int)]))) (by simp) (by simp [ints]); clear hS177 hA169 hS172 a168
   refine st hA174 (op_assign rfl (hA174.ev rfl)) rfl rfl (by decide) fun a179 hA180 => ?_; clear hA174 a173
   refine wl_nil ?_
   refine blk_n ?_
   refine then_n ?_
   refine c_region ?_
   refine st hA180 (op_move rfl (hA180.ev rfl)) rfl rfl (by decide) fun a181 hA182 => ?_; clear hA180 a179
   refine st hA182 (op_add rfl (hA182.ev rfl) (evc _ _) (by omega) (by omega)) rfl rfl (by decide) fun a183 hA184 => ?_; clear hA182 a181
   refine st hA184 (op_assign rfl (hA184.ev rfl)) rfl rfl (by decide) fun a185 hA186 => ?_; clear hA184 a183
   refine wl_nil ?_
   have hS187 : Sep NoB w w175 [(row v176 3 1 (((offU b k) ++ [(k : Int)]).length) (ints ((offU b k) ++ [(k : Int)]))), (row u92 3 1 ((offL b).length) (ints (offL b))), (tabsR true vt80 lr82 lb83 b.tabs), (macsR true vm81 lk84 b.macs), (blk b66 30 [(Value.int .i64 ((biasR b i).1)), (Value.int .i64 ((biasR b i).2))]), (tabsR true vt43 lr45 lb46 b.tabs), (macsR true vm44 lk47 b.macs), (tabsR true vt23 lr25 lb26 b.tabs), (macsR true vm24 lk27 b.macs), (blk b4 25 [(Value.int .i64 b.scales), vt, vm]), (tabsR false vt lr lb b.tabs), (macsR false vm lk b.macs)] := hS178.keep [1, 2, 3, 4, 5, 6, 7, 8, 9, 10, 11, 12] (by decide) _ rfl rfl; clear hS178
   exact then_n ⟨k + 1, ⟨v176, hA186.as _ rfl, (hS187.row_say (i := 0) rfl (by first | rw [offU_y (by assumption)] | rw [offU_n (by assumption)]) (by first | rw [offU_y (by assumption)] | rw [offU_n (by assumption)])), by omega⟩, by omega⟩
  ·skip
   rw [hb162] at hA158
   refine c_false hA158 rfl ?_
   refine c_skip ?_
   refine blk_n ?_
   refine then_n ?_
   have hA188 := hA158.as [(12, (Value.int .i64 (k : Int))), (11, v11_), (10, (Value.int .i64 (checkF b))), (9, (Value.int .i64 0)), (8, u92), (7, (Value.int .i64 (biasE b i))), (6, (bptr b66 0)), (2, (bptr b4 0)), (1, (Value.int .i64 i))] rfl; clear hA158
   refine c_region ?_
   refine st hA188 (op_move rfl (hA188.ev rfl)) rfl rfl (by decide) fun a189 hA190 => ?_; clear hA188 a157
   refine st hA190 (op_add rfl (hA190.ev rfl) (evc _ _) (by omega) (by omega)) rfl rfl (by decide) fun a191 hA192 => ?_; clear hA190 a189
   refine st hA192 (op_assign rfl (hA192.ev rfl)) rfl rfl (by decide) fun a193 hA194 => ?_; clear hA192 a191
   refine wl_nil ?_
   exact then_n ⟨k + 1, ⟨v11_, hA194.as _ rfl, (hS161.row_say (i := 0) rfl (by first | rw [offU_y (by assumption)] | rw [offU_n (by assumption)]) (by first | rw [offU_y (by assumption)] | rw [offU_n (by assumption)])), by omega⟩, by omega⟩
 ·skip
  rw [decide_eq_false hb146] at hA145
  refine c_false hA145 rfl ?_
  refine c_exit ?_
  refine then_exit ?_
  refine then_exit ?_
  refine blk_hit ?_
  refine then_n ?_
  refine c_seq ?_
  refine c_seq ?_
  have hA195 := hA145.as [(11, v11_), (10, (Value.int .i64 (checkF b))), (9, (Value.int .i64 0)), (8, u92), (7, (Value.int .i64 (biasE b i))), (6, (bptr b66 0)), (2, (bptr b4 0)), (1, (Value.int .i64 i))] rfl; clear hA145
  refine c_region ?_
  refine st hA195 (op_move rfl (hA195.ev rfl)) rfl rfl (by decide) fun a196 hA197 => ?_; clear hA195 a144
  refine st hA197 (op_neq rfl (hA197.ev rfl) (evc _ _)) rfl rfl (by decide) fun a198 hA199 => ?_; clear hA197 a196
  refine st hA199 (op_move rfl (hA199.ev rfl)) rfl rfl (by decide) fun a200 hA201 => ?_; clear hA199 a198
  refine stg hA201 (op_move rfl (hA201.ev rfl)) rfl rfl rfl rfl (by decide) fun a202 hA203 => ?_; clear hA201 a200
  refine stg hA203 (op_move rfl (hA203.ev rfl)) rfl rfl rfl rfl (by decide) fun a204 hA205 => ?_; clear hA203 a202
  refine stwg hA205 (op_call rfl en_36 (ev2 (hA205.ev rfl) (hA205.ev rfl)) (ints_ok (offL b) _ _ (SlAt.of_row (hS135.ok_row 1 rfl)) (offU b k) _ (SlAt.of_row (hS135.ok_row 0 rfl)) (by have := offU_len b b.macs.length; unfold offL; omega))) rfl rfl rfl rfl (by decide) ?_
  rintro a206 _ w208 ⟨rfl, hE209⟩ hA207; have hS210 := hS135.step hE209; clear hE209 hA205 hS135 a204
  have hd211 : (decide ((offL b) = (offU b k))) = true := (decide_eq_true (by unfold offL; rw [show k = b.macs.length by omega]))
  rw [hd211] at hA207
  refine stg hA207 (op_not rfl (hA207.ev rfl)) rfl rfl rfl rfl (by decide) fun a212 hA213 => ?_; clear hA207 a206
  refine st hA213 (op_pick_f rfl (hA213.ev rfl) (hA213.ev rfl)) rfl rfl (by decide) fun a214 hA215 => ?_; clear hA213 a212
  refine wl_nil ?_
  refine then_n ?_
  refine c_false hA215 rfl ?_
  refine c_skip ?_
  refine then_n ?_
  refine c_seq ?_
  refine c_seq ?_
  have hA216 := hA215.as [(10, (Value.int .i64 (checkF b))), (7, (Value.int .i64 (biasE b i))), (6, (bptr b66 0)), (2, (bptr b4 0)), (1, (Value.int .i64 i))] rfl; clear hA215
  refine c_region ?_
  refine st hA216 (op_move rfl (hA216.ev rfl)) rfl rfl (by decide) fun a217 hA218 => ?_; clear hA216 a214
  refine st hA218 (op_field rfl fd_25_2 (hA218.ev rfl)) rfl rfl (by decide) fun a219 hA220 => ?_; clear hA218 a217
  refine st hA220 (op_load1 rfl ty_23 (hA220.ev rfl) (hS210.bk 9 rfl) rfl) rfl rfl (by decide) fun a221 hA222 => ?_; clear hA220 a219
  refine st hA222 (op_lenS rfl un_23 (hA222.ev rfl) (macs_at (hS210.ok 11 _ rfl)).macs) rfl rfl (by decide) fun a223 hA224 => ?_; clear hA222 a221
  refine st hA224 (op_sub rfl (hA224.ev rfl) (evc _ _) (by omega) (by omega)) rfl rfl (by decide) fun a225 hA226 => ?_; clear hA224 a223
  refine stw hA226 (op_call rfl en_22 (ev3 (hA226.ev rfl) (evc _ _) (hA226.ev rfl)) (In_ok _ _ _ _)) rfl rfl (by decide) ?_
  rintro a227 _ W_ ⟨rfl, hW_⟩ hA228; have hW2_ := hW_.symm; subst hW2_; clear hW_ hA226 a225
  refine st hA228 (op_not rfl (hA228.ev rfl)) rfl rfl (by decide) fun a230 hA231 => ?_; clear hA228 a227
  refine wl_nil ?_
  refine then_n ?_
  rcases Bool.eq_false_or_eq_true ((inB i 0 ((b.macs.length : Int) - 1))) with hb232 | hb232
  ·skip
   rw [hb232] at hA231
   have hib := inB_iff.1 hb232
   refine c_false hA231 rfl ?_
   refine c_seq ?_
   have hA233 := hA231.as [(10, (Value.int .i64 (checkF b))), (7, (Value.int .i64 (biasE b i))), (6, (bptr b66 0)), (2, (bptr b4 0)), (1, (Value.int .i64 i))] rfl; clear hA231
   refine c_region ?_
   refine st hA233 (op_field rfl fd_25_2 (hA233.ev rfl)) rfl rfl (by decide) fun a234 hA235 => ?_; clear hA233 a230
   refine st hA235 (op_load1 rfl ty_23 (hA235.ev rfl) (hS210.bk 9 rfl) rfl) rfl rfl (by decide) fun a236 hA237 => ?_; clear hA235 a234
   refine st hA237 (op_move rfl (hA237.ev rfl)) rfl rfl (by decide) fun a238 hA239 => ?_; clear hA237 a236
   refine st hA239 (op_indexS rfl un_23 ty_61 (hA239.ev rfl) (i := i.toNat) ((hA239.ev rfl).trans (int_nat (by omega))) (macs_at (hS210.ok 11 _ rfl)).macs (by decide) (by omega)) rfl rfl (by decide) fun a240 hA241 => ?_; clear hA239 a238
   refine st hA241 (op_loadAE rfl ty_61 (hA241.ev rfl) (macs_at (hS210.ok 11 _ rfl)).macs (macs_all (by omega)) rfl (by decide)) rfl rfl (by decide) fun a242 hA243 => ?_; clear hA241 a240
   refine stw hA243 (op_call rfl en_35 (ev1 (hA243.ev rfl)) (roff_ok _ (b.macs.getD i.toNat mac0) _ _ ((macs_at (hS210.ok 11 _ rfl)).blk (i := i.toNat) (by omega)) ((check_ok hc).mac (by omega)) (hth.kl _))) rfl rfl (by decide) ?_
   rintro a244 _ w246 ⟨rfl, hE247⟩ hA245; have hS248 := hS210.step hE247; clear hE247 hA243 hS210 a242
   refine wl_nil ?_
   refine then_n ?_
   rcases Bool.eq_false_or_eq_true ((offB (b.macs.getD i.toNat mac0))) with hb249 | hb249
   ·skip
    rw [hb249] at hA245
    refine c_true hA245 rfl ?_
    have hA250 := hA245.as [(7, (Value.int .i64 (biasE b i))), (6, (bptr b66 0)), (2, (bptr b4 0)), (1, (Value.int .i64 i))] rfl; clear hA245
    refine c_region ?_
    refine st hA250 (op_assign rfl (evc _ _)) rfl rfl (by decide) fun a251 hA252 => ?_; clear hA250 a244
    refine wl_nil ?_
    refine then_n ?_
    refine c_seq ?_
    refine c_seq ?_
    refine c_region ?_
    refine st hA252 (op_move rfl (hA252.ev rfl)) rfl rfl (by decide) fun a253 hA254 => ?_; clear hA252 a251
    refine st hA254 (op_neq rfl (hA254.ev rfl) (evc _ _)) rfl rfl (by decide) fun a255 hA256 => ?_; clear hA254 a253
    refine wl_nil ?_
    refine then_n ?_
    refine c_true hA256 rfl ?_
    refine c_seq ?_
    refine c_region ?_
    refine st hA256 (op_move rfl (hA256.ev rfl)) rfl rfl (by decide) fun a257 hA258 => ?_; clear hA256 a255
    refine st hA258 (op_move rfl (hA258.ev rfl)) rfl rfl (by decide) fun a259 hA260 => ?_; clear hA258 a257
    refine st hA260 (op_eql rfl (hA260.ev rfl) (hA260.ev rfl)) rfl rfl (by decide) fun a261 hA262 => ?_; clear hA260 a259
    have hd263 : (biasE b i) = 11 := (biasE_11 hc (by assumption) (by assumption))
    rw [decide_eq_true hd263] at hA262
    refine st hA262 (op_move rfl (hA262.ev rfl)) rfl rfl (by decide) fun a264 hA265 => ?_; clear hA262 a261
    refine stg hA265 (op_loadA rfl ty_30 (hA265.ev rfl) (hS248.bk 4 rfl) (l := [(Value.int .i64 ((biasR b i).1)), (Value.int .i64 ((biasR b i).2))]) rfl rfl) rfl rfl rfl rfl (by decide) fun a266 hA267 => ?_; clear hA265 a264
    refine stg hA267 (op_build rfl pv0 bd_30_) rfl rfl rfl rfl (by decide) fun a268 hA269 => ?_; clear hA267 a266
    refine stg hA269 (op_eqlP tw_30 rfl (hA269.ev rfl) (hA269.ev rfl)) rfl rfl rfl rfl (by decide) fun a270 hA271 => ?_; clear hA269 a268
    have hd272 : (decide ((((biasR b i).1) : Int) = 0) && decide ((((biasR b i).2) : Int) = 0)) = true := (by rw [show biasR b i = _ from by first | exact biasR_n (by rw [(biasE_2 hc (by assumption))]; decide) | exact biasR_n (by rw [(biasE_11 hc (by assumption) (by assumption))]; decide) | exact biasR_y (biasE_0 hc (by assumption) (by assumption))]; simp)
    rw [hd272] at hA271
    have hq273 := hd272; simp only [Bool.and_eq_true, Bool.and_eq_false_iff, decide_eq_true_eq, decide_eq_false_iff_not] at hq273
    refine st hA271 (op_pick_t rfl (hA271.ev rfl) (hA271.ev rfl)) rfl rfl (by decide) fun a274 hA275 => ?_; clear hA271 a270
    refine st hA275 (op_move rfl (hA275.ev rfl)) rfl rfl (by decide) fun a276 hA277 => ?_; clear hA275 a274
    refine stwg hA277 (op_call rfl en_17 ev0 (awake_ok _)) rfl rfl rfl rfl (by decide) ?_
    rintro a278 _ w280 ⟨rfl, hE281⟩ hA279; have hS282 := hS248.step hE281; clear hE281 hA277 hS248 a276
    refine st hA279 (op_pick_t rfl (hA279.ev rfl) (hA279.ev rfl)) rfl rfl (by decide) fun a283 hA284 => ?_; clear hA279 a278
    refine st hA284 (op_assign rfl (hA284.ev rfl)) rfl rfl (by decide) fun a285 hA286 => ?_; clear hA284 a283
    refine wl_nil ?_
    refine then_n ?_
    refine c_ret ?_
    refine then_ret ?_
    refine fin_run hA286 (.inl rfl) (run_results1 hA286 rfl (.tmp rfl)) ?_
    exact ⟨rfl, hS282.ext⟩
   ·skip
    rw [hb249] at hA245
    refine c_false hA245 rfl ?_
    refine c_skip ?_
    refine then_n ?_
    refine c_seq ?_
    refine c_seq ?_
    have hA287 := hA245.as [(10, (Value.int .i64 (checkF b))), (7, (Value.int .i64 (biasE b i))), (6, (bptr b66 0)), (2, (bptr b4 0)), (1, (Value.int .i64 i))] rfl; clear hA245
    refine c_region ?_
    refine st hA287 (op_move rfl (hA287.ev rfl)) rfl rfl (by decide) fun a288 hA289 => ?_; clear hA287 a244
    refine st hA289 (op_neq rfl (hA289.ev rfl) (evc _ _)) rfl rfl (by decide) fun a290 hA291 => ?_; clear hA289 a288
    rw [decide_eq_true hd125] at hA291
    refine wl_nil ?_
    refine then_n ?_
    refine c_false hA291 rfl ?_
    refine c_skip ?_
    refine then_n ?_
    refine c_seq ?_
    have hA292 := hA291.as [(7, (Value.int .i64 (biasE b i))), (6, (bptr b66 0)), (2, (bptr b4 0)), (1, (Value.int .i64 i))] rfl; clear hA291
    refine c_drawn mixed hA292 hS248 11 [[], [0], [1], [2], [2], [2, 4], [2], [2, 5, 6], [2, 7], [2, 8], [2, 9]] [(Yd.val (Value.int .i64 (biasE b i))), (Yd.val (Value.bool true)), (Yd.val (Value.bool true)), (Yd.val (Value.agg #[(Value.int .i64 ((biasR b i).1)), (Value.int .i64 ((biasR b i).2))])), (Yd.val (bptr b4 2)), (Yd.val vm), (Yd.val (Value.int .i64 i)), (Yd.val (eptr vm (i.toNat * 2))), (Yd.val (Value.agg #[(Value.int .i64 ((b.macs.getD i.toNat mac0).scale)), (lk i.toNat)])), (Yd.val (Value.agg #[(Value.int .i64 ((biasF (b.macs.getD i.toNat mac0)).1)), (Value.int .i64 ((biasF (b.macs.getD i.toNat mac0)).2))])), (Yd.val (Value.agg #[(Value.int .i64 ((biasF (b.macs.getD i.toNat mac0)).1)), (Value.int .i64 ((biasF (b.macs.getD i.toNat mac0)).2))]))] (by decide +kernel) rfl rfl ?_ ?_
    ·skip
     refine ⟨fun a w hA hS hd => by exact opG_of rfl (dv (op_move rfl (hA.ev rfl)) hS rfl), ?_⟩
     refine ⟨fun a w hA hS hd => by have e0 := has_ev (hd 0 (by decide)) rfl (fun _ h => h); exact opG_of rfl (dv (op_eql rfl (tmp_ev e0) (evc _ _)) hS (by show Value.bool _ = _; simp only [decide_eq_true (show (biasE b i) = 0 from (biasE_0 hc (by assumption) (by assumption))), decide_true, decide_false, Bool.not_true, Bool.not_false])), ?_⟩
     refine ⟨fun a w hA hS hd => by have e1 := has_ev (hd 1 (by decide)) rfl (fun _ h => h); exact opG_of rfl (dv (op_move rfl (tmp_ev e1)) hS rfl), ?_⟩
     refine ⟨fun a w hA hS hd => by have e2 := has_ev (hd 2 (by decide)) rfl (fun _ h => h); exact opG_yes rfl rfl e2 (dv (op_loadA rfl ty_30 (hA.ev rfl) (hS.bk 4 rfl) (l := [(Value.int .i64 ((biasR b i).1)), (Value.int .i64 ((biasR b i).2))]) rfl rfl) hS rfl), ?_⟩
     refine ⟨fun a w hA hS hd => by have e2 := has_ev (hd 2 (by decide)) rfl (fun _ h => h); exact opG_yes rfl rfl e2 (dv (op_field rfl fd_25_2 (hA.ev rfl)) hS rfl), ?_⟩
     refine ⟨fun a w hA hS hd => by have e2 := has_ev (hd 2 (by decide)) rfl (fun _ h => h); have e4 := has_ev (hd 4 (by decide)) rfl (fun _ h => h); exact opG_yes rfl rfl e2 (dv (op_load1 rfl ty_23 (tmp_ev e4) (hS.bk 9 rfl) rfl) hS rfl), ?_⟩
     refine ⟨fun a w hA hS hd => by have e2 := has_ev (hd 2 (by decide)) rfl (fun _ h => h); exact opG_yes rfl rfl e2 (dv (op_move rfl (hA.ev rfl)) hS rfl), ?_⟩
     refine ⟨fun a w hA hS hd => by have e2 := has_ev (hd 2 (by decide)) rfl (fun _ h => h); have e5 := has_ev (hd 5 (by decide)) rfl (fun _ h => h); have e6 := has_ev (hd 6 (by decide)) rfl (fun _ h => h); exact opG_yes rfl rfl e2 (dv (op_indexS rfl un_23 ty_61 (tmp_ev e5) (i := i.toNat) ((tmp_ev e6).trans (int_nat (by omega))) (macs_at (hS.ok 11 _ rfl)).macs (by decide) (by omega)) hS rfl), ?_⟩
     refine ⟨fun a w hA hS hd => by have e2 := has_ev (hd 2 (by decide)) rfl (fun _ h => h); have e7 := has_ev (hd 7 (by decide)) rfl (fun _ h => h); exact opG_yes rfl rfl e2 (dv (op_loadAE rfl ty_61 (tmp_ev e7) (macs_at (hS.ok 11 _ rfl)).macs (macs_all (by omega)) rfl (by decide)) hS rfl), ?_⟩
     refine ⟨fun a w hA hS hd => by have e2 := has_ev (hd 2 (by decide)) rfl (fun _ h => h); have e8 := has_ev (hd 8 (by decide)) rfl (fun _ h => h); exact opG_yes rfl rfl e2 (dx (op_call rfl en_37 (ev1 (tmp_ev e8)) (rbias_ok _ (b.macs.getD i.toNat mac0) _ _ ((macs_at (hS.ok 11 _ rfl)).blk (i := i.toNat) (by omega)) ((check_ok hc).mac (by omega)) (hth.kl _))) hS (fun _ => rfl)), ?_⟩
     refine ⟨fun a w hA hS hd => by have e2 := has_ev (hd 2 (by decide)) rfl (fun _ h => h); have e9 := has_ev (hd 9 (by decide)) rfl (fun _ h => h); exact opG_yes rfl rfl e2 (dx (op_call rfl en_20 (ev1 (tmp_ev e9)) (to_ok _ _ _)) hS (fun _ => rfl)), ?_⟩
     trivial
    intro a294 w295 hA296 hS297 hH298; clear hA292 hS248
    have hA299 := hA296.add (has_ev (hH298 2 (by decide)) rfl (fun _ h => h)); clear hA296
    have hA300 := hA299.add (has_ev (hH298 3 (by decide)) rfl (fun _ h => h)); clear hA299
    have hA301 := hA300.add (has_ev (hH298 10 (by decide)) rfl (fun _ h => h)); clear hA300
    clear hH298
    refine stg hA301 (op_eqlP tw_30 rfl (hA301.ev rfl) (hA301.ev rfl)) rfl rfl rfl rfl (by decide) fun a302 hA303 => ?_; clear hA301 a294
    have hd304 : (decide ((((biasR b i).1) : Int) = ((biasF (b.macs.getD i.toNat mac0)).1)) && decide ((((biasR b i).2) : Int) = ((biasF (b.macs.getD i.toNat mac0)).2))) = true := (by rw [show biasR b i = _ from by first | exact biasR_n (by rw [(biasE_2 hc (by assumption))]; decide) | exact biasR_n (by rw [(biasE_11 hc (by assumption) (by assumption))]; decide) | exact biasR_y (biasE_0 hc (by assumption) (by assumption))]; simp)
    rw [hd304] at hA303
    have hq305 := hd304; simp only [Bool.and_eq_true, Bool.and_eq_false_iff, decide_eq_true_eq, decide_eq_false_iff_not] at hq305
    refine st hA303 (op_pick_t rfl (hA303.ev rfl) (hA303.ev rfl)) rfl rfl (by decide) fun a306 hA307 => ?_; clear hA303 a302
    refine st hA307 (op_move rfl (hA307.ev rfl)) rfl rfl (by decide) fun a308 hA309 => ?_; clear hA307 a306
    refine stwg hA309 (op_call rfl en_17 ev0 (awake_ok _)) rfl rfl rfl rfl (by decide) ?_
    rintro a310 _ w312 ⟨rfl, hE313⟩ hA311; have hS314 := hS297.step hE313; clear hE313 hA309 hS297 a308
    refine st hA311 (op_pick_t rfl (hA311.ev rfl) (hA311.ev rfl)) rfl rfl (by decide) fun a315 hA316 => ?_; clear hA311 a310
    refine st hA316 (op_assign rfl (hA316.ev rfl)) rfl rfl (by decide) fun a317 hA318 => ?_; clear hA316 a315
    refine wl_nil ?_
    refine then_n ?_
    refine c_ret ?_
    refine fin_run hA318 (.inl rfl) (run_results1 hA318 rfl (.tmp rfl)) ?_
    exact ⟨rfl, hS314.ext⟩
  ·skip
   rw [hb232] at hA231
   refine c_true hA231 rfl ?_
   have hA319 := hA231.as [(7, (Value.int .i64 (biasE b i))), (6, (bptr b66 0)), (2, (bptr b4 0)), (1, (Value.int .i64 i))] rfl; clear hA231
   refine c_region ?_
   refine st hA319 (op_assign rfl (evc _ _)) rfl rfl (by decide) fun a320 hA321 => ?_; clear hA319 a230
   refine wl_nil ?_
   refine then_n ?_
   refine c_seq ?_
   refine c_seq ?_
   refine c_region ?_
   refine st hA321 (op_move rfl (hA321.ev rfl)) rfl rfl (by decide) fun a322 hA323 => ?_; clear hA321 a320
   refine st hA323 (op_neq rfl (hA323.ev rfl) (evc _ _)) rfl rfl (by decide) fun a324 hA325 => ?_; clear hA323 a322
   refine wl_nil ?_
   refine then_n ?_
   refine c_true hA325 rfl ?_
   refine c_seq ?_
   refine c_region ?_
   refine st hA325 (op_move rfl (hA325.ev rfl)) rfl rfl (by decide) fun a326 hA327 => ?_; clear hA325 a324
   refine st hA327 (op_move rfl (hA327.ev rfl)) rfl rfl (by decide) fun a328 hA329 => ?_; clear hA327 a326
   refine st hA329 (op_eql rfl (hA329.ev rfl) (hA329.ev rfl)) rfl rfl (by decide) fun a330 hA331 => ?_; clear hA329 a328
   have hd332 : (biasE b i) = 2 := (biasE_2 hc (by assumption))
   rw [decide_eq_true hd332] at hA331
   refine st hA331 (op_move rfl (hA331.ev rfl)) rfl rfl (by decide) fun a333 hA334 => ?_; clear hA331 a330
   refine stg hA334 (op_loadA rfl ty_30 (hA334.ev rfl) (hS210.bk 4 rfl) (l := [(Value.int .i64 ((biasR b i).1)), (Value.int .i64 ((biasR b i).2))]) rfl rfl) rfl rfl rfl rfl (by decide) fun a335 hA336 => ?_; clear hA334 a333
   refine stg hA336 (op_build rfl pv0 bd_30_) rfl rfl rfl rfl (by decide) fun a337 hA338 => ?_; clear hA336 a335
   refine stg hA338 (op_eqlP tw_30 rfl (hA338.ev rfl) (hA338.ev rfl)) rfl rfl rfl rfl (by decide) fun a339 hA340 => ?_; clear hA338 a337
   have hd341 : (decide ((((biasR b i).1) : Int) = 0) && decide ((((biasR b i).2) : Int) = 0)) = true := (by rw [show biasR b i = _ from by first | exact biasR_n (by rw [(biasE_2 hc (by assumption))]; decide) | exact biasR_n (by rw [(biasE_11 hc (by assumption) (by assumption))]; decide) | exact biasR_y (biasE_0 hc (by assumption) (by assumption))]; simp)
   rw [hd341] at hA340
   have hq342 := hd341; simp only [Bool.and_eq_true, Bool.and_eq_false_iff, decide_eq_true_eq, decide_eq_false_iff_not] at hq342
   refine st hA340 (op_pick_t rfl (hA340.ev rfl) (hA340.ev rfl)) rfl rfl (by decide) fun a343 hA344 => ?_; clear hA340 a339
   refine st hA344 (op_move rfl (hA344.ev rfl)) rfl rfl (by decide) fun a345 hA346 => ?_; clear hA344 a343
   refine stwg hA346 (op_call rfl en_17 ev0 (awake_ok _)) rfl rfl rfl rfl (by decide) ?_
   rintro a347 _ w349 ⟨rfl, hE350⟩ hA348; have hS351 := hS210.step hE350; clear hE350 hA346 hS210 a345
   refine st hA348 (op_pick_t rfl (hA348.ev rfl) (hA348.ev rfl)) rfl rfl (by decide) fun a352 hA353 => ?_; clear hA348 a347
   refine st hA353 (op_assign rfl (hA353.ev rfl)) rfl rfl (by decide) fun a354 hA355 => ?_; clear hA353 a352
   refine wl_nil ?_
   refine then_n ?_
   refine c_ret ?_
   refine then_ret ?_
   refine fin_run hA355 (.inl rfl) (run_results1 hA355 rfl (.tmp rfl)) ?_
   exact ⟨rfl, hS351.ext⟩
theorem HardBiases_ok (b : BookD) (vt vm : Value) (lr lb lk : Nat → Value) (w : World) (hT : TabsAt w vt lr lb b.tabs) (hM : MacsAt w vm lk b.macs) (i : Int) : Calls Try.prog 10 #[.agg #[.int .i64 b.scales, vt, vm], .int .i64 i] w (Ret fun v w' => v = .bool true ∧ Ext NoB w w') := by
 rcases Bool.eq_false_or_eq_true (thinF b 0) with hf | hf
 ·by_cases hc : checkF b = 0
  ·exact HardBiases_c b vt vm lr lb lk w hT hM i hf hc
  ·exact HardBiases_b b vt vm lr lb lk w hT hM i hf hc
 ·exact HardBiases_a b vt vm lr lb lk w hT hM i hf
end Go.Proofs.Ytohgladndklciaa
