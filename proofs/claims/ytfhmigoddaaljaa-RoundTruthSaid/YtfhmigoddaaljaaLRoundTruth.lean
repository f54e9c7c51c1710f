/-
  Walks through the functions of the seat, printed by a program of ours (gowalk), a theorem a function: what the call returns and what it leaves in memory.
-/
import Derived.Test.YtfhmigoddaaljaaFi
import Derived.Test.YtfhmigoddaaljaaPlain
set_option linter.unusedSimpArgs false
set_option linter.unusedVariables false
namespace Go.Proofs.Ytfhmigoddaaljaa
open Go.RowKit Go.Shelf Go.Eng
set_option maxHeartbeats 4000000 in
theorem RoundTruth_a (rl rs rb : Value) (rlv : List Value) (d : RD) (w : World) (hR : RoundAt w rl rs rb rlv d) (wv : Value) (ws : List Int) (hws : SlAt w wv 1 ws.length (ws.map (Value.int .u16))) (hww : ∀ x ∈ ws, 0 ≤ x ∧ x ≤ 65535) (x : Nat) (hxb : x < 256) (sh : Int) (hsb : -32768 ≤ sh ∧ sh ≤ 32767) (hf : readyB d = false) :
  Calls Try.prog 15 #[(Value.agg #[rl, rs, (Value.int .i64 d.spread), rb]), wv, (Value.int .u8 (x : Int)), (Value.int .i16 sh)] w (Ret fun v w' => v = .bool true ∧ Ext NoB w w') := by
 refine calls_enter Try.func15 rfl fun a0 hA0 => ?_
 replace hA0 : Fr 151 [] [(0, (Value.agg #[rl, rs, (Value.int .i64 d.spread), rb])), (1, wv), (2, (Value.int .u8 (x : Int))), (3, (Value.int .i16 sh))] a0 := hA0
 have hS0 : Sep NoB w w [(sl wv 1 ws.length (ws.map (Value.int .u16))), (rndR false rl rs rb rlv d)] := sep_ro ⟨rfl, hws, rfl, hR, trivial⟩
 refine c_seq ?_
 refine c_region ?_
 refine stw hA0 (op_box hS0 rfl (hA0.ev rfl) (cs := [rl, rs, (Value.int .i64 d.spread), rb]) rfl) rfl rfl (by decide) ?_
 rintro a1 _ w3 ⟨b4, rfl, hS5⟩ hA2; clear hA0 hS0 a0
 refine st hA2 (op_assign rfl (evc _ _)) rfl rfl (by decide) fun a6 hA7 => ?_; clear hA2 a1
 refine wl_nil ?_
 refine then_n ?_
 refine c_seq ?_
 refine c_seq ?_
 refine c_region ?_
 refine st hA7 (op_loadA rfl ty_26 (hA7.ev rfl) (hS5.bk 0 rfl) (l := [rl, rs, (Value.int .i64 d.spread), rb]) rfl rfl) rfl rfl (by decide) fun a8 hA9 => ?_; clear hA7 a6
 refine stw hA9 (op_call rfl en_35 (ev1 (hA9.ev rfl)) (ready_ok rl rs rb rlv d _ (rnd_at (hS5.ok 2 _ rfl)))) rfl rfl (by decide) ?_
 rintro a10 _ w12 ⟨rfl, hE13⟩ hA11; have hS14 := hS5.step hE13; clear hE13 hA9 hS5 a8
 rw [hf] at hA11
 refine st hA11 (op_not rfl (hA11.ev rfl)) rfl rfl (by decide) fun a15 hA16 => ?_; clear hA11 a10
 refine wl_nil ?_
 refine then_n ?_
 refine c_true hA16 rfl ?_
 refine c_seq ?_
 have hA17 := hA16.as [] rfl; clear hA16
 refine c_region ?_
 refine stw hA17 (op_call rfl en_18 ev0 (wakes_ok _)) rfl rfl (by decide) ?_
 rintro a18 _ w20 ⟨rfl, hE21⟩ hA19; have hS22 := hS14.step hE21; clear hE21 hA17 hS14 a15
 refine st hA19 (op_assign rfl (hA19.ev rfl)) rfl rfl (by decide) fun a23 hA24 => ?_; clear hA19 a18
 refine wl_nil ?_
 refine then_n ?_
 refine c_ret ?_
 refine then_ret ?_
 refine fin_run hA24 (.inl rfl) (run_results1 hA24 rfl (.tmp rfl)) ?_
 exact ⟨rfl, hS22.ext⟩

set_option maxHeartbeats 4000000 in
theorem RoundTruth_b (rl rs rb : Value) (rlv : List Value) (d : RD) (w : World) (hR : RoundAt w rl rs rb rlv d) (wv : Value) (ws : List Int) (hws : SlAt w wv 1 ws.length (ws.map (Value.int .u16))) (hww : ∀ x ∈ ws, 0 ≤ x ∧ x ≤ 65535) (x : Nat) (hxb : x < 256) (sh : Int) (hsb : -32768 ≤ sh ∧ sh ≤ 32767) (hf : readyB d = true) (he : explainsF (madeD d ws (trueF d ws d.samples.length) x sh) (chosenF d.tols.length x) = (true, 0)) (S1 : List (Int × Int)) (hs1 : spansR (madeD d ws (trueF d ws d.samples.length) x sh) (chosenF d.tols.length x) = (S1, 0)) (hl1 : S1.length = d.samples.length) (hb : ∀ k, k < d.samples.length → (S1.getD k (0, 0)).1 ≤ trueAt d ws k ∧ trueAt d ws k ≤ (S1.getD k (0, 0)).2) (Ls : List Int) (hl : leastR (madeD d ws (trueF d ws d.samples.length) x sh) = (Ls, 0)) (hle : Ls.length ≤ (chosenF d.tols.length x).length) (C : List Int) (cc : Int) (hcv : convR (madeD d ws (trueF d ws d.samples.length) x sh) = (C, cc)) (hcc : cc = 0 ∨ cc = 7) (hcl : C.length ≤ 6) (hin : Ls.length = (chosenF d.tols.length x).length → ∀ i, i < C.length → hasB (chosenF d.tols.length x) (C.getD i 0) = true) :
  Calls Try.prog 15 #[(Value.agg #[rl, rs, (Value.int .i64 d.spread), rb]), wv, (Value.int .u8 (x : Int)), (Value.int .i16 sh)] w (Ret fun v w' => v = .bool true ∧ Ext NoB w w') := by
 refine calls_enter Try.func15 rfl fun a0 hA0 => ?_
 replace hA0 : Fr 151 [] [(0, (Value.agg #[rl, rs, (Value.int .i64 d.spread), rb])), (1, wv), (2, (Value.int .u8 (x : Int))), (3, (Value.int .i16 sh))] a0 := hA0
 have hth := thin_of (ready_of hf).1; have hc := (ready_of hf).2; have hV := valid_of hc; have hnb := hV.nb; have hns := hV.ns; have hnl := hV.nl; have htl := trueF_len d ws d.samples.length; have hchl := chosenF_len d.tols.length x
 have hS0 : Sep NoB w w [(sl wv 1 ws.length (ws.map (Value.int .u16))), (rndR false rl rs rb rlv d)] := sep_ro ⟨rfl, hws, rfl, hR, trivial⟩
 refine c_seq ?_
 refine c_region ?_
 refine stw hA0 (op_box hS0 rfl (hA0.ev rfl) (cs := [rl, rs, (Value.int .i64 d.spread), rb]) rfl) rfl rfl (by decide) ?_
 rintro a1 _ w3 ⟨b4, rfl, hS5⟩ hA2; clear hA0 hS0 a0
 refine st hA2 (op_assign rfl (evc _ _)) rfl rfl (by decide) fun a6 hA7 => ?_; clear hA2 a1
 refine wl_nil ?_
 refine then_n ?_
 refine c_seq ?_
 refine c_seq ?_
 refine c_region ?_
 refine st hA7 (op_loadA rfl ty_26 (hA7.ev rfl) (hS5.bk 0 rfl) (l := [rl, rs, (Value.int .i64 d.spread), rb]) rfl rfl) rfl rfl (by decide) fun a8 hA9 => ?_; clear hA7 a6
 refine stw hA9 (op_call rfl en_35 (ev1 (hA9.ev rfl)) (ready_ok rl rs rb rlv d _ (rnd_at (hS5.ok 2 _ rfl)))) rfl rfl (by decide) ?_
 rintro a10 _ w12 ⟨rfl, hE13⟩ hA11; have hS14 := hS5.step hE13; clear hE13 hA9 hS5 a8
 rw [hf] at hA11
 refine st hA11 (op_not rfl (hA11.ev rfl)) rfl rfl (by decide) fun a15 hA16 => ?_; clear hA11 a10
 refine wl_nil ?_
 refine then_n ?_
 refine c_false hA16 rfl ?_
 refine c_skip ?_
 refine then_n ?_
 refine c_seq ?_
 refine c_region ?_
 refine st hA16 (op_loadA rfl ty_26 (hA16.ev rfl) (hS14.bk 0 rfl) (l := [rl, rs, (Value.int .i64 d.spread), rb]) rfl rfl) rfl rfl (by decide) fun a17 hA18 => ?_; clear hA16 a15
 refine st hA18 (op_move rfl (hA18.ev rfl)) rfl rfl (by decide) fun a19 hA20 => ?_; clear hA18 a17
 refine st hA20 (op_move rfl (hA20.ev rfl)) rfl rfl (by decide) fun a21 hA22 => ?_; clear hA20 a19
 refine st hA22 (op_move rfl (hA22.ev rfl)) rfl rfl (by decide) fun a23 hA24 => ?_; clear hA22 a21
 refine st hA24 (op_conv un_69 un_3 rfl (hA24.ev rfl) (v := sh) (wrap_i64 (by omega) (by omega))) rfl rfl (by decide) fun a25 hA26 => ?_; clear hA24 a23
 refine stw hA26 (op_call rfl en_37 (ev4 (hA26.ev rfl) (hA26.ev rfl) (hA26.ev rfl) (hA26.ev rfl)) (Read_ok rl rs rb rlv d _ (rnd_at (hS14.ok 2 _ rfl)) _ ws (hS14.sk 1 rfl) hww x sh hV (by omega))) rfl rfl (by decide) ?_
 rintro a27 _ w29 ⟨vb30, lv31, rfl, hT32⟩ hA28; have hS33 := hS14.callS hT32 rfl; clear hT32 hA26 hS14 a25
 have hll_lv31 := hS33.lst_len 1 rfl; have hrl_lv31 : (madeD d ws (trueF d ws d.samples.length) x sh).rds.length = d.tols.length := by simp [madeD]
 refine stw hA28 (op_alloc hS33 rfl ze_26 (cs := [(Value.slice none 0 0), (Value.slice none 0 0), (Value.int .i64 0), (Value.slice none 0 0)]) rfl) rfl rfl (by decide) ?_
 rintro a34 _ w36 ⟨b37, rfl, hS38⟩ hA35; clear hA28 hS33 a27
 refine sts hA35 (op_store hS38 rfl ty_26 (hA35.ev rfl) (hA35.ev rfl) (i := 0) rfl (vs := [rl, rs, (Value.int .i64 d.spread), vb30]) rfl rfl (all_c (SlAt.one (rnd_at (hS38.ok 5 _ rfl)).lots) (all_c (SlAt.one (rnd_at (hS38.ok 5 _ rfl)).samples) (all_c rfl (all_c (SlAt.one (SlAt.of_row (hS38.ok_row 1 rfl))) all_n)))) (Nat.le_of_ble_eq_true rfl)) rfl rfl ?_
 intro _ w39 hS40 hA41; clear hA35
 have hS42 : Sep NoB w w39 [(blk b37 26 [rl, rs, (Value.int .i64 d.spread), vb30]), (row vb30 62 2 d.tols.length (vpairs (d.tols.zip lv31))), (lstR lv31 (madeD d ws (trueF d ws d.samples.length) x sh).rds), (blk b4 26 [rl, rs, (Value.int .i64 d.spread), rb]), (sl wv 1 ws.length (ws.map (Value.int .u16))), (rndR false rl rs rb rlv d)] := hS40; clear hS40 hS38
 refine wl_nil ?_
 refine then_n ?_
 refine c_seq ?_
 have hA43 := hA41.as [(9, (bptr b37 0)), (4, (bptr b4 0)), (1, wv), (2, (Value.int .u8 (x : Int)))] rfl; clear hA41
 have hA44 := hA43.as [(9, (bptr b37 0)), (4, (bptr b4 0)), (1, wv), (2, (Value.int .u8 (x : Int)))] rfl; clear hA43
 refine c_drawV mixed hA44 hS42 5 [[], [], [0, 1], [], []] [(fun (vs45 : Nat → Value) (v_ : Value) (rs_ : List Res) => v_ = (Value.agg #[rl, rs, (Value.int .i64 d.spread), rb]) ∧ rs_ = []), (fun (vs45 : Nat → Value) (v_ : Value) (rs_ : List Res) => v_ = (Value.int .u8 (x : Int)) ∧ rs_ = []), (fun (vs45 : Nat → Value) (v_ : Value) (rs_ : List Res) => True ∧ rs_ = [(row v_ 3 1 ((chosenF d.tols.length x).length) (ints (chosenF d.tols.length x)))]), (fun (vs45 : Nat → Value) (v_ : Value) (rs_ : List Res) => v_ = (Value.agg #[rl, rs, (Value.int .i64 d.spread), rb]) ∧ rs_ = []), (fun (vs45 : Nat → Value) (v_ : Value) (rs_ : List Res) => v_ = wv ∧ rs_ = [])] (by decide +kernel) (by decide +kernel) rfl rfl ⟨(fun _ _ _ _ _ h_ => h_), (fun _ _ _ _ _ h_ => h_), (fun _ _ _ _ _ h_ => h_), (fun _ _ _ _ _ h_ => h_), (fun _ _ _ _ _ h_ => h_), trivial⟩ ?_ ?_
 ·skip
  refine ⟨fun a w vs45 hA hS hd => ?_, ?_⟩
  ·skip
   exact opG_of rfl (vv (op_loadA rfl ty_26 (hA.ev rfl) (hS.bk 3 rfl) (l := [rl, rs, (Value.int .i64 d.spread), rb]) rfl rfl) (And.intro rfl rfl))
  refine ⟨fun a w vs45 hA hS hd => ?_, ?_⟩
  ·skip
   exact opG_of rfl (vv (op_move rfl (hA.ev rfl)) (And.intro rfl rfl))
  refine ⟨fun a w vs45 hA hS hd => ?_, ?_⟩
  ·skip
   obtain ⟨e0, rs0, hy0, hp0⟩ := hd 0 (by decide)
   obtain ⟨hv0, hr0⟩ := hy0; subst hr0
   rw [hv0] at e0
   obtain ⟨e1, rs1, hy1, hp1⟩ := hd 1 (by decide)
   obtain ⟨hv1, hr1⟩ := hy1; subst hr1
   rw [hv1] at e1
   exact opG_of rfl (vn (op_call rfl en_36 (ev2 (tmp_ev (slot_ev e0 rfl)) (tmp_ev (slot_ev e1 rfl))) (chosen_ok rl rs rb rlv d _ (rnd_at (hS.ok 5 _ rfl)) x (by omega))) (fun v w' h => ⟨_, And.intro trivial rfl, (Sep.start NoB _).new_row h.1 h.2, rfl⟩))
  refine ⟨fun a w vs45 hA hS hd => ?_, ?_⟩
  ·skip
   exact opG_of rfl (vv (op_loadA rfl ty_26 (hA.ev rfl) (hS.bk 3 rfl) (l := [rl, rs, (Value.int .i64 d.spread), rb]) rfl rfl) (And.intro rfl rfl))
  refine ⟨fun a w vs45 hA hS hd => ?_, ?_⟩
  ·skip
   exact opG_of rfl (vv (op_move rfl (hA.ev rfl)) (And.intro rfl rfl))
  trivial
 intro a46 w47 vs45 rsf51 hA48 hH50 hS49; clear hA44 hS42
 obtain ⟨hs_0, hy_0⟩ := hH50 0 (by decide)
 obtain ⟨hv_0, hr_0⟩ := hy_0
 obtain ⟨hs_1, hy_1⟩ := hH50 1 (by decide)
 obtain ⟨hv_1, hr_1⟩ := hy_1
 obtain ⟨hs_2, hy_2⟩ := hH50 2 (by decide)
 obtain ⟨hv_2, hr_2⟩ := hy_2
 obtain ⟨hs_3, hy_3⟩ := hH50 3 (by decide)
 obtain ⟨hv_3, hr_3⟩ := hy_3
 obtain ⟨hs_4, hy_4⟩ := hH50 4 (by decide)
 obtain ⟨hv_4, hr_4⟩ := hy_4
 have hS52 : Sep NoB w w47 [(row (vs45 2) 3 1 ((chosenF d.tols.length x).length) (ints (chosenF d.tols.length x))), (blk b37 26 [rl, rs, (Value.int .i64 d.spread), vb30]), (row vb30 62 2 d.tols.length (vpairs (d.tols.zip lv31))), (lstR lv31 (madeD d ws (trueF d ws d.samples.length) x sh).rds), (blk b4 26 [rl, rs, (Value.int .i64 d.spread), rb]), (sl wv 1 ws.length (ws.map (Value.int .u16))), (rndR false rl rs rb rlv d)] := by rw [show catR rsf51 0 5 = ([(row (vs45 2) 3 1 ((chosenF d.tols.length x).length) (ints (chosenF d.tols.length x)))] : List Res) by (try simp only [catR, hr_0, hr_1, hr_2, hr_3, hr_4]); (try rfl)] at hS49; exact hS49
 have hA53 : Fr 151 [] [(34, (vs45 2)), (9, (bptr b37 0)), (4, (bptr b4 0)), (1, wv), (2, (Value.int .u8 (x : Int)))] a46 := hA48.add (slot_ev hs_2 rfl); clear hA48
 rw [hv_3] at hs_3
 have hA54 : Fr 151 [] [(35, (Value.agg #[rl, rs, (Value.int .i64 d.spread), rb])), (34, (vs45 2)), (9, (bptr b37 0)), (4, (bptr b4 0)), (1, wv), (2, (Value.int .u8 (x : Int)))] a46 := hA53.add (slot_ev hs_3 rfl); clear hA53
 rw [hv_4] at hs_4
 have hA55 : Fr 151 [] [(36, wv), (35, (Value.agg #[rl, rs, (Value.int .i64 d.spread), rb])), (34, (vs45 2)), (9, (bptr b37 0)), (4, (bptr b4 0)), (1, wv), (2, (Value.int .u8 (x : Int)))] a46 := hA54.add (slot_ev hs_4 rfl); clear hA54
 clear hH50 hS49 hs_0 hs_1 hs_2 hs_3 hs_4
 clear hr_0
 clear hv_0
 clear hr_1
 clear hv_1
 clear hr_2
 clear hv_2
 clear hr_3
 clear hv_3
 clear hr_4
 clear hv_4
 refine stw hA55 (op_call rfl en_41 (ev2 (hA55.ev rfl) (hA55.ev rfl)) (True_ok rl rs rb rlv d _ (rnd_at (hS52.ok 6 _ rfl)) _ ws (hS52.sk 5 rfl) hww hV)) rfl rfl (by decide) ?_
 rintro a56 v62 w58 ⟨hE59, hO60⟩ hA57; have hS61 := hS52.new_row hE59 hO60; clear hE59 hO60 hA55 hS52 a46
 refine st hA57 (op_assign rfl (hA57.ev rfl)) rfl rfl (by decide) fun a63 hA64 => ?_; clear hA57 a56
 refine st hA64 (op_assign rfl (hA64.ev rfl)) rfl rfl (by decide) fun a65 hA66 => ?_; clear hA64 a63
 refine wl_nil ?_
 refine then_n ?_
 refine c_seq ?_
 have hA67 := hA66.as [(11, v62), (10, (vs45 2)), (9, (bptr b37 0))] rfl; clear hA66
 refine c_region ?_
 refine st hA67 (op_loadA rfl ty_26 (hA67.ev rfl) (hS61.bk 2 rfl) (l := [rl, rs, (Value.int .i64 d.spread), vb30]) rfl rfl) rfl rfl (by decide) fun a68 hA69 => ?_; clear hA67 a65
 refine stw hA69 (op_call rfl en_20 (ev1 (hA69.ev rfl)) (Round_ok rl rs vb30 lv31 (madeD d ws (trueF d ws d.samples.length) x sh) _ (show RoundAt _ rl rs vb30 lv31 (madeD d ws (trueF d ws d.samples.length) x sh) from ⟨(rnd_at (hS61.ok 7 _ rfl)).lots, (rnd_at (hS61.ok 7 _ rfl)).samples, SlAt.of_row (hS61.ok_row 3 rfl), (hS61.lst_at 4 rfl).2, hll_lv31.trans hrl_lv31, hrl_lv31⟩) (made_thin hV))) rfl rfl (by decide) ?_
 rintro a70 _ w72 ⟨vl73, vs74, vb75, lv76, rfl, hT77⟩ hA71; have hS78 := hS61.callS hT77 rfl; clear hT77 hA69 hS61 a68
 refine st hA71 (op_move rfl (hA71.ev rfl)) rfl rfl (by decide) fun a79 hA80 => ?_; clear hA71 a70
 refine stw hA80 (op_call rfl en_22 (ev1 (hA80.ev rfl)) (list_ok (chosenF d.tols.length x) _ _ (SlAt.of_row (hS78.ok_row 2 rfl)) (Nat.le_trans (chosenF_len _ _) (by omega)))) rfl rfl (by decide) ?_
 rintro a81 v87 w83 ⟨hE84, hO85⟩ hA82; have hS86 := hS78.new_row hE84 hO85; clear hE84 hO85 hA80 hS78 a79
 refine stw hA82 (op_call rfl en_21 (ev2 (hA82.ev rfl) (hA82.ev rfl)) (by have h := (explains_ok vl73 vs74 vb75 lv76 (madeD d ws (trueF d ws d.samples.length) x sh) _ (rnd_at (hS86.ok 1 _ rfl)) _ (chosenF d.tols.length x) (SlAt.of_row (hS86.ok_row 0 rfl)) (Nat.le_trans (chosenF_len _ _) (by omega))); rw [he] at h; exact h)) rfl rfl (by decide) ?_
 rintro a88 _ w90 ⟨rfl, hE91⟩ hA89; have hS92 := hS86.step hE91; clear hE91 hA82 hS86 a81
 refine st hA89 (op_move rfl (hA89.ev rfl)) rfl rfl (by decide) fun a93 hA94 => ?_; clear hA89 a88
 refine st hA94 (op_extract rfl (hA94.ev rfl) rfl) rfl rfl (by decide) fun a95 hA96 => ?_; clear hA94 a93
 refine st hA96 (op_extract rfl (hA96.ev rfl) rfl) rfl rfl (by decide) fun a97 hA98 => ?_; clear hA96 a95
 refine st hA98 (op_assign rfl (hA98.ev rfl)) rfl rfl (by decide) fun a99 hA100 => ?_; clear hA98 a97
 refine st hA100 (op_assign rfl (hA100.ev rfl)) rfl rfl (by decide) fun a101 hA102 => ?_; clear hA100 a99
 refine wl_nil ?_
 refine then_n ?_
 refine c_seq ?_
 have hA103 := hA102.as [(13, (Value.int .i64 0)), (12, (Value.bool true)), (11, v62), (10, (vs45 2)), (9, (bptr b37 0))] rfl; clear hA102
 refine c_region ?_
 refine st hA103 (op_loadA rfl ty_26 (hA103.ev rfl) (hS92.bk 4 rfl) (l := [rl, rs, (Value.int .i64 d.spread), vb30]) rfl rfl) rfl rfl (by decide) fun a104 hA105 => ?_; clear hA103 a101
 refine stw hA105 (op_call rfl en_20 (ev1 (hA105.ev rfl)) (Round_ok rl rs vb30 lv31 (madeD d ws (trueF d ws d.samples.length) x sh) _ (show RoundAt _ rl rs vb30 lv31 (madeD d ws (trueF d ws d.samples.length) x sh) from ⟨(rnd_at (hS92.ok 9 _ rfl)).lots, (rnd_at (hS92.ok 9 _ rfl)).samples, SlAt.of_row (hS92.ok_row 5 rfl), (hS92.lst_at 6 rfl).2, hll_lv31.trans hrl_lv31, hrl_lv31⟩) (made_thin hV))) rfl rfl (by decide) ?_
 rintro a106 _ w108 ⟨vl109, vs110, vb111, lv112, rfl, hT113⟩ hA107; have hS114 := hS92.callS hT113 rfl; clear hT113 hA105 hS92 a104
 refine st hA107 (op_move rfl (hA107.ev rfl)) rfl rfl (by decide) fun a115 hA116 => ?_; clear hA107 a106
 refine stw hA116 (op_call rfl en_22 (ev1 (hA116.ev rfl)) (list_ok (chosenF d.tols.length x) _ _ (SlAt.of_row (hS114.ok_row 4 rfl)) (Nat.le_trans (chosenF_len _ _) (by omega)))) rfl rfl (by decide) ?_
 rintro a117 v123 w119 ⟨hE120, hO121⟩ hA118; have hS122 := hS114.new_row hE120 hO121; clear hE120 hO121 hA116 hS114 a115
 refine stw hA118 (op_call rfl en_26 (ev2 (hA118.ev rfl) (hA118.ev rfl)) (by have h := (spansE_ok vl109 vs110 vb111 lv112 (madeD d ws (trueF d ws d.samples.length) x sh) _ (rnd_at (hS122.ok 1 _ rfl)) _ (chosenF d.tols.length x) (SlAt.of_row (hS122.ok_row 0 rfl)) (Nat.le_trans (chosenF_len _ _) (by omega))); rw [hs1] at h; exact h)) rfl rfl (by decide) ?_
 rintro a124 _ w126 ⟨u130, rfl, hE127, hO128⟩ hA125; have hS129 := hS122.new_row hE127 hO128; clear hE127 hO128 hA118 hS122 a117
 refine st hA125 (op_move rfl (hA125.ev rfl)) rfl rfl (by decide) fun a131 hA132 => ?_; clear hA125 a124
 refine st hA132 (op_extract rfl (hA132.ev rfl) rfl) rfl rfl (by decide) fun a133 hA134 => ?_; clear hA132 a131
 refine st hA134 (op_extract rfl (hA134.ev rfl) rfl) rfl rfl (by decide) fun a135 hA136 => ?_; clear hA134 a133
 refine st hA136 (op_assign rfl (hA136.ev rfl)) rfl rfl (by decide) fun a137 hA138 => ?_; clear hA136 a135
 refine st hA138 (op_assign rfl (hA138.ev rfl)) rfl rfl (by decide) fun a139 hA140 => ?_; clear hA138 a137
 refine wl_nil ?_
 refine then_n ?_
 refine c_seq ?_
 have hA141 := hA140.as [(15, (Value.int .i64 0)), (14, u130), (13, (Value.int .i64 0)), (12, (Value.bool true)), (11, v62), (10, (vs45 2)), (9, (bptr b37 0))] rfl; clear hA140
 refine c_region ?_
 refine st hA141 (op_loadA rfl ty_26 (hA141.ev rfl) (hS129.bk 7 rfl) (l := [rl, rs, (Value.int .i64 d.spread), vb30]) rfl rfl) rfl rfl (by decide) fun a142 hA143 => ?_; clear hA141 a139
 refine stw hA143 (op_call rfl en_20 (ev1 (hA143.ev rfl)) (Round_ok rl rs vb30 lv31 (madeD d ws (trueF d ws d.samples.length) x sh) _ (show RoundAt _ rl rs vb30 lv31 (madeD d ws (trueF d ws d.samples.length) x sh) from ⟨(rnd_at (hS129.ok 12 _ rfl)).lots, (rnd_at (hS129.ok 12 _ rfl)).samples, SlAt.of_row (hS129.ok_row 8 rfl), (hS129.lst_at 9 rfl).2, hll_lv31.trans hrl_lv31, hrl_lv31⟩) (made_thin hV))) rfl rfl (by decide) ?_
 rintro a144 _ w146 ⟨vl147, vs148, vb149, lv150, rfl, hT151⟩ hA145; have hS152 := hS129.callS hT151 rfl; clear hT151 hA143 hS129 a142
 refine stw hA145 (op_call rfl en_29 (ev1 (hA145.ev rfl)) (by have h := (least_fn vl147 vs148 vb149 lv150 (madeD d ws (trueF d ws d.samples.length) x sh) _ (rnd_at (hS152.ok 0 _ rfl))); rw [hl] at h; exact h)) rfl rfl (by decide) ?_
 rintro a153 _ w155 ⟨u158, rfl, hT156⟩ hA154; have hS157 := hS152.callS hT156 rfl; clear hT156 hA145 hS152 a144
 refine st hA154 (op_move rfl (hA154.ev rfl)) rfl rfl (by decide) fun a159 hA160 => ?_; clear hA154 a153
 refine st hA160 (op_extract rfl (hA160.ev rfl) rfl) rfl rfl (by decide) fun a161 hA162 => ?_; clear hA160 a159
 refine st hA162 (op_extract rfl (hA162.ev rfl) rfl) rfl rfl (by decide) fun a163 hA164 => ?_; clear hA162 a161
 refine st hA164 (op_assign rfl (hA164.ev rfl)) rfl rfl (by decide) fun a165 hA166 => ?_; clear hA164 a163
 refine st hA166 (op_assign rfl (hA166.ev rfl)) rfl rfl (by decide) fun a167 hA168 => ?_; clear hA166 a165
 refine wl_nil ?_
 refine then_n ?_
 refine c_seq ?_
 have hA169 := hA168.as [(17, (Value.int .i64 0)), (16, u158), (15, (Value.int .i64 0)), (14, u130), (13, (Value.int .i64 0)), (12, (Value.bool true)), (11, v62), (10, (vs45 2)), (9, (bptr b37 0))] rfl; clear hA168
 refine c_region ?_
 refine st hA169 (op_loadA rfl ty_26 (hA169.ev rfl) (hS157.bk 9 rfl) (l := [rl, rs, (Value.int .i64 d.spread), vb30]) rfl rfl) rfl rfl (by decide) fun a170 hA171 => ?_; clear hA169 a167
 refine stw hA171 (op_call rfl en_20 (ev1 (hA171.ev rfl)) (Round_ok rl rs vb30 lv31 (madeD d ws (trueF d ws d.samples.length) x sh) _ (show RoundAt _ rl rs vb30 lv31 (madeD d ws (trueF d ws d.samples.length) x sh) from ⟨(rnd_at (hS157.ok 14 _ rfl)).lots, (rnd_at (hS157.ok 14 _ rfl)).samples, SlAt.of_row (hS157.ok_row 10 rfl), (hS157.lst_at 11 rfl).2, hll_lv31.trans hrl_lv31, hrl_lv31⟩) (made_thin hV))) rfl rfl (by decide) ?_
 rintro a172 _ w174 ⟨vl175, vs176, vb177, lv178, rfl, hT179⟩ hA173; have hS180 := hS157.callS hT179 rfl; clear hT179 hA171 hS157 a170
 refine stw hA173 (op_call rfl en_38 (ev1 (hA173.ev rfl)) (by have h := (conv_fn vl175 vs176 vb177 lv178 (madeD d ws (trueF d ws d.samples.length) x sh) _ (rnd_at (hS180.ok 0 _ rfl))); rw [hcv] at h; exact h)) rfl rfl (by decide) ?_
 rintro a181 _ w183 ⟨u187, rfl, hE184, hO185⟩ hA182; have hS186 := hS180.new_row hE184 hO185; clear hE184 hO185 hA173 hS180 a172
 refine st hA182 (op_move rfl (hA182.ev rfl)) rfl rfl (by decide) fun a188 hA189 => ?_; clear hA182 a181
 refine st hA189 (op_extract rfl (hA189.ev rfl) rfl) rfl rfl (by decide) fun a190 hA191 => ?_; clear hA189 a188
 refine st hA191 (op_extract rfl (hA191.ev rfl) rfl) rfl rfl (by decide) fun a192 hA193 => ?_; clear hA191 a190
 refine st hA193 (op_assign rfl (hA193.ev rfl)) rfl rfl (by decide) fun a194 hA195 => ?_; clear hA193 a192
 refine st hA195 (op_assign rfl (hA195.ev rfl)) rfl rfl (by decide) fun a196 hA197 => ?_; clear hA195 a194
 refine wl_nil ?_
 refine then_n ?_
 refine c_seq ?_
 refine c_seq ?_
 have hA198 := hA197.as [(19, (Value.int .i64 cc)), (18, u187), (17, (Value.int .i64 0)), (16, u158), (15, (Value.int .i64 0)), (14, u130), (13, (Value.int .i64 0)), (12, (Value.bool true)), (11, v62), (10, (vs45 2))] rfl; clear hA197
 refine c_region ?_
 refine st hA198 (op_move rfl (hA198.ev rfl)) rfl rfl (by decide) fun a199 hA200 => ?_; clear hA198 a196
 refine st hA200 (op_neq rfl (hA200.ev rfl) (evc _ _)) rfl rfl (by decide) fun a201 hA202 => ?_; clear hA200 a199
 refine st hA202 (op_move rfl (hA202.ev rfl)) rfl rfl (by decide) fun a203 hA204 => ?_; clear hA202 a201
 refine stg hA204 (op_move rfl (hA204.ev rfl)) rfl rfl rfl rfl (by decide) fun a205 hA206 => ?_; clear hA204 a203
 refine stg hA206 (op_not rfl (hA206.ev rfl)) rfl rfl rfl rfl (by decide) fun a207 hA208 => ?_; clear hA206 a205
 refine st hA208 (op_pick_f rfl (hA208.ev rfl) (hA208.ev rfl)) rfl rfl (by decide) fun a209 hA210 => ?_; clear hA208 a207
 refine st hA210 (op_move rfl (hA210.ev rfl)) rfl rfl (by decide) fun a211 hA212 => ?_; clear hA210 a209
 refine stg hA212 (op_move rfl (hA212.ev rfl)) rfl rfl rfl rfl (by decide) fun a213 hA214 => ?_; clear hA212 a211
 refine stg hA214 (op_neq rfl (hA214.ev rfl) (evc _ _)) rfl rfl rfl rfl (by decide) fun a215 hA216 => ?_; clear hA214 a213
 refine st hA216 (op_pick_f rfl (hA216.ev rfl) (hA216.ev rfl)) rfl rfl (by decide) fun a217 hA218 => ?_; clear hA216 a215
 refine st hA218 (op_move rfl (hA218.ev rfl)) rfl rfl (by decide) fun a219 hA220 => ?_; clear hA218 a217
 refine stg hA220 (op_move rfl (hA220.ev rfl)) rfl rfl rfl rfl (by decide) fun a221 hA222 => ?_; clear hA220 a219
 refine stg hA222 (op_lenS rfl un_31 (hA222.ev rfl) (SlAt.of_row (hS186.ok_row 4 rfl))) rfl rfl rfl rfl (by decide) fun a223 hA224 => ?_; clear hA222 a221
 refine stg hA224 (op_move rfl (hA224.ev rfl)) rfl rfl rfl rfl (by decide) fun a225 hA226 => ?_; clear hA224 a223
 refine stg hA226 (op_lenS rfl un_23 (hA226.ev rfl) (SlAt.of_row (hS186.ok_row 9 rfl))) rfl rfl rfl rfl (by decide) fun a227 hA228 => ?_; clear hA226 a225
 refine stg hA228 (op_neq rfl (hA228.ev rfl) (hA228.ev rfl)) rfl rfl rfl rfl (by decide) fun a229 hA230 => ?_; clear hA228 a227
 have hd231 : (S1.length : Int) = ((trueF d ws d.samples.length).length : Int) := (by omega)
 rw [decide_eq_true hd231] at hA230
 refine st hA230 (op_pick_f rfl (hA230.ev rfl) (hA230.ev rfl)) rfl rfl (by decide) fun a232 hA233 => ?_; clear hA230 a229
 refine st hA233 (op_move rfl (hA233.ev rfl)) rfl rfl (by decide) fun a234 hA235 => ?_; clear hA233 a232
 refine stg hA235 (op_move rfl (hA235.ev rfl)) rfl rfl rfl rfl (by decide) fun a236 hA237 => ?_; clear hA235 a234
 refine stg hA237 (op_neq rfl (hA237.ev rfl) (evc _ _)) rfl rfl rfl rfl (by decide) fun a238 hA239 => ?_; clear hA237 a236
 refine st hA239 (op_pick_f rfl (hA239.ev rfl) (hA239.ev rfl)) rfl rfl (by decide) fun a240 hA241 => ?_; clear hA239 a238
 refine st hA241 (op_move rfl (hA241.ev rfl)) rfl rfl (by decide) fun a242 hA243 => ?_; clear hA241 a240
 refine stg hA243 (op_move rfl (hA243.ev rfl)) rfl rfl rfl rfl (by decide) fun a244 hA245 => ?_; clear hA243 a242
 refine stg hA245 (op_lenS rfl un_23 (hA245.ev rfl) (show SlAt _ _ _ _ _ from (hS186.ok 2 _ rfl))) rfl rfl rfl rfl (by decide) fun a246 hA247 => ?_; clear hA245 a244
 refine stg hA247 (op_move rfl (hA247.ev rfl)) rfl rfl rfl rfl (by decide) fun a248 hA249 => ?_; clear hA247 a246
 refine stg hA249 (op_lenS rfl un_23 (hA249.ev rfl) (SlAt.of_row (hS186.ok_row 10 rfl))) rfl rfl rfl rfl (by decide) fun a250 hA251 => ?_; clear hA249 a248
 refine stg hA251 (op_gtr rfl (hA251.ev rfl) (hA251.ev rfl)) rfl rfl rfl rfl (by decide) fun a252 hA253 => ?_; clear hA251 a250
 have hd254 : ¬ (((chosenF d.tols.length x).length : Int) < (Ls.length : Int)) := (by omega)
 rw [decide_eq_false hd254] at hA253
 refine st hA253 (op_pick_f rfl (hA253.ev rfl) (hA253.ev rfl)) rfl rfl (by decide) fun a255 hA256 => ?_; clear hA253 a252
 refine st hA256 (op_move rfl (hA256.ev rfl)) rfl rfl (by decide) fun a257 hA258 => ?_; clear hA256 a255
 refine stg hA258 (op_move rfl (hA258.ev rfl)) rfl rfl rfl rfl (by decide) fun a259 hA260 => ?_; clear hA258 a257
 refine stg hA260 (op_neq rfl (hA260.ev rfl) (evc _ _)) rfl rfl rfl rfl (by decide) fun a261 hA262 => ?_; clear hA260 a259
 refine stg hA262 (op_move rfl (hA262.ev rfl)) rfl rfl rfl rfl (by decide) fun a263 hA264 => ?_; clear hA262 a261
 by_cases hb265 : cc = 0
 ·skip
  rw [decide_eq_true hb265] at hA264
  refine skp hA264 rfl rfl rfl rfl rfl (by decide) fun a266 hA267 => ?_; clear hA264 a263
  refine skp hA267 rfl rfl rfl rfl rfl (by decide) fun a268 hA269 => ?_; clear hA267 a266
  refine stg hA269 (op_pick_f rfl (hA269.ev rfl) (evc _ _)) rfl rfl rfl rfl (by decide) fun a270 hA271 => ?_; clear hA269 a268
  refine st hA271 (op_pick_f rfl (hA271.ev rfl) (hA271.ev rfl)) rfl rfl (by decide) fun a272 hA273 => ?_; clear hA271 a270
  refine wl_nil ?_
  refine then_n ?_
  refine c_false hA273 rfl ?_
  refine c_skip ?_
  refine then_n ?_
  refine c_seq ?_
  refine c_seq ?_
  have hA274 := hA273.as [(18, u187), (16, u158), (14, u130), (11, v62), (10, (vs45 2))] rfl; clear hA273
  refine c_region ?_
  refine st hA274 (op_assign rfl (evc _ _)) rfl rfl (by decide) fun a275 hA276 => ?_; clear hA274 a272
  refine wl_nil ?_
  refine then_n ?_
  refine c_block ?_
  have hA277 := hA276.as [(20, (Value.int .i64 0)), (18, u187), (16, u158), (14, u130), (11, v62), (10, (vs45 2))] rfl; clear hA276
  refine c_loop (G := Nat) (fun (k2 : Nat) a_ w_ => Fr 151 [] [(20, (Value.int .i64 (k2 : Int))), (18, u187), (16, u158), (14, u130), (11, v62), (10, (vs45 2))] a_ ∧ Sep NoB w w_ [(row u187 3 1 C.length (ints C)), (rndR true vl175 vs176 vb177 lv178 (madeD d ws (trueF d ws d.samples.length) x sh)), (osl u158 1 Ls.length (ints Ls)), (rndR true vl147 vs148 vb149 lv150 (madeD d ws (trueF d ws d.samples.length) x sh)), (row u130 46 2 S1.length (pairs S1)), (row v123 3 1 ((chosenF d.tols.length x).length) (ints (chosenF d.tols.length x))), (rndR true vl109 vs110 vb111 lv112 (madeD d ws (trueF d ws d.samples.length) x sh)), (row v87 3 1 ((chosenF d.tols.length x).length) (ints (chosenF d.tols.length x))), (rndR true vl73 vs74 vb75 lv76 (madeD d ws (trueF d ws d.samples.length) x sh)), (row v62 3 1 ((trueF d ws d.samples.length).length) (ints (trueF d ws d.samples.length))), (row (vs45 2) 3 1 ((chosenF d.tols.length x).length) (ints (chosenF d.tols.length x))), (blk b37 26 [rl, rs, (Value.int .i64 d.spread), vb30]), (row vb30 62 2 d.tols.length (vpairs (d.tols.zip lv31))), (lstR lv31 (madeD d ws (trueF d ws d.samples.length) x sh).rds), (blk b4 26 [rl, rs, (Value.int .i64 d.spread), rb]), (sl wv 1 ws.length (ws.map (Value.int .u16))), (rndR false rl rs rb rlv d)] ∧ (k2 ≤ S1.length)) (fun k2 => S1.length - k2) 0 ⟨hA277.as _ rfl, hS186, by omega⟩ ?_
  clear hA277 hS186 a275
  rintro k2 a278 w280 ⟨hA279, hS281, hkk2⟩
  refine c_seq ?_
  refine c_seq ?_
  refine c_region ?_
  refine st hA279 (op_move rfl (hA279.ev rfl)) rfl rfl (by decide) fun a282 hA283 => ?_; clear hA279 a278
  refine st hA283 (op_move rfl (hA283.ev rfl)) rfl rfl (by decide) fun a284 hA285 => ?_; clear hA283 a282
  refine st hA285 (op_lenS rfl un_31 (hA285.ev rfl) (SlAt.of_row (hS281.ok_row 4 rfl))) rfl rfl (by decide) fun a286 hA287 => ?_; clear hA285 a284
  refine st hA287 (op_lss rfl (hA287.ev rfl) (hA287.ev rfl)) rfl rfl (by decide) fun a288 hA289 => ?_; clear hA287 a286
  refine wl_nil ?_
  refine then_n ?_
  by_cases hb290 : (k2 : Int) < (S1.length : Int)
  ·skip
   rw [decide_eq_true hb290] at hA289
   refine c_true hA289 rfl ?_
   refine c_skip ?_
   refine then_n ?_
   refine c_seq ?_
   refine c_block ?_
   refine c_seq ?_
   have hA291 := hA289.as [(20, (Value.int .i64 (k2 : Int))), (18, u187), (16, u158), (14, u130), (11, v62), (10, (vs45 2))] rfl; clear hA289
   refine c_drawV mixed hA291 hS281 20 [[], [], [0, 1], [2], [], [], [4, 5], [6], [7], [3, 8], [9], [10], [10], [10, 11, 12], [10, 13], [10], [10], [10, 15, 16], [10, 17], [10, 18]] [(fun (vs292 : Nat → Value) (v_ : Value) (rs_ : List Res) => v_ = v62 ∧ rs_ = []), (fun (vs292 : Nat → Value) (v_ : Value) (rs_ : List Res) => v_ = (Value.int .i64 (k2 : Int)) ∧ rs_ = []), (fun (vs292 : Nat → Value) (v_ : Value) (rs_ : List Res) => v_ = (eptr v62 (k2 * 1)) ∧ rs_ = []), (fun (vs292 : Nat → Value) (v_ : Value) (rs_ : List Res) => v_ = (Value.int .i64 ((trueF d ws d.samples.length).getD k2 0)) ∧ rs_ = []), (fun (vs292 : Nat → Value) (v_ : Value) (rs_ : List Res) => v_ = u130 ∧ rs_ = []), (fun (vs292 : Nat → Value) (v_ : Value) (rs_ : List Res) => v_ = (Value.int .i64 (k2 : Int)) ∧ rs_ = []), (fun (vs292 : Nat → Value) (v_ : Value) (rs_ : List Res) => v_ = (eptr u130 (k2 * 2)) ∧ rs_ = []), (fun (vs292 : Nat → Value) (v_ : Value) (rs_ : List Res) => v_ = (eptr u130 (k2 * 2 + 0)) ∧ rs_ = []), (fun (vs292 : Nat → Value) (v_ : Value) (rs_ : List Res) => v_ = (Value.int .i64 ((S1.getD k2 (0, 0)).1)) ∧ rs_ = []), (fun (vs292 : Nat → Value) (v_ : Value) (rs_ : List Res) => v_ = (Value.bool false) ∧ rs_ = []), (fun (vs292 : Nat → Value) (v_ : Value) (rs_ : List Res) => v_ = (Value.bool false) ∧ rs_ = []), (fun (vs292 : Nat → Value) (v_ : Value) (rs_ : List Res) => v_ = v62 ∧ rs_ = []), (fun (vs292 : Nat → Value) (v_ : Value) (rs_ : List Res) => v_ = (Value.int .i64 (k2 : Int)) ∧ rs_ = []), (fun (vs292 : Nat → Value) (v_ : Value) (rs_ : List Res) => v_ = (eptr v62 (k2 * 1)) ∧ rs_ = []), (fun (vs292 : Nat → Value) (v_ : Value) (rs_ : List Res) => v_ = (Value.int .i64 ((trueF d ws d.samples.length).getD k2 0)) ∧ rs_ = []), (fun (vs292 : Nat → Value) (v_ : Value) (rs_ : List Res) => v_ = u130 ∧ rs_ = []), (fun (vs292 : Nat → Value) (v_ : Value) (rs_ : List Res) => v_ = (Value.int .i64 (k2 : Int)) ∧ rs_ = []), (fun (vs292 : Nat → Value) (v_ : Value) (rs_ : List Res) => v_ = (eptr u130 (k2 * 2)) ∧ rs_ = []), (fun (vs292 : Nat → Value) (v_ : Value) (rs_ : List Res) => v_ = (eptr u130 (k2 * 2 + 1)) ∧ rs_ = []), (fun (vs292 : Nat → Value) (v_ : Value) (rs_ : List Res) => v_ = (Value.int .i64 ((S1.getD k2 (0, 0)).2)) ∧ rs_ = [])] (by decide +kernel) (by decide +kernel) rfl rfl ⟨(fun _ _ _ _ _ h_ => h_), (fun _ _ _ _ _ h_ => h_), (fun _ _ _ _ _ h_ => h_), (fun _ _ _ _ _ h_ => h_), (fun _ _ _ _ _ h_ => h_), (fun _ _ _ _ _ h_ => h_), (fun _ _ _ _ _ h_ => h_), (fun _ _ _ _ _ h_ => h_), (fun _ _ _ _ _ h_ => h_), (fun _ _ _ _ _ h_ => h_), (fun _ _ _ _ _ h_ => h_), (fun _ _ _ _ _ h_ => h_), (fun _ _ _ _ _ h_ => h_), (fun _ _ _ _ _ h_ => h_), (fun _ _ _ _ _ h_ => h_), (fun _ _ _ _ _ h_ => h_), (fun _ _ _ _ _ h_ => h_), (fun _ _ _ _ _ h_ => h_), (fun _ _ _ _ _ h_ => h_), (fun _ _ _ _ _ h_ => h_), trivial⟩ ?_ ?_
   ·skip
    refine ⟨fun a w vs292 hA hS hd => ?_, ?_⟩
    ·skip
     exact opG_of rfl (vv (op_move rfl (hA.ev rfl)) (And.intro rfl rfl))
    refine ⟨fun a w vs292 hA hS hd => ?_, ?_⟩
    ·skip
     exact opG_of rfl (vv (op_move rfl (hA.ev rfl)) (And.intro rfl rfl))
    refine ⟨fun a w vs292 hA hS hd => ?_, ?_⟩
    ·skip
     obtain ⟨e0, rs0, hy0, hp0⟩ := hd 0 (by decide)
     obtain ⟨hv0, hr0⟩ := hy0; subst hr0
     rw [hv0] at e0
     obtain ⟨e1, rs1, hy1, hp1⟩ := hd 1 (by decide)
     obtain ⟨hv1, hr1⟩ := hy1; subst hr1
     rw [hv1] at e1
     exact opG_of rfl (vv (op_indexS rfl un_23 ty_3 (tmp_ev (slot_ev e0 rfl)) (i := k2) (tmp_ev (slot_ev e1 rfl)) (SlAt.of_row (hS.ok_row 9 rfl)) (by decide) (by omega)) (And.intro rfl rfl))
    refine ⟨fun a w vs292 hA hS hd => ?_, ?_⟩
    ·skip
     obtain ⟨e2, rs2, hy2, hp2⟩ := hd 2 (by decide)
     obtain ⟨hv2, hr2⟩ := hy2; subst hr2
     rw [hv2] at e2
     exact opG_of rfl (vv (op_load1E rfl ty_3 (tmp_ev (slot_ev e2 rfl)) (SlAt.of_row (hS.ok_row 9 rfl)) (ints_at (by omega))) (And.intro rfl rfl))
    refine ⟨fun a w vs292 hA hS hd => ?_, ?_⟩
    ·skip
     exact opG_of rfl (vv (op_move rfl (hA.ev rfl)) (And.intro rfl rfl))
    refine ⟨fun a w vs292 hA hS hd => ?_, ?_⟩
    ·skip
     exact opG_of rfl (vv (op_move rfl (hA.ev rfl)) (And.intro rfl rfl))
    refine ⟨fun a w vs292 hA hS hd => ?_, ?_⟩
    ·skip
     obtain ⟨e4, rs4, hy4, hp4⟩ := hd 4 (by decide)
     obtain ⟨hv4, hr4⟩ := hy4; subst hr4
     rw [hv4] at e4
     obtain ⟨e5, rs5, hy5, hp5⟩ := hd 5 (by decide)
     obtain ⟨hv5, hr5⟩ := hy5; subst hr5
     rw [hv5] at e5
     exact opG_of rfl (vv (op_indexS rfl un_31 ty_46 (tmp_ev (slot_ev e4 rfl)) (i := k2) (tmp_ev (slot_ev e5 rfl)) (SlAt.of_row (hS.ok_row 4 rfl)) (by decide) (by omega)) (And.intro rfl rfl))
    refine ⟨fun a w vs292 hA hS hd => ?_, ?_⟩
    ·skip
     obtain ⟨e6, rs6, hy6, hp6⟩ := hd 6 (by decide)
     obtain ⟨hv6, hr6⟩ := hy6; subst hr6
     rw [hv6] at e6
     exact opG_of rfl (vv (op_fieldS rfl fd_46_0 (tmp_ev (slot_ev e6 rfl)) (SlAt.of_row (hS.ok_row 4 rfl)) (by rw [((SlAt.of_row (hS.ok_row 4 rfl))).1]; omega)) (And.intro rfl rfl))
    refine ⟨fun a w vs292 hA hS hd => ?_, ?_⟩
    ·skip
     obtain ⟨e7, rs7, hy7, hp7⟩ := hd 7 (by decide)
     obtain ⟨hv7, hr7⟩ := hy7; subst hr7
     rw [hv7] at e7
     exact opG_of rfl (vv (op_load1E rfl ty_3 (tmp_ev (slot_ev e7 rfl)) (SlAt.of_row (hS.ok_row 4 rfl)) (pairs_at0 (by omega))) (And.intro rfl rfl))
    refine ⟨fun a w vs292 hA hS hd => ?_, ?_⟩
    ·skip
     obtain ⟨e3, rs3, hy3, hp3⟩ := hd 3 (by decide)
     obtain ⟨hv3, hr3⟩ := hy3; subst hr3
     rw [hv3] at e3
     obtain ⟨e8, rs8, hy8, hp8⟩ := hd 8 (by decide)
     obtain ⟨hv8, hr8⟩ := hy8; subst hr8
     rw [hv8] at e8
     exact opG_of rfl (vv (op_lss rfl (tmp_ev (slot_ev e3 rfl)) (tmp_ev (slot_ev e8 rfl))) (And.intro (by show Value.bool _ = _; simp only [decide_eq_false (show ¬ (((trueF d ws d.samples.length).getD k2 0) < ((S1.getD k2 (0, 0)).1)) from (by have := hb k2 (by omega); rw [trueF_at (by omega)]; omega)), decide_true, decide_false, Bool.not_true, Bool.not_false]) rfl))
    refine ⟨fun a w vs292 hA hS hd => ?_, ?_⟩
    ·skip
     obtain ⟨e9, rs9, hy9, hp9⟩ := hd 9 (by decide)
     obtain ⟨hv9, hr9⟩ := hy9; subst hr9
     rw [hv9] at e9
     exact opG_of rfl (vv (op_move rfl (tmp_ev (slot_ev e9 rfl))) (And.intro rfl rfl))
    refine ⟨fun a w vs292 hA hS hd => ?_, ?_⟩
    ·skip
     obtain ⟨e10, rs10, hy10, hp10⟩ := hd 10 (by decide)
     obtain ⟨hv10, hr10⟩ := hy10; subst hr10
     rw [hv10] at e10
     exact opG_yes rfl rfl (slot_ev e10 rfl) (vv (op_move rfl (hA.ev rfl)) (And.intro rfl rfl))
    refine ⟨fun a w vs292 hA hS hd => ?_, ?_⟩
    ·skip
     obtain ⟨e10, rs10, hy10, hp10⟩ := hd 10 (by decide)
     obtain ⟨hv10, hr10⟩ := hy10; subst hr10
     rw [hv10] at e10
     exact opG_yes rfl rfl (slot_ev e10 rfl) (vv (op_move rfl (hA.ev rfl)) (And.intro rfl rfl))
    refine ⟨fun a w vs292 hA hS hd => ?_, ?_⟩
    ·skip
     obtain ⟨e10, rs10, hy10, hp10⟩ := hd 10 (by decide)
     obtain ⟨hv10, hr10⟩ := hy10; subst hr10
     rw [hv10] at e10
     obtain ⟨e11, rs11, hy11, hp11⟩ := hd 11 (by decide)
     obtain ⟨hv11, hr11⟩ := hy11; subst hr11
     rw [hv11] at e11
     obtain ⟨e12, rs12, hy12, hp12⟩ := hd 12 (by decide)
     obtain ⟨hv12, hr12⟩ := hy12; subst hr12
     rw [hv12] at e12
     exact opG_yes rfl rfl (slot_ev e10 rfl) (vv (op_indexS rfl un_23 ty_3 (tmp_ev (slot_ev e11 rfl)) (i := k2) (tmp_ev (slot_ev e12 rfl)) (SlAt.of_row (hS.ok_row 9 rfl)) (by decide) (by omega)) (And.intro rfl rfl))
    refine ⟨fun a w vs292 hA hS hd => ?_, ?_⟩
    ·skip
     obtain ⟨e10, rs10, hy10, hp10⟩ := hd 10 (by decide)
     obtain ⟨hv10, hr10⟩ := hy10; subst hr10
     rw [hv10] at e10
     obtain ⟨e13, rs13, hy13, hp13⟩ := hd 13 (by decide)
     obtain ⟨hv13, hr13⟩ := hy13; subst hr13
     rw [hv13] at e13
     exact opG_yes rfl rfl (slot_ev e10 rfl) (vv (op_load1E rfl ty_3 (tmp_ev (slot_ev e13 rfl)) (SlAt.of_row (hS.ok_row 9 rfl)) (ints_at (by omega))) (And.intro rfl rfl))
    refine ⟨fun a w vs292 hA hS hd => ?_, ?_⟩
    ·skip
     obtain ⟨e10, rs10, hy10, hp10⟩ := hd 10 (by decide)
     obtain ⟨hv10, hr10⟩ := hy10; subst hr10
     rw [hv10] at e10
     exact opG_yes rfl rfl (slot_ev e10 rfl) (vv (op_move rfl (hA.ev rfl)) (And.intro rfl rfl))
    refine ⟨fun a w vs292 hA hS hd => ?_, ?_⟩
    ·skip
     obtain ⟨e10, rs10, hy10, hp10⟩ := hd 10 (by decide)
     obtain ⟨hv10, hr10⟩ := hy10; subst hr10
     rw [hv10] at e10
     exact opG_yes rfl rfl (slot_ev e10 rfl) (vv (op_move rfl (hA.ev rfl)) (And.intro rfl rfl))
    refine ⟨fun a w vs292 hA hS hd => ?_, ?_⟩
    ·skip
     obtain ⟨e10, rs10, hy10, hp10⟩ := hd 10 (by decide)
     obtain ⟨hv10, hr10⟩ := hy10; subst hr10
     rw [hv10] at e10
     obtain ⟨e15, rs15, hy15, hp15⟩ := hd 15 (by decide)
     obtain ⟨hv15, hr15⟩ := hy15; subst hr15
     rw [hv15] at e15
     obtain ⟨e16, rs16, hy16, hp16⟩ := hd 16 (by decide)
     obtain ⟨hv16, hr16⟩ := hy16; subst hr16
     rw [hv16] at e16
     exact opG_yes rfl rfl (slot_ev e10 rfl) (vv (op_indexS rfl un_31 ty_46 (tmp_ev (slot_ev e15 rfl)) (i := k2) (tmp_ev (slot_ev e16 rfl)) (SlAt.of_row (hS.ok_row 4 rfl)) (by decide) (by omega)) (And.intro rfl rfl))
    refine ⟨fun a w vs292 hA hS hd => ?_, ?_⟩
    ·skip
     obtain ⟨e10, rs10, hy10, hp10⟩ := hd 10 (by decide)
     obtain ⟨hv10, hr10⟩ := hy10; subst hr10
     rw [hv10] at e10
     obtain ⟨e17, rs17, hy17, hp17⟩ := hd 17 (by decide)
     obtain ⟨hv17, hr17⟩ := hy17; subst hr17
     rw [hv17] at e17
     exact opG_yes rfl rfl (slot_ev e10 rfl) (vv (op_fieldS rfl fd_46_1 (tmp_ev (slot_ev e17 rfl)) (SlAt.of_row (hS.ok_row 4 rfl)) (by rw [((SlAt.of_row (hS.ok_row 4 rfl))).1]; omega)) (And.intro rfl rfl))
    refine ⟨fun a w vs292 hA hS hd => ?_, ?_⟩
    ·skip
     obtain ⟨e10, rs10, hy10, hp10⟩ := hd 10 (by decide)
     obtain ⟨hv10, hr10⟩ := hy10; subst hr10
     rw [hv10] at e10
     obtain ⟨e18, rs18, hy18, hp18⟩ := hd 18 (by decide)
     obtain ⟨hv18, hr18⟩ := hy18; subst hr18
     rw [hv18] at e18
     exact opG_yes rfl rfl (slot_ev e10 rfl) (vv (op_load1E rfl ty_3 (tmp_ev (slot_ev e18 rfl)) (SlAt.of_row (hS.ok_row 4 rfl)) (pairs_at1 (by omega))) (And.intro rfl rfl))
    trivial
   intro a293 w294 vs292 rsf298 hA295 hH297 hS296; clear hA291 hS281
   obtain ⟨hs_0, hy_0⟩ := hH297 0 (by decide)
   obtain ⟨hv_0, hr_0⟩ := hy_0
   obtain ⟨hs_1, hy_1⟩ := hH297 1 (by decide)
   obtain ⟨hv_1, hr_1⟩ := hy_1
   obtain ⟨hs_2, hy_2⟩ := hH297 2 (by decide)
   obtain ⟨hv_2, hr_2⟩ := hy_2
   obtain ⟨hs_3, hy_3⟩ := hH297 3 (by decide)
   obtain ⟨hv_3, hr_3⟩ := hy_3
   obtain ⟨hs_4, hy_4⟩ := hH297 4 (by decide)
   obtain ⟨hv_4, hr_4⟩ := hy_4
   obtain ⟨hs_5, hy_5⟩ := hH297 5 (by decide)
   obtain ⟨hv_5, hr_5⟩ := hy_5
   obtain ⟨hs_6, hy_6⟩ := hH297 6 (by decide)
   obtain ⟨hv_6, hr_6⟩ := hy_6
   obtain ⟨hs_7, hy_7⟩ := hH297 7 (by decide)
   obtain ⟨hv_7, hr_7⟩ := hy_7
   obtain ⟨hs_8, hy_8⟩ := hH297 8 (by decide)
   obtain ⟨hv_8, hr_8⟩ := hy_8
   obtain ⟨hs_9, hy_9⟩ := hH297 9 (by decide)
   obtain ⟨hv_9, hr_9⟩ := hy_9
   obtain ⟨hs_10, hy_10⟩ := hH297 10 (by decide)
   obtain ⟨hv_10, hr_10⟩ := hy_10
   obtain ⟨hs_11, hy_11⟩ := hH297 11 (by decide)
   obtain ⟨hv_11, hr_11⟩ := hy_11
   obtain ⟨hs_12, hy_12⟩ := hH297 12 (by decide)
   obtain ⟨hv_12, hr_12⟩ := hy_12
   obtain ⟨hs_13, hy_13⟩ := hH297 13 (by decide)
   obtain ⟨hv_13, hr_13⟩ := hy_13
   obtain ⟨hs_14, hy_14⟩ := hH297 14 (by decide)
   obtain ⟨hv_14, hr_14⟩ := hy_14
   obtain ⟨hs_15, hy_15⟩ := hH297 15 (by decide)
   obtain ⟨hv_15, hr_15⟩ := hy_15
   obtain ⟨hs_16, hy_16⟩ := hH297 16 (by decide)
   obtain ⟨hv_16, hr_16⟩ := hy_16
   obtain ⟨hs_17, hy_17⟩ := hH297 17 (by decide)
   obtain ⟨hv_17, hr_17⟩ := hy_17
   obtain ⟨hs_18, hy_18⟩ := hH297 18 (by decide)
   obtain ⟨hv_18, hr_18⟩ := hy_18
   obtain ⟨hs_19, hy_19⟩ := hH297 19 (by decide)
   obtain ⟨hv_19, hr_19⟩ := hy_19
   have hS299 : Sep NoB w w294 [(row u187 3 1 C.length (ints C)), (rndR true vl175 vs176 vb177 lv178 (madeD d ws (trueF d ws d.samples.length) x sh)), (osl u158 1 Ls.length (ints Ls)), (rndR true vl147 vs148 vb149 lv150 (madeD d ws (trueF d ws d.samples.length) x sh)), (row u130 46 2 S1.length (pairs S1)), (row v123 3 1 ((chosenF d.tols.length x).length) (ints (chosenF d.tols.length x))), (rndR true vl109 vs110 vb111 lv112 (madeD d ws (trueF d ws d.samples.length) x sh)), (row v87 3 1 ((chosenF d.tols.length x).length) (ints (chosenF d.tols.length x))), (rndR true vl73 vs74 vb75 lv76 (madeD d ws (trueF d ws d.samples.length) x sh)), (row v62 3 1 ((trueF d ws d.samples.length).length) (ints (trueF d ws d.samples.length))), (row (vs45 2) 3 1 ((chosenF d.tols.length x).length) (ints (chosenF d.tols.length x))), (blk b37 26 [rl, rs, (Value.int .i64 d.spread), vb30]), (row vb30 62 2 d.tols.length (vpairs (d.tols.zip lv31))), (lstR lv31 (madeD d ws (trueF d ws d.samples.length) x sh).rds), (blk b4 26 [rl, rs, (Value.int .i64 d.spread), rb]), (sl wv 1 ws.length (ws.map (Value.int .u16))), (rndR false rl rs rb rlv d)] := by rw [show catR rsf298 0 20 = ([] : List Res) by (try simp only [catR, hr_0, hr_1, hr_2, hr_3, hr_4, hr_5, hr_6, hr_7, hr_8, hr_9, hr_10, hr_11, hr_12, hr_13, hr_14, hr_15, hr_16, hr_17, hr_18, hr_19]); (try rfl)] at hS296; exact hS296
   rw [hv_10] at hs_10
   have hA300 : Fr 151 [] [(118, (Value.bool false)), (20, (Value.int .i64 (k2 : Int))), (18, u187), (16, u158), (14, u130), (11, v62), (10, (vs45 2))] a293 := hA295.add (slot_ev hs_10 rfl); clear hA295
   rw [hv_14] at hs_14
   have hA301 : Fr 151 [] [(122, (Value.int .i64 ((trueF d ws d.samples.length).getD k2 0))), (118, (Value.bool false)), (20, (Value.int .i64 (k2 : Int))), (18, u187), (16, u158), (14, u130), (11, v62), (10, (vs45 2))] a293 := hA300.add (slot_ev hs_14 rfl); clear hA300
   rw [hv_19] at hs_19
   have hA302 : Fr 151 [] [(127, (Value.int .i64 ((S1.getD k2 (0, 0)).2))), (122, (Value.int .i64 ((trueF d ws d.samples.length).getD k2 0))), (118, (Value.bool false)), (20, (Value.int .i64 (k2 : Int))), (18, u187), (16, u158), (14, u130), (11, v62), (10, (vs45 2))] a293 := hA301.add (slot_ev hs_19 rfl); clear hA301
   clear hH297 hS296 hs_0 hs_1 hs_2 hs_3 hs_4 hs_5 hs_6 hs_7 hs_8 hs_9 hs_10 hs_11 hs_12 hs_13 hs_14 hs_15 hs_16 hs_17 hs_18 hs_19
   clear hr_0
   clear hv_0
   clear hr_1
   clear hv_1
   clear hr_2
   clear hv_2
   clear hr_3
   clear hv_3
   clear hr_4
   clear hv_4
   clear hr_5
   clear hv_5
   clear hr_6
   clear hv_6
   clear hr_7
   clear hv_7
   clear hr_8
   clear hv_8
   clear hr_9
   clear hv_9
   clear hr_10
   clear hv_10
   clear hr_11
   clear hv_11
   clear hr_12
   clear hv_12
   clear hr_13
   clear hv_13
   clear hr_14
   clear hv_14
   clear hr_15
   clear hv_15
   clear hr_16
   clear hv_16
   clear hr_17
   clear hv_17
   clear hr_18
   clear hv_18
   clear hr_19
   clear hv_19
   refine stg hA302 (op_gtr rfl (hA302.ev rfl) (hA302.ev rfl)) rfl rfl rfl rfl (by decide) fun a303 hA304 => ?_; clear hA302 a293
   have hd305 : ¬ (((S1.getD k2 (0, 0)).2) < ((trueF d ws d.samples.length).getD k2 0)) := (by have := hb k2 (by omega); rw [trueF_at (by omega)]; omega)
   rw [decide_eq_false hd305] at hA304
   refine st hA304 (op_pick_f rfl (hA304.ev rfl) (hA304.ev rfl)) rfl rfl (by decide) fun a306 hA307 => ?_; clear hA304 a303
   refine wl_nil ?_
   refine then_n ?_
   refine c_false hA307 rfl ?_
   refine c_skip ?_
   refine blk_n ?_
   refine then_n ?_
   refine c_region ?_
   refine st hA307 (op_move rfl (hA307.ev rfl)) rfl rfl (by decide) fun a308 hA309 => ?_; clear hA307 a306
   refine st hA309 (op_add rfl (hA309.ev rfl) (evc _ _) (by omega) (by omega)) rfl rfl (by decide) fun a310 hA311 => ?_; clear hA309 a308
   refine st hA311 (op_assign rfl (hA311.ev rfl)) rfl rfl (by decide) fun a312 hA313 => ?_; clear hA311 a310
   refine wl_nil ?_
   exact then_n ⟨k2 + 1, ⟨hA313.as _ rfl, hS299, by omega⟩, by omega⟩
  ·skip
   rw [decide_eq_false hb290] at hA289
   refine c_false hA289 rfl ?_
   refine c_exit ?_
   refine then_exit ?_
   refine then_exit ?_
   refine blk_hit ?_
   refine then_n ?_
   refine c_seq ?_
   refine c_seq ?_
   have hA314 := hA289.as [(18, u187), (16, u158), (10, (vs45 2))] rfl; clear hA289
   refine c_region ?_
   refine st hA314 (op_assign rfl (evc _ _)) rfl rfl (by decide) fun a315 hA316 => ?_; clear hA314 a288
   refine wl_nil ?_
   refine then_n ?_
   refine c_block ?_
   have hA317 := hA316.as [(21, (Value.int .i64 0)), (18, u187), (16, u158), (10, (vs45 2))] rfl; clear hA316
   refine c_loop (G := Nat) (fun (i2 : Nat) a_ w_ => Fr 151 [] [(21, (Value.int .i64 (i2 : Int))), (18, u187), (16, u158), (10, (vs45 2))] a_ ∧ Sep NoB w w_ [(row u187 3 1 C.length (ints C)), (rndR true vl175 vs176 vb177 lv178 (madeD d ws (trueF d ws d.samples.length) x sh)), (osl u158 1 Ls.length (ints Ls)), (rndR true vl147 vs148 vb149 lv150 (madeD d ws (trueF d ws d.samples.length) x sh)), (row u130 46 2 S1.length (pairs S1)), (row v123 3 1 ((chosenF d.tols.length x).length) (ints (chosenF d.tols.length x))), (rndR true vl109 vs110 vb111 lv112 (madeD d ws (trueF d ws d.samples.length) x sh)), (row v87 3 1 ((chosenF d.tols.length x).length) (ints (chosenF d.tols.length x))), (rndR true vl73 vs74 vb75 lv76 (madeD d ws (trueF d ws d.samples.length) x sh)), (row v62 3 1 ((trueF d ws d.samples.length).length) (ints (trueF d ws d.samples.length))), (row (vs45 2) 3 1 ((chosenF d.tols.length x).length) (ints (chosenF d.tols.length x))), (blk b37 26 [rl, rs, (Value.int .i64 d.spread), vb30]), (row vb30 62 2 d.tols.length (vpairs (d.tols.zip lv31))), (lstR lv31 (madeD d ws (trueF d ws d.samples.length) x sh).rds), (blk b4 26 [rl, rs, (Value.int .i64 d.spread), rb]), (sl wv 1 ws.length (ws.map (Value.int .u16))), (rndR false rl rs rb rlv d)] ∧ (i2 ≤ C.length)) (fun i2 => C.length - i2) 0 ⟨hA317.as _ rfl, hS281, by omega⟩ ?_
   clear hA317 hS281 a315
   rintro i2 a318 w320 ⟨hA319, hS321, hki2⟩
   refine c_seq ?_
   refine c_seq ?_
   refine c_region ?_
   refine st hA319 (op_move rfl (hA319.ev rfl)) rfl rfl (by decide) fun a322 hA323 => ?_; clear hA319 a318
   refine st hA323 (op_move rfl (hA323.ev rfl)) rfl rfl (by decide) fun a324 hA325 => ?_; clear hA323 a322
   refine st hA325 (op_lenS rfl un_23 (hA325.ev rfl) (SlAt.of_row (hS321.ok_row 0 rfl))) rfl rfl (by decide) fun a326 hA327 => ?_; clear hA325 a324
   refine st hA327 (op_lss rfl (hA327.ev rfl) (hA327.ev rfl)) rfl rfl (by decide) fun a328 hA329 => ?_; clear hA327 a326
   refine st hA329 (op_move rfl (hA329.ev rfl)) rfl rfl (by decide) fun a330 hA331 => ?_; clear hA329 a328
   by_cases hb332 : (i2 : Int) < (C.length : Int)
   ·skip
    rw [decide_eq_true hb332] at hA331
    refine stg hA331 (op_move rfl (hA331.ev rfl)) rfl rfl rfl rfl (by decide) fun a333 hA334 => ?_; clear hA331 a330
    refine stg hA334 (op_lenS rfl un_23 (hA334.ev rfl) (show SlAt _ _ _ _ _ from (hS321.ok 2 _ rfl))) rfl rfl rfl rfl (by decide) fun a335 hA336 => ?_; clear hA334 a333
    refine stg hA336 (op_move rfl (hA336.ev rfl)) rfl rfl rfl rfl (by decide) fun a337 hA338 => ?_; clear hA336 a335
    refine stg hA338 (op_lenS rfl un_23 (hA338.ev rfl) (SlAt.of_row (hS321.ok_row 10 rfl))) rfl rfl rfl rfl (by decide) fun a339 hA340 => ?_; clear hA338 a337
    refine stg hA340 (op_eql rfl (hA340.ev rfl) (hA340.ev rfl)) rfl rfl rfl rfl (by decide) fun a341 hA342 => ?_; clear hA340 a339
    refine st hA342 (op_pick_t rfl (hA342.ev rfl) (hA342.ev rfl)) rfl rfl (by decide) fun a343 hA344 => ?_; clear hA342 a341
    refine wl_nil ?_
    refine then_n ?_
    by_cases hb345 : (Ls.length : Int) = ((chosenF d.tols.length x).length : Int)
    ·skip
     rw [decide_eq_true hb345] at hA344
     refine c_true hA344 rfl ?_
     refine c_skip ?_
     refine then_n ?_
     refine c_seq ?_
     refine c_block ?_
     refine c_seq ?_
     have hA346 := hA344.as [(21, (Value.int .i64 (i2 : Int))), (18, u187), (16, u158), (10, (vs45 2))] rfl; clear hA344
     refine c_region ?_
     refine st hA346 (op_move rfl (hA346.ev rfl)) rfl rfl (by decide) fun a347 hA348 => ?_; clear hA346 a343
     refine st hA348 (op_move rfl (hA348.ev rfl)) rfl rfl (by decide) fun a349 hA350 => ?_; clear hA348 a347
     refine st hA350 (op_move rfl (hA350.ev rfl)) rfl rfl (by decide) fun a351 hA352 => ?_; clear hA350 a349
     refine st hA352 (op_indexS rfl un_23 ty_3 (hA352.ev rfl) (i := i2) (hA352.ev rfl) (SlAt.of_row (hS321.ok_row 0 rfl)) (by decide) (by omega)) rfl rfl (by decide) fun a353 hA354 => ?_; clear hA352 a351
     refine st hA354 (op_load1E rfl ty_3 (hA354.ev rfl) (SlAt.of_row (hS321.ok_row 0 rfl)) (ints_at (by omega))) rfl rfl (by decide) fun a355 hA356 => ?_; clear hA354 a353
     refine stw hA356 (op_call rfl en_39 (ev2 (hA356.ev rfl) (hA356.ev rfl)) (Has_ok _ (chosenF d.tols.length x) (C.getD i2 0) _ (SlAt.of_row (hS321.ok_row 10 rfl)) (Nat.le_trans (chosenF_len _ _) (by omega)))) rfl rfl (by decide) ?_
     rintro a357 _ w359 ⟨rfl, hE360⟩ hA358; have hS361 := hS321.step hE360; clear hE360 hA356 hS321 a355
     have hd362 : (hasB (chosenF d.tols.length x) (C.getD i2 0)) = true := (hin (by omega) i2 (by omega))
     rw [hd362] at hA358
     refine st hA358 (op_not rfl (hA358.ev rfl)) rfl rfl (by decide) fun a363 hA364 => ?_; clear hA358 a357
     refine wl_nil ?_
     refine then_n ?_
     refine c_false hA364 rfl ?_
     refine c_skip ?_
     refine blk_n ?_
     refine then_n ?_
     have hA365 := hA364.as [(21, (Value.int .i64 (i2 : Int))), (18, u187), (16, u158), (10, (vs45 2))] rfl; clear hA364
     refine c_region ?_
     refine st hA365 (op_move rfl (hA365.ev rfl)) rfl rfl (by decide) fun a366 hA367 => ?_; clear hA365 a363
     refine st hA367 (op_add rfl (hA367.ev rfl) (evc _ _) (by omega) (by omega)) rfl rfl (by decide) fun a368 hA369 => ?_; clear hA367 a366
     refine st hA369 (op_assign rfl (hA369.ev rfl)) rfl rfl (by decide) fun a370 hA371 => ?_; clear hA369 a368
     refine wl_nil ?_
     exact then_n ⟨i2 + 1, ⟨hA371.as _ rfl, hS361, by omega⟩, by omega⟩
    ·skip
     rw [decide_eq_false hb345] at hA344
     refine c_false hA344 rfl ?_
     refine c_exit ?_
     refine then_exit ?_
     refine then_exit ?_
     refine blk_hit ?_
     refine then_n ?_
     refine c_seq ?_
     have hA372 := hA344.as [] rfl; clear hA344
     refine c_region ?_
     refine stw hA372 (op_call rfl en_18 ev0 (wakes_ok _)) rfl rfl (by decide) ?_
     rintro a373 _ w375 ⟨rfl, hE376⟩ hA374; have hS377 := hS321.step hE376; clear hE376 hA372 hS321 a343
     refine st hA374 (op_assign rfl (hA374.ev rfl)) rfl rfl (by decide) fun a378 hA379 => ?_; clear hA374 a373
     refine wl_nil ?_
     refine then_n ?_
     refine c_ret ?_
     refine fin_run hA379 (.inl rfl) (run_results1 hA379 rfl (.tmp rfl)) ?_
     exact ⟨rfl, hS377.ext⟩
   ·skip
    rw [decide_eq_false hb332] at hA331
    refine skp hA331 rfl rfl rfl rfl rfl (by decide) fun a380 hA381 => ?_; clear hA331 a330
    refine skp hA381 rfl rfl rfl rfl rfl (by decide) fun a382 hA383 => ?_; clear hA381 a380
    refine skp hA383 rfl rfl rfl rfl rfl (by decide) fun a384 hA385 => ?_; clear hA383 a382
    refine skp hA385 rfl rfl rfl rfl rfl (by decide) fun a386 hA387 => ?_; clear hA385 a384
    refine skp hA387 rfl rfl rfl rfl rfl (by decide) fun a388 hA389 => ?_; clear hA387 a386
    refine st hA389 (op_pick_f rfl (hA389.ev rfl) (evc _ _)) rfl rfl (by decide) fun a390 hA391 => ?_; clear hA389 a388
    refine wl_nil ?_
    refine then_n ?_
    refine c_false hA391 rfl ?_
    refine c_exit ?_
    refine then_exit ?_
    refine then_exit ?_
    refine blk_hit ?_
    refine then_n ?_
    refine c_seq ?_
    have hA392 := hA391.as [] rfl; clear hA391
    refine c_region ?_
    refine stw hA392 (op_call rfl en_18 ev0 (wakes_ok _)) rfl rfl (by decide) ?_
    rintro a393 _ w395 ⟨rfl, hE396⟩ hA394; have hS397 := hS321.step hE396; clear hE396 hA392 hS321 a390
    refine st hA394 (op_assign rfl (hA394.ev rfl)) rfl rfl (by decide) fun a398 hA399 => ?_; clear hA394 a393
    refine wl_nil ?_
    refine then_n ?_
    refine c_ret ?_
    refine fin_run hA399 (.inl rfl) (run_results1 hA399 rfl (.tmp rfl)) ?_
    exact ⟨rfl, hS397.ext⟩
 ·skip
  rw [decide_eq_false hb265] at hA264
  refine stg hA264 (op_move rfl (hA264.ev rfl)) rfl rfl rfl rfl (by decide) fun a400 hA401 => ?_; clear hA264 a263
  refine stg hA401 (op_neq rfl (hA401.ev rfl) (evc _ _)) rfl rfl rfl rfl (by decide) fun a402 hA403 => ?_; clear hA401 a400
  have hd404 : cc = 7 := (by omega)
  rw [decide_eq_true hd404] at hA403
  refine stg hA403 (op_pick_t rfl (hA403.ev rfl) (hA403.ev rfl)) rfl rfl rfl rfl (by decide) fun a405 hA406 => ?_; clear hA403 a402
  refine st hA406 (op_pick_f rfl (hA406.ev rfl) (hA406.ev rfl)) rfl rfl (by decide) fun a407 hA408 => ?_; clear hA406 a405
  refine wl_nil ?_
  refine then_n ?_
  refine c_false hA408 rfl ?_
  refine c_skip ?_
  refine then_n ?_
  refine c_seq ?_
  refine c_seq ?_
  have hA409 := hA408.as [(18, u187), (16, u158), (14, u130), (11, v62), (10, (vs45 2))] rfl; clear hA408
  refine c_region ?_
  refine st hA409 (op_assign rfl (evc _ _)) rfl rfl (by decide) fun a410 hA411 => ?_; clear hA409 a407
  refine wl_nil ?_
  refine then_n ?_
  refine c_block ?_
  have hA412 := hA411.as [(20, (Value.int .i64 0)), (18, u187), (16, u158), (14, u130), (11, v62), (10, (vs45 2))] rfl; clear hA411
  refine c_loop (G := Nat) (fun (k2 : Nat) a_ w_ => Fr 151 [] [(20, (Value.int .i64 (k2 : Int))), (18, u187), (16, u158), (14, u130), (11, v62), (10, (vs45 2))] a_ ∧ Sep NoB w w_ [(row u187 3 1 C.length (ints C)), (rndR true vl175 vs176 vb177 lv178 (madeD d ws (trueF d ws d.samples.length) x sh)), (osl u158 1 Ls.length (ints Ls)), (rndR true vl147 vs148 vb149 lv150 (madeD d ws (trueF d ws d.samples.length) x sh)), (row u130 46 2 S1.length (pairs S1)), (row v123 3 1 ((chosenF d.tols.length x).length) (ints (chosenF d.tols.length x))), (rndR true vl109 vs110 vb111 lv112 (madeD d ws (trueF d ws d.samples.length) x sh)), (row v87 3 1 ((chosenF d.tols.length x).length) (ints (chosenF d.tols.length x))), (rndR true vl73 vs74 vb75 lv76 (madeD d ws (trueF d ws d.samples.length) x sh)), (row v62 3 1 ((trueF d ws d.samples.length).length) (ints (trueF d ws d.samples.length))), (row (vs45 2) 3 1 ((chosenF d.tols.length x).length) (ints (chosenF d.tols.length x))), (blk b37 26 [rl, rs, (Value.int .i64 d.spread), vb30]), (row vb30 62 2 d.tols.length (vpairs (d.tols.zip lv31))), (lstR lv31 (madeD d ws (trueF d ws d.samples.length) x sh).rds), (blk b4 26 [rl, rs, (Value.int .i64 d.spread), rb]), (sl wv 1 ws.length (ws.map (Value.int .u16))), (rndR false rl rs rb rlv d)] ∧ (k2 ≤ S1.length)) (fun k2 => S1.length - k2) 0 ⟨hA412.as _ rfl, hS186, by omega⟩ ?_
  clear hA412 hS186 a410
  rintro k2 a413 w415 ⟨hA414, hS416, hkk2⟩
  refine c_seq ?_
  refine c_seq ?_
  refine c_region ?_
  refine st hA414 (op_move rfl (hA414.ev rfl)) rfl rfl (by decide) fun a417 hA418 => ?_; clear hA414 a413
  refine st hA418 (op_move rfl (hA418.ev rfl)) rfl rfl (by decide) fun a419 hA420 => ?_; clear hA418 a417
  refine st hA420 (op_lenS rfl un_31 (hA420.ev rfl) (SlAt.of_row (hS416.ok_row 4 rfl))) rfl rfl (by decide) fun a421 hA422 => ?_; clear hA420 a419
  refine st hA422 (op_lss rfl (hA422.ev rfl) (hA422.ev rfl)) rfl rfl (by decide) fun a423 hA424 => ?_; clear hA422 a421
  refine wl_nil ?_
  refine then_n ?_
  by_cases hb425 : (k2 : Int) < (S1.length : Int)
  ·skip
   rw [decide_eq_true hb425] at hA424
   refine c_true hA424 rfl ?_
   refine c_skip ?_
   refine then_n ?_
   refine c_seq ?_
   refine c_block ?_
   refine c_seq ?_
   have hA426 := hA424.as [(20, (Value.int .i64 (k2 : Int))), (18, u187), (16, u158), (14, u130), (11, v62), (10, (vs45 2))] rfl; clear hA424
   refine c_drawV mixed hA426 hS416 20 [[], [], [0, 1], [2], [], [], [4, 5], [6], [7], [3, 8], [9], [10], [10], [10, 11, 12], [10, 13], [10], [10], [10, 15, 16], [10, 17], [10, 18]] [(fun (vs427 : Nat → Value) (v_ : Value) (rs_ : List Res) => v_ = v62 ∧ rs_ = []), (fun (vs427 : Nat → Value) (v_ : Value) (rs_ : List Res) => v_ = (Value.int .i64 (k2 : Int)) ∧ rs_ = []), (fun (vs427 : Nat → Value) (v_ : Value) (rs_ : List Res) => v_ = (eptr v62 (k2 * 1)) ∧ rs_ = []), (fun (vs427 : Nat → Value) (v_ : Value) (rs_ : List Res) => v_ = (Value.int .i64 ((trueF d ws d.samples.length).getD k2 0)) ∧ rs_ = []), (fun (vs427 : Nat → Value) (v_ : Value) (rs_ : List Res) => v_ = u130 ∧ rs_ = []), (fun (vs427 : Nat → Value) (v_ : Value) (rs_ : List Res) => v_ = (Value.int .i64 (k2 : Int)) ∧ rs_ = []), (fun (vs427 : Nat → Value) (v_ : Value) (rs_ : List Res) => v_ = (eptr u130 (k2 * 2)) ∧ rs_ = []), (fun (vs427 : Nat → Value) (v_ : Value) (rs_ : List Res) => v_ = (eptr u130 (k2 * 2 + 0)) ∧ rs_ = []), (fun (vs427 : Nat → Value) (v_ : Value) (rs_ : List Res) => v_ = (Value.int .i64 ((S1.getD k2 (0, 0)).1)) ∧ rs_ = []), (fun (vs427 : Nat → Value) (v_ : Value) (rs_ : List Res) => v_ = (Value.bool false) ∧ rs_ = []), (fun (vs427 : Nat → Value) (v_ : Value) (rs_ : List Res) => v_ = (Value.bool false) ∧ rs_ = []), (fun (vs427 : Nat → Value) (v_ : Value) (rs_ : List Res) => v_ = v62 ∧ rs_ = []), (fun (vs427 : Nat → Value) (v_ : Value) (rs_ : List Res) => v_ = (Value.int .i64 (k2 : Int)) ∧ rs_ = []), (fun (vs427 : Nat → Value) (v_ : Value) (rs_ : List Res) => v_ = (eptr v62 (k2 * 1)) ∧ rs_ = []), (fun (vs427 : Nat → Value) (v_ : Value) (rs_ : List Res) => v_ = (Value.int .i64 ((trueF d ws d.samples.length).getD k2 0)) ∧ rs_ = []), (fun (vs427 : Nat → Value) (v_ : Value) (rs_ : List Res) => v_ = u130 ∧ rs_ = []), (fun (vs427 : Nat → Value) (v_ : Value) (rs_ : List Res) => v_ = (Value.int .i64 (k2 : Int)) ∧ rs_ = []), (fun (vs427 : Nat → Value) (v_ : Value) (rs_ : List Res) => v_ = (eptr u130 (k2 * 2)) ∧ rs_ = []), (fun (vs427 : Nat → Value) (v_ : Value) (rs_ : List Res) => v_ = (eptr u130 (k2 * 2 + 1)) ∧ rs_ = []), (fun (vs427 : Nat → Value) (v_ : Value) (rs_ : List Res) => v_ = (Value.int .i64 ((S1.getD k2 (0, 0)).2)) ∧ rs_ = [])] (by decide +kernel) (by decide +kernel) rfl rfl ⟨(fun _ _ _ _ _ h_ => h_), (fun _ _ _ _ _ h_ => h_), (fun _ _ _ _ _ h_ => h_), (fun _ _ _ _ _ h_ => h_), (fun _ _ _ _ _ h_ => h_), (fun _ _ _ _ _ h_ => h_), (fun _ _ _ _ _ h_ => h_), (fun _ _ _ _ _ h_ => h_), (fun _ _ _ _ _ h_ => h_), (fun _ _ _ _ _ h_ => h_), (fun _ _ _ _ _ h_ => h_), (fun _ _ _ _ _ h_ => h_), (fun _ _ _ _ _ h_ => h_), (fun _ _ _ _ _ h_ => h_), (fun _ _ _ _ _ h_ => h_), (fun _ _ _ _ _ h_ => h_), (fun _ _ _ _ _ h_ => h_), (fun _ _ _ _ _ h_ => h_), (fun _ _ _ _ _ h_ => h_), (fun _ _ _ _ _ h_ => h_), trivial⟩ ?_ ?_
   ·skip
    refine ⟨fun a w vs427 hA hS hd => ?_, ?_⟩
    ·skip
     exact opG_of rfl (vv (op_move rfl (hA.ev rfl)) (And.intro rfl rfl))
    refine ⟨fun a w vs427 hA hS hd => ?_, ?_⟩
    ·skip
     exact opG_of rfl (vv (op_move rfl (hA.ev rfl)) (And.intro rfl rfl))
    refine ⟨fun a w vs427 hA hS hd => ?_, ?_⟩
    ·skip
     obtain ⟨e0, rs0, hy0, hp0⟩ := hd 0 (by decide)
     obtain ⟨hv0, hr0⟩ := hy0; subst hr0
     rw [hv0] at e0
     obtain ⟨e1, rs1, hy1, hp1⟩ := hd 1 (by decide)
     obtain ⟨hv1, hr1⟩ := hy1; subst hr1
     rw [hv1] at e1
     exact opG_of rfl (vv (op_indexS rfl un_23 ty_3 (tmp_ev (slot_ev e0 rfl)) (i := k2) (tmp_ev (slot_ev e1 rfl)) (SlAt.of_row (hS.ok_row 9 rfl)) (by decide) (by omega)) (And.intro rfl rfl))
    refine ⟨fun a w vs427 hA hS hd => ?_, ?_⟩
    ·skip
     obtain ⟨e2, rs2, hy2, hp2⟩ := hd 2 (by decide)
     obtain ⟨hv2, hr2⟩ := hy2; subst hr2
     rw [hv2] at e2
     exact opG_of rfl (vv (op_load1E rfl ty_3 (tmp_ev (slot_ev e2 rfl)) (SlAt.of_row (hS.ok_row 9 rfl)) (ints_at (by omega))) (And.intro rfl rfl))
    refine ⟨fun a w vs427 hA hS hd => ?_, ?_⟩
    ·skip
     exact opG_of rfl (vv (op_move rfl (hA.ev rfl)) (And.intro rfl rfl))
    refine ⟨fun a w vs427 hA hS hd => ?_, ?_⟩
    ·skip
     exact opG_of rfl (vv (op_move rfl (hA.ev rfl)) (And.intro rfl rfl))
    refine ⟨fun a w vs427 hA hS hd => ?_, ?_⟩
    ·skip
     obtain ⟨e4, rs4, hy4, hp4⟩ := hd 4 (by decide)
     obtain ⟨hv4, hr4⟩ := hy4; subst hr4
     rw [hv4] at e4
     obtain ⟨e5, rs5, hy5, hp5⟩ := hd 5 (by decide)
     obtain ⟨hv5, hr5⟩ := hy5; subst hr5
     rw [hv5] at e5
     exact opG_of rfl (vv (op_indexS rfl un_31 ty_46 (tmp_ev (slot_ev e4 rfl)) (i := k2) (tmp_ev (slot_ev e5 rfl)) (SlAt.of_row (hS.ok_row 4 rfl)) (by decide) (by omega)) (And.intro rfl rfl))
    refine ⟨fun a w vs427 hA hS hd => ?_, ?_⟩
    ·skip
     obtain ⟨e6, rs6, hy6, hp6⟩ := hd 6 (by decide)
     obtain ⟨hv6, hr6⟩ := hy6; subst hr6
     rw [hv6] at e6
     exact opG_of rfl (vv (op_fieldS rfl fd_46_0 (tmp_ev (slot_ev e6 rfl)) (SlAt.of_row (hS.ok_row 4 rfl)) (by rw [((SlAt.of_row (hS.ok_row 4 rfl))).1]; omega)) (And.intro rfl rfl))
    refine ⟨fun a w vs427 hA hS hd => ?_, ?_⟩
    ·skip
     obtain ⟨e7, rs7, hy7, hp7⟩ := hd 7 (by decide)
     obtain ⟨hv7, hr7⟩ := hy7; subst hr7
     rw [hv7] at e7
     exact opG_of rfl (vv (op_load1E rfl ty_3 (tmp_ev (slot_ev e7 rfl)) (SlAt.of_row (hS.ok_row 4 rfl)) (pairs_at0 (by omega))) (And.intro rfl rfl))
    refine ⟨fun a w vs427 hA hS hd => ?_, ?_⟩
    ·skip
     obtain ⟨e3, rs3, hy3, hp3⟩ := hd 3 (by decide)
     obtain ⟨hv3, hr3⟩ := hy3; subst hr3
     rw [hv3] at e3
     obtain ⟨e8, rs8, hy8, hp8⟩ := hd 8 (by decide)
     obtain ⟨hv8, hr8⟩ := hy8; subst hr8
     rw [hv8] at e8
     exact opG_of rfl (vv (op_lss rfl (tmp_ev (slot_ev e3 rfl)) (tmp_ev (slot_ev e8 rfl))) (And.intro (by show Value.bool _ = _; simp only [decide_eq_false (show ¬ (((trueF d ws d.samples.length).getD k2 0) < ((S1.getD k2 (0, 0)).1)) from (by have := hb k2 (by omega); rw [trueF_at (by omega)]; omega)), decide_true, decide_false, Bool.not_true, Bool.not_false]) rfl))
    refine ⟨fun a w vs427 hA hS hd => ?_, ?_⟩
    ·skip
     obtain ⟨e9, rs9, hy9, hp9⟩ := hd 9 (by decide)
     obtain ⟨hv9, hr9⟩ := hy9; subst hr9
     rw [hv9] at e9
     exact opG_of rfl (vv (op_move rfl (tmp_ev (slot_ev e9 rfl))) (And.intro rfl rfl))
    refine ⟨fun a w vs427 hA hS hd => ?_, ?_⟩
    ·skip
     obtain ⟨e10, rs10, hy10, hp10⟩ := hd 10 (by decide)
     obtain ⟨hv10, hr10⟩ := hy10; subst hr10
     rw [hv10] at e10
     exact opG_yes rfl rfl (slot_ev e10 rfl) (vv (op_move rfl (hA.ev rfl)) (And.intro rfl rfl))
    refine ⟨fun a w vs427 hA hS hd => ?_, ?_⟩
    ·skip
     obtain ⟨e10, rs10, hy10, hp10⟩ := hd 10 (by decide)
     obtain ⟨hv10, hr10⟩ := hy10; subst hr10
     rw [hv10] at e10
     exact opG_yes rfl rfl (slot_ev e10 rfl) (vv (op_move rfl (hA.ev rfl)) (And.intro rfl rfl))
    refine ⟨fun a w vs427 hA hS hd => ?_, ?_⟩
    ·skip
     obtain ⟨e10, rs10, hy10, hp10⟩ := hd 10 (by decide)
     obtain ⟨hv10, hr10⟩ := hy10; subst hr10
     rw [hv10] at e10
     obtain ⟨e11, rs11, hy11, hp11⟩ := hd 11 (by decide)
     obtain ⟨hv11, hr11⟩ := hy11; subst hr11
     rw [hv11] at e11
     obtain ⟨e12, rs12, hy12, hp12⟩ := hd 12 (by decide)
     obtain ⟨hv12, hr12⟩ := hy12; subst hr12
     rw [hv12] at e12
     exact opG_yes rfl rfl (slot_ev e10 rfl) (vv (op_indexS rfl un_23 ty_3 (tmp_ev (slot_ev e11 rfl)) (i := k2) (tmp_ev (slot_ev e12 rfl)) (SlAt.of_row (hS.ok_row 9 rfl)) (by decide) (by omega)) (And.intro rfl rfl))
    refine ⟨fun a w vs427 hA hS hd => ?_, ?_⟩
    ·skip
     obtain ⟨e10, rs10, hy10, hp10⟩ := hd 10 (by decide)
     obtain ⟨hv10, hr10⟩ := hy10; subst hr10
     rw [hv10] at e10
     obtain ⟨e13, rs13, hy13, hp13⟩ := hd 13 (by decide)
     obtain ⟨hv13, hr13⟩ := hy13; subst hr13
     rw [hv13] at e13
     exact opG_yes rfl rfl (slot_ev e10 rfl) (vv (op_load1E rfl ty_3 (tmp_ev (slot_ev e13 rfl)) (SlAt.of_row (hS.ok_row 9 rfl)) (ints_at (by omega))) (And.intro rfl rfl))
    refine ⟨fun a w vs427 hA hS hd => ?_, ?_⟩
    ·skip
     obtain ⟨e10, rs10, hy10, hp10⟩ := hd 10 (by decide)
     obtain ⟨hv10, hr10⟩ := hy10; subst hr10
     rw [hv10] at e10
     exact opG_yes rfl rfl (slot_ev e10 rfl) (vv (op_move rfl (hA.ev rfl)) (And.intro rfl rfl))
    refine ⟨fun a w vs427 hA hS hd => ?_, ?_⟩
    ·skip
     obtain ⟨e10, rs10, hy10, hp10⟩ := hd 10 (by decide)
     obtain ⟨hv10, hr10⟩ := hy10; subst hr10
     rw [hv10] at e10
     exact opG_yes rfl rfl (slot_ev e10 rfl) (vv (op_move rfl (hA.ev rfl)) (And.intro rfl rfl))
    refine ⟨fun a w vs427 hA hS hd => ?_, ?_⟩
    ·skip
     obtain ⟨e10, rs10, hy10, hp10⟩ := hd 10 (by decide)
     obtain ⟨hv10, hr10⟩ := hy10; subst hr10
     rw [hv10] at e10
     obtain ⟨e15, rs15, hy15, hp15⟩ := hd 15 (by decide)
     obtain ⟨hv15, hr15⟩ := hy15; subst hr15
     rw [hv15] at e15
     obtain ⟨e16, rs16, hy16, hp16⟩ := hd 16 (by decide)
     obtain ⟨hv16, hr16⟩ := hy16; subst hr16
     rw [hv16] at e16
     exact opG_yes rfl rfl (slot_ev e10 rfl) (vv (op_indexS rfl un_31 ty_46 (tmp_ev (slot_ev e15 rfl)) (i := k2) (tmp_ev (slot_ev e16 rfl)) (SlAt.of_row (hS.ok_row 4 rfl)) (by decide) (by omega)) (And.intro rfl rfl))
    refine ⟨fun a w vs427 hA hS hd => ?_, ?_⟩
    ·skip
     obtain ⟨e10, rs10, hy10, hp10⟩ := hd 10 (by decide)
     obtain ⟨hv10, hr10⟩ := hy10; subst hr10
     rw [hv10] at e10
     obtain ⟨e17, rs17, hy17, hp17⟩ := hd 17 (by decide)
     obtain ⟨hv17, hr17⟩ := hy17; subst hr17
     rw [hv17] at e17
     exact opG_yes rfl rfl (slot_ev e10 rfl) (vv (op_fieldS rfl fd_46_1 (tmp_ev (slot_ev e17 rfl)) (SlAt.of_row (hS.ok_row 4 rfl)) (by rw [((SlAt.of_row (hS.ok_row 4 rfl))).1]; omega)) (And.intro rfl rfl))
    refine ⟨fun a w vs427 hA hS hd => ?_, ?_⟩
    ·skip
     obtain ⟨e10, rs10, hy10, hp10⟩ := hd 10 (by decide)
     obtain ⟨hv10, hr10⟩ := hy10; subst hr10
     rw [hv10] at e10
     obtain ⟨e18, rs18, hy18, hp18⟩ := hd 18 (by decide)
     obtain ⟨hv18, hr18⟩ := hy18; subst hr18
     rw [hv18] at e18
     exact opG_yes rfl rfl (slot_ev e10 rfl) (vv (op_load1E rfl ty_3 (tmp_ev (slot_ev e18 rfl)) (SlAt.of_row (hS.ok_row 4 rfl)) (pairs_at1 (by omega))) (And.intro rfl rfl))
    trivial
   intro a428 w429 vs427 rsf433 hA430 hH432 hS431; clear hA426 hS416
   obtain ⟨hs_0, hy_0⟩ := hH432 0 (by decide)
   obtain ⟨hv_0, hr_0⟩ := hy_0
   obtain ⟨hs_1, hy_1⟩ := hH432 1 (by decide)
   obtain ⟨hv_1, hr_1⟩ := hy_1
   obtain ⟨hs_2, hy_2⟩ := hH432 2 (by decide)
   obtain ⟨hv_2, hr_2⟩ := hy_2
   obtain ⟨hs_3, hy_3⟩ := hH432 3 (by decide)
   obtain ⟨hv_3, hr_3⟩ := hy_3
   obtain ⟨hs_4, hy_4⟩ := hH432 4 (by decide)
   obtain ⟨hv_4, hr_4⟩ := hy_4
   obtain ⟨hs_5, hy_5⟩ := hH432 5 (by decide)
   obtain ⟨hv_5, hr_5⟩ := hy_5
   obtain ⟨hs_6, hy_6⟩ := hH432 6 (by decide)
   obtain ⟨hv_6, hr_6⟩ := hy_6
   obtain ⟨hs_7, hy_7⟩ := hH432 7 (by decide)
   obtain ⟨hv_7, hr_7⟩ := hy_7
   obtain ⟨hs_8, hy_8⟩ := hH432 8 (by decide)
   obtain ⟨hv_8, hr_8⟩ := hy_8
   obtain ⟨hs_9, hy_9⟩ := hH432 9 (by decide)
   obtain ⟨hv_9, hr_9⟩ := hy_9
   obtain ⟨hs_10, hy_10⟩ := hH432 10 (by decide)
   obtain ⟨hv_10, hr_10⟩ := hy_10
   obtain ⟨hs_11, hy_11⟩ := hH432 11 (by decide)
   obtain ⟨hv_11, hr_11⟩ := hy_11
   obtain ⟨hs_12, hy_12⟩ := hH432 12 (by decide)
   obtain ⟨hv_12, hr_12⟩ := hy_12
   obtain ⟨hs_13, hy_13⟩ := hH432 13 (by decide)
   obtain ⟨hv_13, hr_13⟩ := hy_13
   obtain ⟨hs_14, hy_14⟩ := hH432 14 (by decide)
   obtain ⟨hv_14, hr_14⟩ := hy_14
   obtain ⟨hs_15, hy_15⟩ := hH432 15 (by decide)
   obtain ⟨hv_15, hr_15⟩ := hy_15
   obtain ⟨hs_16, hy_16⟩ := hH432 16 (by decide)
   obtain ⟨hv_16, hr_16⟩ := hy_16
   obtain ⟨hs_17, hy_17⟩ := hH432 17 (by decide)
   obtain ⟨hv_17, hr_17⟩ := hy_17
   obtain ⟨hs_18, hy_18⟩ := hH432 18 (by decide)
   obtain ⟨hv_18, hr_18⟩ := hy_18
   obtain ⟨hs_19, hy_19⟩ := hH432 19 (by decide)
   obtain ⟨hv_19, hr_19⟩ := hy_19
   have hS434 : Sep NoB w w429 [(row u187 3 1 C.length (ints C)), (rndR true vl175 vs176 vb177 lv178 (madeD d ws (trueF d ws d.samples.length) x sh)), (osl u158 1 Ls.length (ints Ls)), (rndR true vl147 vs148 vb149 lv150 (madeD d ws (trueF d ws d.samples.length) x sh)), (row u130 46 2 S1.length (pairs S1)), (row v123 3 1 ((chosenF d.tols.length x).length) (ints (chosenF d.tols.length x))), (rndR true vl109 vs110 vb111 lv112 (madeD d ws (trueF d ws d.samples.length) x sh)), (row v87 3 1 ((chosenF d.tols.length x).length) (ints (chosenF d.tols.length x))), (rndR true vl73 vs74 vb75 lv76 (madeD d ws (trueF d ws d.samples.length) x sh)), (row v62 3 1 ((trueF d ws d.samples.length).length) (ints (trueF d ws d.samples.length))), (row (vs45 2) 3 1 ((chosenF d.tols.length x).length) (ints (chosenF d.tols.length x))), (blk b37 26 [rl, rs, (Value.int .i64 d.spread), vb30]), (row vb30 62 2 d.tols.length (vpairs (d.tols.zip lv31))), (lstR lv31 (madeD d ws (trueF d ws d.samples.length) x sh).rds), (blk b4 26 [rl, rs, (Value.int .i64 d.spread), rb]), (sl wv 1 ws.length (ws.map (Value.int .u16))), (rndR false rl rs rb rlv d)] := by rw [show catR rsf433 0 20 = ([] : List Res) by (try simp only [catR, hr_0, hr_1, hr_2, hr_3, hr_4, hr_5, hr_6, hr_7, hr_8, hr_9, hr_10, hr_11, hr_12, hr_13, hr_14, hr_15, hr_16, hr_17, hr_18, hr_19]); (try rfl)] at hS431; exact hS431
   rw [hv_10] at hs_10
   have hA435 : Fr 151 [] [(118, (Value.bool false)), (20, (Value.int .i64 (k2 : Int))), (18, u187), (16, u158), (14, u130), (11, v62), (10, (vs45 2))] a428 := hA430.add (slot_ev hs_10 rfl); clear hA430
   rw [hv_14] at hs_14
   have hA436 : Fr 151 [] [(122, (Value.int .i64 ((trueF d ws d.samples.length).getD k2 0))), (118, (Value.bool false)), (20, (Value.int .i64 (k2 : Int))), (18, u187), (16, u158), (14, u130), (11, v62), (10, (vs45 2))] a428 := hA435.add (slot_ev hs_14 rfl); clear hA435
   rw [hv_19] at hs_19
   have hA437 : Fr 151 [] [(127, (Value.int .i64 ((S1.getD k2 (0, 0)).2))), (122, (Value.int .i64 ((trueF d ws d.samples.length).getD k2 0))), (118, (Value.bool false)), (20, (Value.int .i64 (k2 : Int))), (18, u187), (16, u158), (14, u130), (11, v62), (10, (vs45 2))] a428 := hA436.add (slot_ev hs_19 rfl); clear hA436
   clear hH432 hS431 hs_0 hs_1 hs_2 hs_3 hs_4 hs_5 hs_6 hs_7 hs_8 hs_9 hs_10 hs_11 hs_12 hs_13 hs_14 hs_15 hs_16 hs_17 hs_18 hs_19
   clear hr_0
   clear hv_0
   clear hr_1
   clear hv_1
   clear hr_2
   clear hv_2
   clear hr_3
   clear hv_3
   clear hr_4
   clear hv_4
   clear hr_5
   clear hv_5
   clear hr_6
   clear hv_6
   clear hr_7
   clear hv_7
   clear hr_8
   clear hv_8
   clear hr_9
   clear hv_9
   clear hr_10
   clear hv_10
   clear hr_11
   clear hv_11
   clear hr_12
   clear hv_12
   clear hr_13
   clear hv_13
   clear hr_14
   clear hv_14
   clear hr_15
   clear hv_15
   clear hr_16
   clear hv_16
   clear hr_17
   clear hv_17
   clear hr_18
   clear hv_18
   clear hr_19
   clear hv_19
   refine stg hA437 (op_gtr rfl (hA437.ev rfl) (hA437.ev rfl)) rfl rfl rfl rfl (by decide) fun a438 hA439 => ?_; clear hA437 a428
   have hd440 : ¬ (((S1.getD k2 (0, 0)).2) < ((trueF d ws d.samples.length).getD k2 0)) := (by have := hb k2 (by omega); rw [trueF_at (by omega)]; omega)
   rw [decide_eq_false hd440] at hA439
   refine st hA439 (op_pick_f rfl (hA439.ev rfl) (hA439.ev rfl)) rfl rfl (by decide) fun a441 hA442 => ?_; clear hA439 a438
   refine wl_nil ?_
   refine then_n ?_
   refine c_false hA442 rfl ?_
   refine c_skip ?_
   refine blk_n ?_
   refine then_n ?_
   refine c_region ?_
   refine st hA442 (op_move rfl (hA442.ev rfl)) rfl rfl (by decide) fun a443 hA444 => ?_; clear hA442 a441
   refine st hA444 (op_add rfl (hA444.ev rfl) (evc _ _) (by omega) (by omega)) rfl rfl (by decide) fun a445 hA446 => ?_; clear hA444 a443
   refine st hA446 (op_assign rfl (hA446.ev rfl)) rfl rfl (by decide) fun a447 hA448 => ?_; clear hA446 a445
   refine wl_nil ?_
   exact then_n ⟨k2 + 1, ⟨hA448.as _ rfl, hS434, by omega⟩, by omega⟩
  ·skip
   rw [decide_eq_false hb425] at hA424
   refine c_false hA424 rfl ?_
   refine c_exit ?_
   refine then_exit ?_
   refine then_exit ?_
   refine blk_hit ?_
   refine then_n ?_
   refine c_seq ?_
   refine c_seq ?_
   have hA449 := hA424.as [(18, u187), (16, u158), (10, (vs45 2))] rfl; clear hA424
   refine c_region ?_
   refine st hA449 (op_assign rfl (evc _ _)) rfl rfl (by decide) fun a450 hA451 => ?_; clear hA449 a423
   refine wl_nil ?_
   refine then_n ?_
   refine c_block ?_
   have hA452 := hA451.as [(21, (Value.int .i64 0)), (18, u187), (16, u158), (10, (vs45 2))] rfl; clear hA451
   refine c_loop (G := Nat) (fun (i2 : Nat) a_ w_ => Fr 151 [] [(21, (Value.int .i64 (i2 : Int))), (18, u187), (16, u158), (10, (vs45 2))] a_ ∧ Sep NoB w w_ [(row u187 3 1 C.length (ints C)), (rndR true vl175 vs176 vb177 lv178 (madeD d ws (trueF d ws d.samples.length) x sh)), (osl u158 1 Ls.length (ints Ls)), (rndR true vl147 vs148 vb149 lv150 (madeD d ws (trueF d ws d.samples.length) x sh)), (row u130 46 2 S1.length (pairs S1)), (row v123 3 1 ((chosenF d.tols.length x).length) (ints (chosenF d.tols.length x))), (rndR true vl109 vs110 vb111 lv112 (madeD d ws (trueF d ws d.samples.length) x sh)), (row v87 3 1 ((chosenF d.tols.length x).length) (ints (chosenF d.tols.length x))), (rndR true vl73 vs74 vb75 lv76 (madeD d ws (trueF d ws d.samples.length) x sh)), (row v62 3 1 ((trueF d ws d.samples.length).length) (ints (trueF d ws d.samples.length))), (row (vs45 2) 3 1 ((chosenF d.tols.length x).length) (ints (chosenF d.tols.length x))), (blk b37 26 [rl, rs, (Value.int .i64 d.spread), vb30]), (row vb30 62 2 d.tols.length (vpairs (d.tols.zip lv31))), (lstR lv31 (madeD d ws (trueF d ws d.samples.length) x sh).rds), (blk b4 26 [rl, rs, (Value.int .i64 d.spread), rb]), (sl wv 1 ws.length (ws.map (Value.int .u16))), (rndR false rl rs rb rlv d)] ∧ (i2 ≤ C.length)) (fun i2 => C.length - i2) 0 ⟨hA452.as _ rfl, hS416, by omega⟩ ?_
   clear hA452 hS416 a450
   rintro i2 a453 w455 ⟨hA454, hS456, hki2⟩
   refine c_seq ?_
   refine c_seq ?_
   refine c_region ?_
   refine st hA454 (op_move rfl (hA454.ev rfl)) rfl rfl (by decide) fun a457 hA458 => ?_; clear hA454 a453
   refine st hA458 (op_move rfl (hA458.ev rfl)) rfl rfl (by decide) fun a459 hA460 => ?_; clear hA458 a457
   refine st hA460 (op_lenS rfl un_23 (hA460.ev rfl) (SlAt.of_row (hS456.ok_row 0 rfl))) rfl rfl (by decide) fun a461 hA462 => ?_; clear hA460 a459
   refine st hA462 (op_lss rfl (hA462.ev rfl) (hA462.ev rfl)) rfl rfl (by decide) fun a463 hA464 => ?_; clear hA462 a461
   refine st hA464 (op_move rfl (hA464.ev rfl)) rfl rfl (by decide) fun a465 hA466 => ?_; clear hA464 a463
   by_cases hb467 : (i2 : Int) < (C.length : Int)
   ·skip
    rw [decide_eq_true hb467] at hA466
    refine stg hA466 (op_move rfl (hA466.ev rfl)) rfl rfl rfl rfl (by decide) fun a468 hA469 => ?_; clear hA466 a465
    refine stg hA469 (op_lenS rfl un_23 (hA469.ev rfl) (show SlAt _ _ _ _ _ from (hS456.ok 2 _ rfl))) rfl rfl rfl rfl (by decide) fun a470 hA471 => ?_; clear hA469 a468
    refine stg hA471 (op_move rfl (hA471.ev rfl)) rfl rfl rfl rfl (by decide) fun a472 hA473 => ?_; clear hA471 a470
    refine stg hA473 (op_lenS rfl un_23 (hA473.ev rfl) (SlAt.of_row (hS456.ok_row 10 rfl))) rfl rfl rfl rfl (by decide) fun a474 hA475 => ?_; clear hA473 a472
    refine stg hA475 (op_eql rfl (hA475.ev rfl) (hA475.ev rfl)) rfl rfl rfl rfl (by decide) fun a476 hA477 => ?_; clear hA475 a474
    refine st hA477 (op_pick_t rfl (hA477.ev rfl) (hA477.ev rfl)) rfl rfl (by decide) fun a478 hA479 => ?_; clear hA477 a476
    refine wl_nil ?_
    refine then_n ?_
    by_cases hb480 : (Ls.length : Int) = ((chosenF d.tols.length x).length : Int)
    ·skip
     rw [decide_eq_true hb480] at hA479
     refine c_true hA479 rfl ?_
     refine c_skip ?_
     refine then_n ?_
     refine c_seq ?_
     refine c_block ?_
     refine c_seq ?_
     have hA481 := hA479.as [(21, (Value.int .i64 (i2 : Int))), (18, u187), (16, u158), (10, (vs45 2))] rfl; clear hA479
     refine c_region ?_
     refine st hA481 (op_move rfl (hA481.ev rfl)) rfl rfl (by decide) fun a482 hA483 => ?_; clear hA481 a478
     refine st hA483 (op_move rfl (hA483.ev rfl)) rfl rfl (by decide) fun a484 hA485 => ?_; clear hA483 a482
     refine st hA485 (op_move rfl (hA485.ev rfl)) rfl rfl (by decide) fun a486 hA487 => ?_; clear hA485 a484
     refine st hA487 (op_indexS rfl un_23 ty_3 (hA487.ev rfl) (i := i2) (hA487.ev rfl) (SlAt.of_row (hS456.ok_row 0 rfl)) (by decide) (by omega)) rfl rfl (by decide) fun a488 hA489 => ?_; clear hA487 a486
     refine st hA489 (op_load1E rfl ty_3 (hA489.ev rfl) (SlAt.of_row (hS456.ok_row 0 rfl)) (ints_at (by omega))) rfl rfl (by decide) fun a490 hA491 => ?_; clear hA489 a488
     refine stw hA491 (op_call rfl en_39 (ev2 (hA491.ev rfl) (hA491.ev rfl)) (Has_ok _ (chosenF d.tols.length x) (C.getD i2 0) _ (SlAt.of_row (hS456.ok_row 10 rfl)) (Nat.le_trans (chosenF_len _ _) (by omega)))) rfl rfl (by decide) ?_
     rintro a492 _ w494 ⟨rfl, hE495⟩ hA493; have hS496 := hS456.step hE495; clear hE495 hA491 hS456 a490
     have hd497 : (hasB (chosenF d.tols.length x) (C.getD i2 0)) = true := (hin (by omega) i2 (by omega))
     rw [hd497] at hA493
     refine st hA493 (op_not rfl (hA493.ev rfl)) rfl rfl (by decide) fun a498 hA499 => ?_; clear hA493 a492
     refine wl_nil ?_
     refine then_n ?_
     refine c_false hA499 rfl ?_
     refine c_skip ?_
     refine blk_n ?_
     refine then_n ?_
     have hA500 := hA499.as [(21, (Value.int .i64 (i2 : Int))), (18, u187), (16, u158), (10, (vs45 2))] rfl; clear hA499
     refine c_region ?_
     refine st hA500 (op_move rfl (hA500.ev rfl)) rfl rfl (by decide) fun a501 hA502 => ?_; clear hA500 a498
     refine st hA502 (op_add rfl (hA502.ev rfl) (evc _ _) (by omega) (by omega)) rfl rfl (by decide) fun a503 hA504 => ?_; clear hA502 a501
     refine st hA504 (op_assign rfl (hA504.ev rfl)) rfl rfl (by decide) fun a505 hA506 => ?_; clear hA504 a503
     refine wl_nil ?_
     exact then_n ⟨i2 + 1, ⟨hA506.as _ rfl, hS496, by omega⟩, by omega⟩
    ·skip
     rw [decide_eq_false hb480] at hA479
     refine c_false hA479 rfl ?_
     refine c_exit ?_
     refine then_exit ?_
     refine then_exit ?_
     refine blk_hit ?_
     refine then_n ?_
     refine c_seq ?_
     have hA507 := hA479.as [] rfl; clear hA479
     refine c_region ?_
     refine stw hA507 (op_call rfl en_18 ev0 (wakes_ok _)) rfl rfl (by decide) ?_
     rintro a508 _ w510 ⟨rfl, hE511⟩ hA509; have hS512 := hS456.step hE511; clear hE511 hA507 hS456 a478
     refine st hA509 (op_assign rfl (hA509.ev rfl)) rfl rfl (by decide) fun a513 hA514 => ?_; clear hA509 a508
     refine wl_nil ?_
     refine then_n ?_
     refine c_ret ?_
     refine fin_run hA514 (.inl rfl) (run_results1 hA514 rfl (.tmp rfl)) ?_
     exact ⟨rfl, hS512.ext⟩
   ·skip
    rw [decide_eq_false hb467] at hA466
    refine skp hA466 rfl rfl rfl rfl rfl (by decide) fun a515 hA516 => ?_; clear hA466 a465
    refine skp hA516 rfl rfl rfl rfl rfl (by decide) fun a517 hA518 => ?_; clear hA516 a515
    refine skp hA518 rfl rfl rfl rfl rfl (by decide) fun a519 hA520 => ?_; clear hA518 a517
    refine skp hA520 rfl rfl rfl rfl rfl (by decide) fun a521 hA522 => ?_; clear hA520 a519
    refine skp hA522 rfl rfl rfl rfl rfl (by decide) fun a523 hA524 => ?_; clear hA522 a521
    refine st hA524 (op_pick_f rfl (hA524.ev rfl) (evc _ _)) rfl rfl (by decide) fun a525 hA526 => ?_; clear hA524 a523
    refine wl_nil ?_
    refine then_n ?_
    refine c_false hA526 rfl ?_
    refine c_exit ?_
    refine then_exit ?_
    refine then_exit ?_
    refine blk_hit ?_
    refine then_n ?_
    refine c_seq ?_
    have hA527 := hA526.as [] rfl; clear hA526
    refine c_region ?_
    refine stw hA527 (op_call rfl en_18 ev0 (wakes_ok _)) rfl rfl (by decide) ?_
    rintro a528 _ w530 ⟨rfl, hE531⟩ hA529; have hS532 := hS456.step hE531; clear hE531 hA527 hS456 a525
    refine st hA529 (op_assign rfl (hA529.ev rfl)) rfl rfl (by decide) fun a533 hA534 => ?_; clear hA529 a528
    refine wl_nil ?_
    refine then_n ?_
    refine c_ret ?_
    refine fin_run hA534 (.inl rfl) (run_results1 hA534 rfl (.tmp rfl)) ?_
    exact ⟨rfl, hS532.ext⟩

theorem RoundTruth_ok (rl rs rb : Value) (rlv : List Value) (d : RD) (w : World) (hR : RoundAt w rl rs rb rlv d) (wv : Value) (ws : List Int) (hws : SlAt w wv 1 ws.length (ws.map (Value.int .u16))) (hww : ∀ x ∈ ws, 0 ≤ x ∧ x ≤ 65535) (n1 : Int) (h1 : 0 ≤ n1 ∧ n1 ≤ 255) (sh : Int) (hsb : -32768 ≤ sh ∧ sh ≤ 32767) : Calls Try.prog 15 #[.agg #[rl, rs, .int .i64 d.spread, rb], wv, .int .u8 n1, .int .i16 sh] w (Ret fun v w' => v = .bool true ∧ Ext NoB w w') := by
 obtain ⟨x, rfl⟩ : ∃ x : Nat, n1 = (x : Int) := ⟨n1.toNat, by omega⟩
 rcases Bool.eq_false_or_eq_true (readyB d) with hf | hf
 ·have hV := valid_of (ready_of hf).2
  have hT := made_off hV hww (x := x) (shift := sh)
  have hcM : checkR (madeD d ws (trueF d ws d.samples.length) x sh) = 0 := made_check hV
  have hVM := valid_of hcM
  have hx : explB (madeD d ws (trueF d ws d.samples.length) x sh) (offB d.tols.length x) = true := (explB_iff hVM).2 ⟨_, _, hT⟩
  have hmem := mem_from0 (d := madeD d ws (trueF d ws d.samples.length) x sh) (ys := chosenF d.tols.length x) (fun y hy => by obtain ⟨q, hq, _, rfl⟩ := mem_chosen.1 hy; exact ⟨by omega, show (q : Int) ≤ (d.tols.length : Int) - 1 by omega⟩) (chosen_pair _ _) hx
  have hfew := fewest_le (d := madeD d ws (trueF d ws d.samples.length) x sh) (chosenF_len _ _) hmem
  obtain ⟨C, cc, hcv, hcc, hcl, hC⟩ := convR_yes hcM
  refine RoundTruth_b rl rs rb rlv d w hR wv ws hws hww x (by omega) sh hsb hf ((chosen_explains hcM x).trans (by show (explB _ (offB d.tols.length x), _) = _; rw [hx])) _ (spansR_yes hcM (chosen_rise _ _) hx) (spansF_len hx) (fun k hk => (span_iff hVM hx hk _).2 ⟨_, _, hT, rfl⟩) _ (leastR_yes hcM) hfew.1 C cc hcv hcc hcl (fun e i hi => conv_in (hfew.2 e) (hC _ ?_))
  simp only [List.getD, List.getElem?_eq_getElem hi, Option.getD_some]
  exact List.getElem_mem hi
 ·exact RoundTruth_a rl rs rb rlv d w hR wv ws hws hww x (by omega) sh hsb hf

end Go.Proofs.Ytfhmigoddaaljaa
