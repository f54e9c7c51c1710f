/-
  Walks through the functions of the seat, printed by a program of ours (gowalk), a theorem a function: what the call returns and what it leaves in memory.
-/
import Derived.Test.YtfhmigoddaaljaaFg
set_option linter.unusedSimpArgs false
set_option linter.unusedVariables false
namespace Go.Proofs.Ytfhmigoddaaljaa
open Go.RowKit Go.Shelf Go.Eng
set_option maxHeartbeats 4000000 in
theorem RoundMore_a (rl rs rb : Value) (rlv : List Value) (d : RD) (w : World) (hR : RoundAt w rl rs rb rlv d) (x y : Nat) (hxb : x < 256) (hyb : y < 256) (hf : readyB d = false) :
  Calls Try.prog 7 #[(Value.agg #[rl, rs, (Value.int .i64 d.spread), rb]), (Value.int .u8 (x : Int)), (Value.int .u8 (y : Int))] w (Ret fun v w' => v = .bool true ∧ Ext NoB w w') := by
 refine calls_enter Try.func7 rfl fun a0 hA0 => ?_
 replace hA0 : Fr 161 [] [(0, (Value.agg #[rl, rs, (Value.int .i64 d.spread), rb])), (1, (Value.int .u8 (x : Int))), (2, (Value.int .u8 (y : Int)))] a0 := hA0
 have hS0 : Sep NoB w w [(rndR false rl rs rb rlv d)] := sep_ro ⟨rfl, hR, trivial⟩
 refine c_seq ?_
 refine c_region ?_
 refine stw hA0 (op_box hS0 rfl (hA0.ev rfl) (cs := [rl, rs, (Value.int .i64 d.spread), rb]) rfl) rfl rfl (by decide) ?_
 rintro a1 _ w3 ⟨b4, rfl, hS5⟩ hA2; clear hA0 hS0 a0
 refine st hA2 (op_assign rfl (evc _ _)) rfl rfl (by decide) fun a6 hA7 => ?_; clear hA2 a1
 refine wl_nil ?_
 refine then_n ?_
 refine c_seq ?_
 refine c_seq ?_
 refine c_region ?_
 refine st hA7 (op_loadA rfl ty_26 (hA7.ev rfl) (hS5.bk 0 rfl) (l := [rl, rs, (Value.int .i64 d.spread), rb]) rfl rfl) rfl rfl (by decide) fun a8 hA9 => ?_; clear hA7 a6
 refine stw hA9 (op_call rfl en_35 (ev1 (hA9.ev rfl)) (ready_ok rl rs rb rlv d _ (rnd_at (hS5.ok 1 _ rfl)))) rfl rfl (by decide) ?_
 rintro a10 _ w12 ⟨rfl, hE13⟩ hA11; have hS14 := hS5.step hE13; clear hE13 hA9 hS5 a8
 rw [hf] at hA11
 refine st hA11 (op_not rfl (hA11.ev rfl)) rfl rfl (by decide) fun a15 hA16 => ?_; clear hA11 a10
 refine wl_nil ?_
 refine then_n ?_
 refine c_true hA16 rfl ?_
 refine c_seq ?_
 have hA17 := hA16.as [] rfl; clear hA16
 refine c_region ?_
 refine stw hA17 (op_call rfl en_18 ev0 (wakes_ok _)) rfl rfl (by decide) ?_
 rintro a18 _ w20 ⟨rfl, hE21⟩ hA19; have hS22 := hS14.step hE21; clear hE21 hA17 hS14 a15
 refine st hA19 (op_assign rfl (hA19.ev rfl)) rfl rfl (by decide) fun a23 hA24 => ?_; clear hA19 a18
 refine wl_nil ?_
 refine then_n ?_
 refine c_ret ?_
 refine then_ret ?_
 refine fin_run hA24 (.inl rfl) (run_results1 hA24 rfl (.tmp rfl)) ?_
 exact ⟨rfl, hS22.ext⟩

set_option maxHeartbeats 4000000 in
theorem RoundMore_b (rl rs rb : Value) (rlv : List Value) (d : RD) (w : World) (hR : RoundAt w rl rs rb rlv d) (x y : Nat) (hxb : x < 256) (hyb : y < 256) (hf : readyB d = true) (hx : explB d (offB d.tols.length x) = false) :
  Calls Try.prog 7 #[(Value.agg #[rl, rs, (Value.int .i64 d.spread), rb]), (Value.int .u8 (x : Int)), (Value.int .u8 (y : Int))] w (Ret fun v w' => v = .bool true ∧ Ext NoB w w') := by
 refine calls_enter Try.func7 rfl fun a0 hA0 => ?_
 replace hA0 : Fr 161 [] [(0, (Value.agg #[rl, rs, (Value.int .i64 d.spread), rb])), (1, (Value.int .u8 (x : Int))), (2, (Value.int .u8 (y : Int)))] a0 := hA0
 have hth := thin_of (ready_of hf).1; have hc := (ready_of hf).2; have hV := valid_of hc; have hnb := hV.nb; have hns := hV.ns; have hnl := hV.nl
 have hS0 : Sep NoB w w [(rndR false rl rs rb rlv d)] := sep_ro ⟨rfl, hR, trivial⟩
 refine c_seq ?_
 refine c_region ?_
 refine stw hA0 (op_box hS0 rfl (hA0.ev rfl) (cs := [rl, rs, (Value.int .i64 d.spread), rb]) rfl) rfl rfl (by decide) ?_
 rintro a1 _ w3 ⟨b4, rfl, hS5⟩ hA2; clear hA0 hS0 a0
 refine st hA2 (op_assign rfl (evc _ _)) rfl rfl (by decide) fun a6 hA7 => ?_; clear hA2 a1
 refine wl_nil ?_
 refine then_n ?_
 refine c_seq ?_
 refine c_seq ?_
 refine c_region ?_
 refine st hA7 (op_loadA rfl ty_26 (hA7.ev rfl) (hS5.bk 0 rfl) (l := [rl, rs, (Value.int .i64 d.spread), rb]) rfl rfl) rfl rfl (by decide) fun a8 hA9 => ?_; clear hA7 a6
 refine stw hA9 (op_call rfl en_35 (ev1 (hA9.ev rfl)) (ready_ok rl rs rb rlv d _ (rnd_at (hS5.ok 1 _ rfl)))) rfl rfl (by decide) ?_
 rintro a10 _ w12 ⟨rfl, hE13⟩ hA11; have hS14 := hS5.step hE13; clear hE13 hA9 hS5 a8
 rw [hf] at hA11
 refine st hA11 (op_not rfl (hA11.ev rfl)) rfl rfl (by decide) fun a15 hA16 => ?_; clear hA11 a10
 refine wl_nil ?_
 refine then_n ?_
 refine c_false hA16 rfl ?_
 refine c_skip ?_
 refine then_n ?_
 refine c_seq ?_
 have hA17 := hA16.as [(3, (bptr b4 0)), (1, (Value.int .u8 (x : Int))), (2, (Value.int .u8 (y : Int)))] rfl; clear hA16
 refine c_drawV mixed hA17 hS14 7 [[], [], [0, 1], [], [], [], [4, 5]] [(fun (vs18 : Nat → Value) (v_ : Value) (rs_ : List Res) => v_ = (Value.agg #[rl, rs, (Value.int .i64 d.spread), rb]) ∧ rs_ = []), (fun (vs18 : Nat → Value) (v_ : Value) (rs_ : List Res) => v_ = (Value.int .u8 (x : Int)) ∧ rs_ = []), (fun (vs18 : Nat → Value) (v_ : Value) (rs_ : List Res) => True ∧ rs_ = [(row v_ 3 1 ((chosenF d.tols.length x).length) (ints (chosenF d.tols.length x)))]), (fun (vs18 : Nat → Value) (v_ : Value) (rs_ : List Res) => v_ = (Value.agg #[rl, rs, (Value.int .i64 d.spread), rb]) ∧ rs_ = []), (fun (vs18 : Nat → Value) (v_ : Value) (rs_ : List Res) => v_ = (Value.int .u8 (x : Int)) ∧ rs_ = []), (fun (vs18 : Nat → Value) (v_ : Value) (rs_ : List Res) => v_ = (Value.int .u8 (y : Int)) ∧ rs_ = []), (fun (vs18 : Nat → Value) (v_ : Value) (rs_ : List Res) => v_ = (Value.int .u8 ((x ||| y : Nat) : Int)) ∧ rs_ = [])] (by decide +kernel) (by decide +kernel) rfl rfl ⟨(fun _ _ _ _ _ h_ => h_), (fun _ _ _ _ _ h_ => h_), (fun _ _ _ _ _ h_ => h_), (fun _ _ _ _ _ h_ => h_), (fun _ _ _ _ _ h_ => h_), (fun _ _ _ _ _ h_ => h_), (fun _ _ _ _ _ h_ => h_), trivial⟩ ?_ ?_
 ·skip
  refine ⟨fun a w vs18 hA hS hd => ?_, ?_⟩
  ·skip
   exact opG_of rfl (vv (op_loadA rfl ty_26 (hA.ev rfl) (hS.bk 0 rfl) (l := [rl, rs, (Value.int .i64 d.spread), rb]) rfl rfl) (And.intro rfl rfl))
  refine ⟨fun a w vs18 hA hS hd => ?_, ?_⟩
  ·skip
   exact opG_of rfl (vv (op_move rfl (hA.ev rfl)) (And.intro rfl rfl))
  refine ⟨fun a w vs18 hA hS hd => ?_, ?_⟩
  ·skip
   obtain ⟨e0, rs0, hy0, hp0⟩ := hd 0 (by decide)
   obtain ⟨hv0, hr0⟩ := hy0; subst hr0
   rw [hv0] at e0
   obtain ⟨e1, rs1, hy1, hp1⟩ := hd 1 (by decide)
   obtain ⟨hv1, hr1⟩ := hy1; subst hr1
   rw [hv1] at e1
   exact opG_of rfl (vn (op_call rfl en_36 (ev2 (tmp_ev (slot_ev e0 rfl)) (tmp_ev (slot_ev e1 rfl))) (chosen_ok rl rs rb rlv d _ (rnd_at (hS.ok 1 _ rfl)) x (by omega))) (fun v w' h => ⟨_, And.intro trivial rfl, (Sep.start NoB _).new_row h.1 h.2, rfl⟩))
  refine ⟨fun a w vs18 hA hS hd => ?_, ?_⟩
  ·skip
   exact opG_of rfl (vv (op_loadA rfl ty_26 (hA.ev rfl) (hS.bk 0 rfl) (l := [rl, rs, (Value.int .i64 d.spread), rb]) rfl rfl) (And.intro rfl rfl))
  refine ⟨fun a w vs18 hA hS hd => ?_, ?_⟩
  ·skip
   exact opG_of rfl (vv (op_move rfl (hA.ev rfl)) (And.intro rfl rfl))
  refine ⟨fun a w vs18 hA hS hd => ?_, ?_⟩
  ·skip
   exact opG_of rfl (vv (op_move rfl (hA.ev rfl)) (And.intro rfl rfl))
  refine ⟨fun a w vs18 hA hS hd => ?_, ?_⟩
  ·skip
   obtain ⟨e4, rs4, hy4, hp4⟩ := hd 4 (by decide)
   obtain ⟨hv4, hr4⟩ := hy4; subst hr4
   rw [hv4] at e4
   obtain ⟨e5, rs5, hy5, hp5⟩ := hd 5 (by decide)
   obtain ⟨hv5, hr5⟩ := hy5; subst hr5
   rw [hv5] at e5
   exact opG_of rfl (vv (op_or8 rfl (m := x) (tmp_ev (slot_ev e4 rfl)) (n := y) (tmp_ev (slot_ev e5 rfl)) (by omega) (by omega)) (And.intro rfl rfl))
  trivial
 intro a19 w20 vs18 rsf24 hA21 hH23 hS22; clear hA17 hS14
 obtain ⟨hs_0, hy_0⟩ := hH23 0 (by decide)
 obtain ⟨hv_0, hr_0⟩ := hy_0
 obtain ⟨hs_1, hy_1⟩ := hH23 1 (by decide)
 obtain ⟨hv_1, hr_1⟩ := hy_1
 obtain ⟨hs_2, hy_2⟩ := hH23 2 (by decide)
 obtain ⟨hv_2, hr_2⟩ := hy_2
 obtain ⟨hs_3, hy_3⟩ := hH23 3 (by decide)
 obtain ⟨hv_3, hr_3⟩ := hy_3
 obtain ⟨hs_4, hy_4⟩ := hH23 4 (by decide)
 obtain ⟨hv_4, hr_4⟩ := hy_4
 obtain ⟨hs_5, hy_5⟩ := hH23 5 (by decide)
 obtain ⟨hv_5, hr_5⟩ := hy_5
 obtain ⟨hs_6, hy_6⟩ := hH23 6 (by decide)
 obtain ⟨hv_6, hr_6⟩ := hy_6
 have hS25 : Sep NoB w w20 [(row (vs18 2) 3 1 ((chosenF d.tols.length x).length) (ints (chosenF d.tols.length x))), (blk b4 26 [rl, rs, (Value.int .i64 d.spread), rb]), (rndR false rl rs rb rlv d)] := by rw [show catR rsf24 0 7 = ([(row (vs18 2) 3 1 ((chosenF d.tols.length x).length) (ints (chosenF d.tols.length x)))] : List Res) by (try simp only [catR, hr_0, hr_1, hr_2, hr_3, hr_4, hr_5, hr_6]); (try rfl)] at hS22; exact hS22
 have hA26 : Fr 161 [] [(26, (vs18 2)), (3, (bptr b4 0)), (1, (Value.int .u8 (x : Int))), (2, (Value.int .u8 (y : Int)))] a19 := hA21.add (slot_ev hs_2 rfl); clear hA21
 rw [hv_3] at hs_3
 have hA27 : Fr 161 [] [(27, (Value.agg #[rl, rs, (Value.int .i64 d.spread), rb])), (26, (vs18 2)), (3, (bptr b4 0)), (1, (Value.int .u8 (x : Int))), (2, (Value.int .u8 (y : Int)))] a19 := hA26.add (slot_ev hs_3 rfl); clear hA26
 rw [hv_6] at hs_6
 have hA28 : Fr 161 [] [(30, (Value.int .u8 ((x ||| y : Nat) : Int))), (27, (Value.agg #[rl, rs, (Value.int .i64 d.spread), rb])), (26, (vs18 2)), (3, (bptr b4 0)), (1, (Value.int .u8 (x : Int))), (2, (Value.int .u8 (y : Int)))] a19 := hA27.add (slot_ev hs_6 rfl); clear hA27
 clear hH23 hS22 hs_0 hs_1 hs_2 hs_3 hs_4 hs_5 hs_6
 clear hr_0
 clear hv_0
 clear hr_1
 clear hv_1
 clear hr_2
 clear hv_2
 clear hr_3
 clear hv_3
 clear hr_4
 clear hv_4
 clear hr_5
 clear hv_5
 clear hr_6
 clear hv_6
 refine stw hA28 (op_call rfl en_36 (ev2 (hA28.ev rfl) (hA28.ev rfl)) (chosen_ok rl rs rb rlv d _ (rnd_at (hS25.ok 2 _ rfl)) (x ||| y : Nat) (by omega))) rfl rfl (by decide) ?_
 rintro a29 v35 w31 ⟨hE32, hO33⟩ hA30; have hS34 := hS25.new_row hE32 hO33; clear hE32 hO33 hA28 hS25 a19
 refine st hA30 (op_assign rfl (hA30.ev rfl)) rfl rfl (by decide) fun a36 hA37 => ?_; clear hA30 a29
 refine st hA37 (op_assign rfl (hA37.ev rfl)) rfl rfl (by decide) fun a38 hA39 => ?_; clear hA37 a36
 refine wl_nil ?_
 refine then_n ?_
 refine c_seq ?_
 have hA40 := hA39.as [(8, v35), (7, (vs18 2)), (3, (bptr b4 0))] rfl; clear hA39
 refine c_region ?_
 refine st hA40 (op_loadA rfl ty_26 (hA40.ev rfl) (hS34.bk 2 rfl) (l := [rl, rs, (Value.int .i64 d.spread), rb]) rfl rfl) rfl rfl (by decide) fun a41 hA42 => ?_; clear hA40 a38
 refine stw hA42 (op_call rfl en_20 (ev1 (hA42.ev rfl)) (Round_ok rl rs rb rlv d _ (rnd_at (hS34.ok 3 _ rfl)) hth)) rfl rfl (by decide) ?_
 rintro a43 _ w45 ⟨vl46, vs47, vb48, lv49, rfl, hT50⟩ hA44; have hS51 := hS34.callS hT50 rfl; clear hT50 hA42 hS34 a41
 refine st hA44 (op_move rfl (hA44.ev rfl)) rfl rfl (by decide) fun a52 hA53 => ?_; clear hA44 a43
 refine stw hA53 (op_call rfl en_22 (ev1 (hA53.ev rfl)) (list_ok (chosenF d.tols.length x) _ _ (SlAt.of_row (hS51.ok_row 2 rfl)) (Nat.le_trans (chosenF_len _ _) (by omega)))) rfl rfl (by decide) ?_
 rintro a54 v60 w56 ⟨hE57, hO58⟩ hA55; have hS59 := hS51.new_row hE57 hO58; clear hE57 hO58 hA53 hS51 a52
 refine stw hA55 (op_call rfl en_21 (ev2 (hA55.ev rfl) (hA55.ev rfl)) (by have h := (explains_ok vl46 vs47 vb48 lv49 d _ (rnd_at (hS59.ok 1 _ rfl)) _ (chosenF d.tols.length x) (SlAt.of_row (hS59.ok_row 0 rfl)) (Nat.le_trans (chosenF_len _ _) (by omega))); rw [(chosen_explains hc x).trans (by rw [hx])] at h; exact h)) rfl rfl (by decide) ?_
 rintro a61 _ w63 ⟨rfl, hE64⟩ hA62; have hS65 := hS59.step hE64; clear hE64 hA55 hS59 a54
 refine st hA62 (op_move rfl (hA62.ev rfl)) rfl rfl (by decide) fun a66 hA67 => ?_; clear hA62 a61
 refine st hA67 (op_extract rfl (hA67.ev rfl) rfl) rfl rfl (by decide) fun a68 hA69 => ?_; clear hA67 a66
 refine st hA69 (op_extract rfl (hA69.ev rfl) rfl) rfl rfl (by decide) fun a70 hA71 => ?_; clear hA69 a68
 refine st hA71 (op_assign rfl (hA71.ev rfl)) rfl rfl (by decide) fun a72 hA73 => ?_; clear hA71 a70
 refine st hA73 (op_assign rfl (hA73.ev rfl)) rfl rfl (by decide) fun a74 hA75 => ?_; clear hA73 a72
 refine wl_nil ?_
 refine then_n ?_
 refine c_seq ?_
 have hA76 := hA75.as [(10, (Value.int .i64 0)), (9, (Value.bool false)), (8, v35), (7, (vs18 2)), (3, (bptr b4 0))] rfl; clear hA75
 refine c_region ?_
 refine st hA76 (op_loadA rfl ty_26 (hA76.ev rfl) (hS65.bk 4 rfl) (l := [rl, rs, (Value.int .i64 d.spread), rb]) rfl rfl) rfl rfl (by decide) fun a77 hA78 => ?_; clear hA76 a74
 refine stw hA78 (op_call rfl en_20 (ev1 (hA78.ev rfl)) (Round_ok rl rs rb rlv d _ (rnd_at (hS65.ok 5 _ rfl)) hth)) rfl rfl (by decide) ?_
 rintro a79 _ w81 ⟨vl82, vs83, vb84, lv85, rfl, hT86⟩ hA80; have hS87 := hS65.callS hT86 rfl; clear hT86 hA78 hS65 a77
 refine st hA80 (op_move rfl (hA80.ev rfl)) rfl rfl (by decide) fun a88 hA89 => ?_; clear hA80 a79
 refine stw hA89 (op_call rfl en_22 (ev1 (hA89.ev rfl)) (list_ok (chosenF d.tols.length (x ||| y : Nat)) _ _ (SlAt.of_row (hS87.ok_row 3 rfl)) (Nat.le_trans (chosenF_len _ _) (by omega)))) rfl rfl (by decide) ?_
 rintro a90 v96 w92 ⟨hE93, hO94⟩ hA91; have hS95 := hS87.new_row hE93 hO94; clear hE93 hO94 hA89 hS87 a88
 refine stw hA91 (op_call rfl en_21 (ev2 (hA91.ev rfl) (hA91.ev rfl)) (by have h := (explains_ok vl82 vs83 vb84 lv85 d _ (rnd_at (hS95.ok 1 _ rfl)) _ (chosenF d.tols.length (x ||| y : Nat)) (SlAt.of_row (hS95.ok_row 0 rfl)) (Nat.le_trans (chosenF_len _ _) (by omega))); rw [chosen_explains hc (x ||| y)] at h; exact h)) rfl rfl (by decide) ?_
 rintro a97 _ w99 ⟨rfl, hE100⟩ hA98; have hS101 := hS95.step hE100; clear hE100 hA91 hS95 a90
 refine st hA98 (op_move rfl (hA98.ev rfl)) rfl rfl (by decide) fun a102 hA103 => ?_; clear hA98 a97
 refine st hA103 (op_extract rfl (hA103.ev rfl) rfl) rfl rfl (by decide) fun a104 hA105 => ?_; clear hA103 a102
 refine st hA105 (op_extract rfl (hA105.ev rfl) rfl) rfl rfl (by decide) fun a106 hA107 => ?_; clear hA105 a104
 refine st hA107 (op_assign rfl (hA107.ev rfl)) rfl rfl (by decide) fun a108 hA109 => ?_; clear hA107 a106
 refine st hA109 (op_assign rfl (hA109.ev rfl)) rfl rfl (by decide) fun a110 hA111 => ?_; clear hA109 a108
 refine wl_nil ?_
 refine then_n ?_
 refine c_seq ?_
 have hA112 := hA111.as [(12, (Value.int .i64 0)), (11, (Value.bool (explB d (offB d.tols.length (x ||| y))))), (10, (Value.int .i64 0)), (9, (Value.bool false)), (8, v35), (7, (vs18 2)), (3, (bptr b4 0))] rfl; clear hA111
 have hA113 := hA112.as [(12, (Value.int .i64 0)), (11, (Value.bool (explB d (offB d.tols.length (x ||| y))))), (10, (Value.int .i64 0)), (9, (Value.bool false)), (8, v35), (7, (vs18 2)), (3, (bptr b4 0))] rfl; clear hA112
 refine c_drawV mixed hA113 hS101 9 [[], [0], [], [2], [1, 3], [4], [5], [5], [6]] [(fun (vs114 : Nat → Value) (v_ : Value) (rs_ : List Res) => v_ = (Value.agg #[rl, rs, (Value.int .i64 d.spread), rb]) ∧ rs_ = []), (fun (vs114 : Nat → Value) (v_ : Value) (rs_ : List Res) => ∃ (lv1_ : List Value), v_ = (Value.agg #[(comp v_ 0), (comp v_ 1), (Value.int .i64 d.spread), (comp v_ 3)]) ∧ rs_ = [(rndR true (comp v_ 0) (comp v_ 1) (comp v_ 3) lv1_ d)]), (fun (vs114 : Nat → Value) (v_ : Value) (rs_ : List Res) => v_ = (Value.agg #[rl, rs, (Value.int .i64 d.spread), rb]) ∧ rs_ = []), (fun (vs114 : Nat → Value) (v_ : Value) (rs_ : List Res) => True ∧ rs_ = [(row v_ 3 1 ((chosenF d.tols.length 255).length) (ints (chosenF d.tols.length 255)))]), (fun (vs114 : Nat → Value) (v_ : Value) (rs_ : List Res) => v_ = (Value.tuple #[(Value.bool true), (Value.int .i64 0)]) ∧ rs_ = []), (fun (vs114 : Nat → Value) (v_ : Value) (rs_ : List Res) => v_ = (Value.tuple #[(Value.bool true), (Value.int .i64 0)]) ∧ rs_ = []), (fun (vs114 : Nat → Value) (v_ : Value) (rs_ : List Res) => v_ = (Value.bool true) ∧ rs_ = []), (fun (vs114 : Nat → Value) (v_ : Value) (rs_ : List Res) => v_ = (Value.int .i64 0) ∧ rs_ = []), (fun (vs114 : Nat → Value) (v_ : Value) (rs_ : List Res) => v_ = (Value.bool true) ∧ rs_ = [])] (by decide +kernel) (by decide +kernel) rfl rfl ⟨(fun _ _ _ _ _ h_ => h_), (fun _ _ _ _ _ h_ => h_), (fun _ _ _ _ _ h_ => h_), (fun _ _ _ _ _ h_ => h_), (fun _ _ _ _ _ h_ => h_), (fun _ _ _ _ _ h_ => h_), (fun _ _ _ _ _ h_ => h_), (fun _ _ _ _ _ h_ => h_), (fun _ _ _ _ _ h_ => h_), trivial⟩ ?_ ?_
 ·skip
  refine ⟨fun a w vs114 hA hS hd => ?_, ?_⟩
  ·skip
   exact opG_of rfl (vv (op_loadA rfl ty_26 (hA.ev rfl) (hS.bk 6 rfl) (l := [rl, rs, (Value.int .i64 d.spread), rb]) rfl rfl) (And.intro rfl rfl))
  refine ⟨fun a w vs114 hA hS hd => ?_, ?_⟩
  ·skip
   obtain ⟨e0, rs0, hy0, hp0⟩ := hd 0 (by decide)
   obtain ⟨hv0, hr0⟩ := hy0; subst hr0
   rw [hv0] at e0
   exact opG_of rfl (vn (op_call rfl en_20 (ev1 (tmp_ev (slot_ev e0 rfl))) (Round_ok rl rs rb rlv d _ (rnd_at (hS.ok 7 _ rfl)) hth)) (fun v w' h => by obtain ⟨vl, vs, vb, lv, rfl, hT⟩ := h; exact ⟨_, ⟨lv, rfl, rfl⟩, hT, rfl⟩))
  refine ⟨fun a w vs114 hA hS hd => ?_, ?_⟩
  ·skip
   exact opG_of rfl (vv (op_loadA rfl ty_26 (hA.ev rfl) (hS.bk 6 rfl) (l := [rl, rs, (Value.int .i64 d.spread), rb]) rfl rfl) (And.intro rfl rfl))
  refine ⟨fun a w vs114 hA hS hd => ?_, ?_⟩
  ·skip
   obtain ⟨e2, rs2, hy2, hp2⟩ := hd 2 (by decide)
   obtain ⟨hv2, hr2⟩ := hy2; subst hr2
   rw [hv2] at e2
   exact opG_of rfl (vn (op_call rfl en_36 (ev2 (tmp_ev (slot_ev e2 rfl)) (evc _ _)) (chosen_ok rl rs rb rlv d _ (rnd_at (hS.ok 7 _ rfl)) 255 (by omega))) (fun v w' h => ⟨_, And.intro trivial rfl, (Sep.start NoB _).new_row h.1 h.2, rfl⟩))
  refine ⟨fun a w vs114 hA hS hd => ?_, ?_⟩
  ·skip
   obtain ⟨e1, rs1, hy1, hp1⟩ := hd 1 (by decide)
   obtain ⟨lv1_, hv1, hr1⟩ := hy1; subst hr1
   rw [hv1] at e1
   have hp1_0 := hp1 _ (List.mem_of_getElem? (i := 0) rfl)
   obtain ⟨e3, rs3, hy3, hp3⟩ := hd 3 (by decide)
   obtain ⟨hv3, hr3⟩ := hy3; subst hr3
   have hp3_0 := hp3 _ (List.mem_of_getElem? (i := 0) rfl)
   exact opG_of rfl (vx (op_call rfl en_21 (ev2 (tmp_ev (slot_ev e1 rfl)) (tmp_ev (slot_ev e3 rfl))) (by have h := (explains_ok (comp (vs114 1) 0) (comp (vs114 1) 1) (comp (vs114 1) 3) lv1_ d _ (rnd_at hp1_0) _ (chosenF d.tols.length 255) (SlAt.of_row hp3_0) (Nat.le_trans (chosenF_len _ _) (by omega))); rw [chosen_all hc] at h; exact h)) (And.intro rfl rfl))
  refine ⟨fun a w vs114 hA hS hd => ?_, ?_⟩
  ·skip
   obtain ⟨e4, rs4, hy4, hp4⟩ := hd 4 (by decide)
   obtain ⟨hv4, hr4⟩ := hy4; subst hr4
   rw [hv4] at e4
   exact opG_of rfl (vv (op_move rfl (tmp_ev (slot_ev e4 rfl))) (And.intro rfl rfl))
  refine ⟨fun a w vs114 hA hS hd => ?_, ?_⟩
  ·skip
   obtain ⟨e5, rs5, hy5, hp5⟩ := hd 5 (by decide)
   obtain ⟨hv5, hr5⟩ := hy5; subst hr5
   rw [hv5] at e5
   exact opG_of rfl (vv (op_extract rfl (tmp_ev (slot_ev e5 rfl)) rfl) (And.intro rfl rfl))
  refine ⟨fun a w vs114 hA hS hd => ?_, ?_⟩
  ·skip
   obtain ⟨e5, rs5, hy5, hp5⟩ := hd 5 (by decide)
   obtain ⟨hv5, hr5⟩ := hy5; subst hr5
   rw [hv5] at e5
   exact opG_of rfl (vv (op_extract rfl (tmp_ev (slot_ev e5 rfl)) rfl) (And.intro rfl rfl))
  refine ⟨fun a w vs114 hA hS hd => ?_, ?_⟩
  ·skip
   obtain ⟨e6, rs6, hy6, hp6⟩ := hd 6 (by decide)
   obtain ⟨hv6, hr6⟩ := hy6; subst hr6
   rw [hv6] at e6
   exact opG_of rfl (vv (op_assign rfl (tmp_ev (slot_ev e6 rfl))) (And.intro rfl rfl))
  trivial
 intro a115 w116 vs114 rsf120 hA117 hH119 hS118; clear hA113 hS101
 obtain ⟨hs_0, hy_0⟩ := hH119 0 (by decide)
 obtain ⟨hv_0, hr_0⟩ := hy_0
 obtain ⟨hs_1, hy_1⟩ := hH119 1 (by decide)
 obtain ⟨lv1_, hv_1, hr_1⟩ := hy_1
 obtain ⟨hs_2, hy_2⟩ := hH119 2 (by decide)
 obtain ⟨hv_2, hr_2⟩ := hy_2
 obtain ⟨hs_3, hy_3⟩ := hH119 3 (by decide)
 obtain ⟨hv_3, hr_3⟩ := hy_3
 obtain ⟨hs_4, hy_4⟩ := hH119 4 (by decide)
 obtain ⟨hv_4, hr_4⟩ := hy_4
 obtain ⟨hs_5, hy_5⟩ := hH119 5 (by decide)
 obtain ⟨hv_5, hr_5⟩ := hy_5
 obtain ⟨hs_6, hy_6⟩ := hH119 6 (by decide)
 obtain ⟨hv_6, hr_6⟩ := hy_6
 obtain ⟨hs_7, hy_7⟩ := hH119 7 (by decide)
 obtain ⟨hv_7, hr_7⟩ := hy_7
 obtain ⟨hs_8, hy_8⟩ := hH119 8 (by decide)
 obtain ⟨hv_8, hr_8⟩ := hy_8
 have hS121 : Sep NoB w w116 [(rndR true (comp (vs114 1) 0) (comp (vs114 1) 1) (comp (vs114 1) 3) lv1_ d), (row (vs114 3) 3 1 ((chosenF d.tols.length 255).length) (ints (chosenF d.tols.length 255))), (row v96 3 1 ((chosenF d.tols.length (x ||| y : Nat)).length) (ints (chosenF d.tols.length (x ||| y : Nat)))), (rndR true vl82 vs83 vb84 lv85 d), (row v60 3 1 ((chosenF d.tols.length x).length) (ints (chosenF d.tols.length x))), (rndR true vl46 vs47 vb48 lv49 d), (row v35 3 1 ((chosenF d.tols.length (x ||| y : Nat)).length) (ints (chosenF d.tols.length (x ||| y : Nat)))), (row (vs18 2) 3 1 ((chosenF d.tols.length x).length) (ints (chosenF d.tols.length x))), (blk b4 26 [rl, rs, (Value.int .i64 d.spread), rb]), (rndR false rl rs rb rlv d)] := by rw [show catR rsf120 0 9 = ([(rndR true (comp (vs114 1) 0) (comp (vs114 1) 1) (comp (vs114 1) 3) lv1_ d), (row (vs114 3) 3 1 ((chosenF d.tols.length 255).length) (ints (chosenF d.tols.length 255)))] : List Res) by (try simp only [catR, hr_0, hr_1, hr_2, hr_3, hr_4, hr_5, hr_6, hr_7, hr_8]); (try rfl)] at hS118; exact hS118
 rw [hv_7] at hs_7
 have hA122 : Fr 161 [] [(55, (Value.int .i64 0)), (12, (Value.int .i64 0)), (11, (Value.bool (explB d (offB d.tols.length (x ||| y))))), (10, (Value.int .i64 0)), (9, (Value.bool false)), (8, v35), (7, (vs18 2)), (3, (bptr b4 0))] a115 := hA117.add (slot_ev hs_7 rfl); clear hA117
 rw [hv_8] at hs_8
 have hA123 : Fr 161 [] [(13, (Value.bool true)), (55, (Value.int .i64 0)), (12, (Value.int .i64 0)), (11, (Value.bool (explB d (offB d.tols.length (x ||| y))))), (10, (Value.int .i64 0)), (9, (Value.bool false)), (8, v35), (7, (vs18 2)), (3, (bptr b4 0))] a115 := hA122.add (slot_ev hs_8 rfl); clear hA122
 clear hH119 hS118 hs_0 hs_1 hs_2 hs_3 hs_4 hs_5 hs_6 hs_7 hs_8
 clear hr_0
 clear hv_0
 clear hr_1
 clear hv_1
 clear hr_2
 clear hv_2
 clear hr_3
 clear hv_3
 clear hr_4
 clear hv_4
 clear hr_5
 clear hv_5
 clear hr_6
 clear hv_6
 clear hr_7
 clear hv_7
 clear hr_8
 clear hv_8
 refine st hA123 (op_assign rfl (hA123.ev rfl)) rfl rfl (by decide) fun a124 hA125 => ?_; clear hA123 a115
 refine wl_nil ?_
 refine then_n ?_
 refine c_seq ?_
 refine c_seq ?_
 refine c_region ?_
 refine st hA125 (op_move rfl (hA125.ev rfl)) rfl rfl (by decide) fun a126 hA127 => ?_; clear hA125 a124
 refine st hA127 (op_neq rfl (hA127.ev rfl) (evc _ _)) rfl rfl (by decide) fun a128 hA129 => ?_; clear hA127 a126
 refine st hA129 (op_move rfl (hA129.ev rfl)) rfl rfl (by decide) fun a130 hA131 => ?_; clear hA129 a128
 refine stg hA131 (op_move rfl (hA131.ev rfl)) rfl rfl rfl rfl (by decide) fun a132 hA133 => ?_; clear hA131 a130
 refine stg hA133 (op_neq rfl (hA133.ev rfl) (evc _ _)) rfl rfl rfl rfl (by decide) fun a134 hA135 => ?_; clear hA133 a132
 refine st hA135 (op_pick_f rfl (hA135.ev rfl) (hA135.ev rfl)) rfl rfl (by decide) fun a136 hA137 => ?_; clear hA135 a134
 refine st hA137 (op_move rfl (hA137.ev rfl)) rfl rfl (by decide) fun a138 hA139 => ?_; clear hA137 a136
 refine stg hA139 (op_move rfl (hA139.ev rfl)) rfl rfl rfl rfl (by decide) fun a140 hA141 => ?_; clear hA139 a138
 refine stg hA141 (op_neq rfl (hA141.ev rfl) (evc _ _)) rfl rfl rfl rfl (by decide) fun a142 hA143 => ?_; clear hA141 a140
 refine st hA143 (op_pick_f rfl (hA143.ev rfl) (hA143.ev rfl)) rfl rfl (by decide) fun a144 hA145 => ?_; clear hA143 a142
 refine st hA145 (op_move rfl (hA145.ev rfl)) rfl rfl (by decide) fun a146 hA147 => ?_; clear hA145 a144
 refine stg hA147 (op_move rfl (hA147.ev rfl)) rfl rfl rfl rfl (by decide) fun a148 hA149 => ?_; clear hA147 a146
 refine stg hA149 (op_move rfl (hA149.ev rfl)) rfl rfl rfl rfl (by decide) fun a150 hA151 => ?_; clear hA149 a148
 refine skp hA151 rfl rfl rfl rfl rfl (by decide) fun a152 hA153 => ?_; clear hA151 a150
 refine skp hA153 rfl rfl rfl rfl rfl (by decide) fun a154 hA155 => ?_; clear hA153 a152
 refine stg hA155 (op_pick_f rfl (hA155.ev rfl) (evc _ _)) rfl rfl rfl rfl (by decide) fun a156 hA157 => ?_; clear hA155 a154
 refine st hA157 (op_pick_f rfl (hA157.ev rfl) (hA157.ev rfl)) rfl rfl (by decide) fun a158 hA159 => ?_; clear hA157 a156
 refine st hA159 (op_move rfl (hA159.ev rfl)) rfl rfl (by decide) fun a160 hA161 => ?_; clear hA159 a158
 refine stg hA161 (op_move rfl (hA161.ev rfl)) rfl rfl rfl rfl (by decide) fun a162 hA163 => ?_; clear hA161 a160
 refine stg hA163 (op_not rfl (hA163.ev rfl)) rfl rfl rfl rfl (by decide) fun a164 hA165 => ?_; clear hA163 a162
 refine st hA165 (op_pick_f rfl (hA165.ev rfl) (hA165.ev rfl)) rfl rfl (by decide) fun a166 hA167 => ?_; clear hA165 a164
 refine wl_nil ?_
 refine then_n ?_
 refine c_false hA167 rfl ?_
 refine c_skip ?_
 refine then_n ?_
 refine c_seq ?_
 refine c_seq ?_
 have hA168 := hA167.as [(9, (Value.bool false)), (8, v35), (7, (vs18 2)), (3, (bptr b4 0))] rfl; clear hA167
 refine c_region ?_
 refine st hA168 (op_move rfl (hA168.ev rfl)) rfl rfl (by decide) fun a169 hA170 => ?_; clear hA168 a166
 refine st hA170 (op_not rfl (hA170.ev rfl)) rfl rfl (by decide) fun a171 hA172 => ?_; clear hA170 a169
 refine wl_nil ?_
 refine then_n ?_
 refine c_true hA172 rfl ?_
 refine c_seq ?_
 have hA173 := hA172.as [] rfl; clear hA172
 refine c_region ?_
 refine stw hA173 (op_call rfl en_18 ev0 (wakes_ok _)) rfl rfl (by decide) ?_
 rintro a174 _ w176 ⟨rfl, hE177⟩ hA175; have hS178 := hS121.step hE177; clear hE177 hA173 hS121 a171
 refine st hA175 (op_assign rfl (hA175.ev rfl)) rfl rfl (by decide) fun a179 hA180 => ?_; clear hA175 a174
 refine wl_nil ?_
 refine then_n ?_
 refine c_ret ?_
 refine then_ret ?_
 refine fin_run hA180 (.inl rfl) (run_results1 hA180 rfl (.tmp rfl)) ?_
 exact ⟨rfl, hS178.ext⟩

set_option maxHeartbeats 4000000 in
theorem RoundMore_c (rl rs rb : Value) (rlv : List Value) (d : RD) (w : World) (hR : RoundAt w rl rs rb rlv d) (x y : Nat) (hxb : x < 256) (hyb : y < 256) (hf : readyB d = true) (hx : explB d (offB d.tols.length x) = true) (hy : explB d (offB d.tols.length (x ||| y)) = true) (S1 S2 : List (Int × Int)) (hs1 : spansR d (chosenF d.tols.length x) = (S1, 0)) (hs2 : spansR d (chosenF d.tols.length (x ||| y)) = (S2, 0)) (hl1 : S1.length = d.samples.length) (hl2 : S2.length = d.samples.length) (hb : ∀ k, k < d.samples.length → (S2.getD k (0, 0)).1 ≤ (S1.getD k (0, 0)).1 ∧ (S1.getD k (0, 0)).2 ≤ (S2.getD k (0, 0)).2 ∧ (S1.getD k (0, 0)).1 ≤ (S1.getD k (0, 0)).2) :
  Calls Try.prog 7 #[(Value.agg #[rl, rs, (Value.int .i64 d.spread), rb]), (Value.int .u8 (x : Int)), (Value.int .u8 (y : Int))] w (Ret fun v w' => v = .bool true ∧ Ext NoB w w') := by
 refine calls_enter Try.func7 rfl fun a0 hA0 => ?_
 replace hA0 : Fr 161 [] [(0, (Value.agg #[rl, rs, (Value.int .i64 d.spread), rb])), (1, (Value.int .u8 (x : Int))), (2, (Value.int .u8 (y : Int)))] a0 := hA0
 have hth := thin_of (ready_of hf).1; have hc := (ready_of hf).2; have hV := valid_of hc; have hnb := hV.nb; have hns := hV.ns; have hnl := hV.nl
 have hS0 : Sep NoB w w [(rndR false rl rs rb rlv d)] := sep_ro ⟨rfl, hR, trivial⟩
 refine c_seq ?_
 refine c_region ?_
 refine stw hA0 (op_box hS0 rfl (hA0.ev rfl) (cs := [rl, rs, (Value.int .i64 d.spread), rb]) rfl) rfl rfl (by decide) ?_
 rintro a1 _ w3 ⟨b4, rfl, hS5⟩ hA2; clear hA0 hS0 a0
 refine st hA2 (op_assign rfl (evc _ _)) rfl rfl (by decide) fun a6 hA7 => ?_; clear hA2 a1
 refine wl_nil ?_
 refine then_n ?_
 refine c_seq ?_
 refine c_seq ?_
 refine c_region ?_
 refine st hA7 (op_loadA rfl ty_26 (hA7.ev rfl) (hS5.bk 0 rfl) (l := [rl, rs, (Value.int .i64 d.spread), rb]) rfl rfl) rfl rfl (by decide) fun a8 hA9 => ?_; clear hA7 a6
 refine stw hA9 (op_call rfl en_35 (ev1 (hA9.ev rfl)) (ready_ok rl rs rb rlv d _ (rnd_at (hS5.ok 1 _ rfl)))) rfl rfl (by decide) ?_
 rintro a10 _ w12 ⟨rfl, hE13⟩ hA11; have hS14 := hS5.step hE13; clear hE13 hA9 hS5 a8
 rw [hf] at hA11
 refine st hA11 (op_not rfl (hA11.ev rfl)) rfl rfl (by decide) fun a15 hA16 => ?_; clear hA11 a10
 refine wl_nil ?_
 refine then_n ?_
 refine c_false hA16 rfl ?_
 refine c_skip ?_
 refine then_n ?_
 refine c_seq ?_
 have hA17 := hA16.as [(3, (bptr b4 0)), (1, (Value.int .u8 (x : Int))), (2, (Value.int .u8 (y : Int)))] rfl; clear hA16
 refine c_drawV mixed hA17 hS14 7 [[], [], [0, 1], [], [], [], [4, 5]] [(fun (vs18 : Nat → Value) (v_ : Value) (rs_ : List Res) => v_ = (Value.agg #[rl, rs, (Value.int .i64 d.spread), rb]) ∧ rs_ = []), (fun (vs18 : Nat → Value) (v_ : Value) (rs_ : List Res) => v_ = (Value.int .u8 (x : Int)) ∧ rs_ = []), (fun (vs18 : Nat → Value) (v_ : Value) (rs_ : List Res) => True ∧ rs_ = [(row v_ 3 1 ((chosenF d.tols.length x).length) (ints (chosenF d.tols.length x)))]), (fun (vs18 : Nat → Value) (v_ : Value) (rs_ : List Res) => v_ = (Value.agg #[rl, rs, (Value.int .i64 d.spread), rb]) ∧ rs_ = []), (fun (vs18 : Nat → Value) (v_ : Value) (rs_ : List Res) => v_ = (Value.int .u8 (x : Int)) ∧ rs_ = []), (fun (vs18 : Nat → Value) (v_ : Value) (rs_ : List Res) => v_ = (Value.int .u8 (y : Int)) ∧ rs_ = []), (fun (vs18 : Nat → Value) (v_ : Value) (rs_ : List Res) => v_ = (Value.int .u8 ((x ||| y : Nat) : Int)) ∧ rs_ = [])] (by decide +kernel) (by decide +kernel) rfl rfl ⟨(fun _ _ _ _ _ h_ => h_), (fun _ _ _ _ _ h_ => h_), (fun _ _ _ _ _ h_ => h_), (fun _ _ _ _ _ h_ => h_), (fun _ _ _ _ _ h_ => h_), (fun _ _ _ _ _ h_ => h_), (fun _ _ _ _ _ h_ => h_), trivial⟩ ?_ ?_
 ·skip
  refine ⟨fun a w vs18 hA hS hd => ?_, ?_⟩
  ·skip
   exact opG_of rfl (vv (op_loadA rfl ty_26 (hA.ev rfl) (hS.bk 0 rfl) (l := [rl, rs, (Value.int .i64 d.spread), rb]) rfl rfl) (And.intro rfl rfl))
  refine ⟨fun a w vs18 hA hS hd => ?_, ?_⟩
  ·skip
   exact opG_of rfl (vv (op_move rfl (hA.ev rfl)) (And.intro rfl rfl))
  refine ⟨fun a w vs18 hA hS hd => ?_, ?_⟩
  ·skip
   obtain ⟨e0, rs0, hy0, hp0⟩ := hd 0 (by decide)
   obtain ⟨hv0, hr0⟩ := hy0; subst hr0
   rw [hv0] at e0
   obtain ⟨e1, rs1, hy1, hp1⟩ := hd 1 (by decide)
   obtain ⟨hv1, hr1⟩ := hy1; subst hr1
   rw [hv1] at e1
   exact opG_of rfl (vn (op_call rfl en_36 (ev2 (tmp_ev (slot_ev e0 rfl)) (tmp_ev (slot_ev e1 rfl))) (chosen_ok rl rs rb rlv d _ (rnd_at (hS.ok 1 _ rfl)) x (by omega))) (fun v w' h => ⟨_, And.intro trivial rfl, (Sep.start NoB _).new_row h.1 h.2, rfl⟩))
  refine ⟨fun a w vs18 hA hS hd => ?_, ?_⟩
  ·skip
   exact opG_of rfl (vv (op_loadA rfl ty_26 (hA.ev rfl) (hS.bk 0 rfl) (l := [rl, rs, (Value.int .i64 d.spread), rb]) rfl rfl) (And.intro rfl rfl))
  refine ⟨fun a w vs18 hA hS hd => ?_, ?_⟩
  ·skip
   exact opG_of rfl (vv (op_move rfl (hA.ev rfl)) (And.intro rfl rfl))
  refine ⟨fun a w vs18 hA hS hd => ?_, ?_⟩
  ·skip
   exact opG_of rfl (vv (op_move rfl (hA.ev rfl)) (And.intro rfl rfl))
  refine ⟨fun a w vs18 hA hS hd => ?_, ?_⟩
  ·skip
   obtain ⟨e4, rs4, hy4, hp4⟩ := hd 4 (by decide)
   obtain ⟨hv4, hr4⟩ := hy4; subst hr4
   rw [hv4] at e4
   obtain ⟨e5, rs5, hy5, hp5⟩ := hd 5 (by decide)
   obtain ⟨hv5, hr5⟩ := hy5; subst hr5
   rw [hv5] at e5
   exact opG_of rfl (vv (op_or8 rfl (m := x) (tmp_ev (slot_ev e4 rfl)) (n := y) (tmp_ev (slot_ev e5 rfl)) (by omega) (by omega)) (And.intro rfl rfl))
  trivial
 intro a19 w20 vs18 rsf24 hA21 hH23 hS22; clear hA17 hS14
 obtain ⟨hs_0, hy_0⟩ := hH23 0 (by decide)
 obtain ⟨hv_0, hr_0⟩ := hy_0
 obtain ⟨hs_1, hy_1⟩ := hH23 1 (by decide)
 obtain ⟨hv_1, hr_1⟩ := hy_1
 obtain ⟨hs_2, hy_2⟩ := hH23 2 (by decide)
 obtain ⟨hv_2, hr_2⟩ := hy_2
 obtain ⟨hs_3, hy_3⟩ := hH23 3 (by decide)
 obtain ⟨hv_3, hr_3⟩ := hy_3
 obtain ⟨hs_4, hy_4⟩ := hH23 4 (by decide)
 obtain ⟨hv_4, hr_4⟩ := hy_4
 obtain ⟨hs_5, hy_5⟩ := hH23 5 (by decide)
 obtain ⟨hv_5, hr_5⟩ := hy_5
 obtain ⟨hs_6, hy_6⟩ := hH23 6 (by decide)
 obtain ⟨hv_6, hr_6⟩ := hy_6
 have hS25 : Sep NoB w w20 [(row (vs18 2) 3 1 ((chosenF d.tols.length x).length) (ints (chosenF d.tols.length x))), (blk b4 26 [rl, rs, (Value.int .i64 d.spread), rb]), (rndR false rl rs rb rlv d)] := by rw [show catR rsf24 0 7 = ([(row (vs18 2) 3 1 ((chosenF d.tols.length x).length) (ints (chosenF d.tols.length x)))] : List Res) by (try simp only [catR, hr_0, hr_1, hr_2, hr_3, hr_4, hr_5, hr_6]); (try rfl)] at hS22; exact hS22
 have hA26 : Fr 161 [] [(26, (vs18 2)), (3, (bptr b4 0)), (1, (Value.int .u8 (x : Int))), (2, (Value.int .u8 (y : Int)))] a19 := hA21.add (slot_ev hs_2 rfl); clear hA21
 rw [hv_3] at hs_3
 have hA27 : Fr 161 [] [(27, (Value.agg #[rl, rs, (Value.int .i64 d.spread), rb])), (26, (vs18 2)), (3, (bptr b4 0)), (1, (Value.int .u8 (x : Int))), (2, (Value.int .u8 (y : Int)))] a19 := hA26.add (slot_ev hs_3 rfl); clear hA26
 rw [hv_6] at hs_6
 have hA28 : Fr 161 [] [(30, (Value.int .u8 ((x ||| y : Nat) : Int))), (27, (Value.agg #[rl, rs, (Value.int .i64 d.spread), rb])), (26, (vs18 2)), (3, (bptr b4 0)), (1, (Value.int .u8 (x : Int))), (2, (Value.int .u8 (y : Int)))] a19 := hA27.add (slot_ev hs_6 rfl); clear hA27
 clear hH23 hS22 hs_0 hs_1 hs_2 hs_3 hs_4 hs_5 hs_6
 clear hr_0
 clear hv_0
 clear hr_1
 clear hv_1
 clear hr_2
 clear hv_2
 clear hr_3
 clear hv_3
 clear hr_4
 clear hv_4
 clear hr_5
 clear hv_5
 clear hr_6
 clear hv_6
 refine stw hA28 (op_call rfl en_36 (ev2 (hA28.ev rfl) (hA28.ev rfl)) (chosen_ok rl rs rb rlv d _ (rnd_at (hS25.ok 2 _ rfl)) (x ||| y : Nat) (by omega))) rfl rfl (by decide) ?_
 rintro a29 v35 w31 ⟨hE32, hO33⟩ hA30; have hS34 := hS25.new_row hE32 hO33; clear hE32 hO33 hA28 hS25 a19
 refine st hA30 (op_assign rfl (hA30.ev rfl)) rfl rfl (by decide) fun a36 hA37 => ?_; clear hA30 a29
 refine st hA37 (op_assign rfl (hA37.ev rfl)) rfl rfl (by decide) fun a38 hA39 => ?_; clear hA37 a36
 refine wl_nil ?_
 refine then_n ?_
 refine c_seq ?_
 have hA40 := hA39.as [(8, v35), (7, (vs18 2)), (3, (bptr b4 0))] rfl; clear hA39
 refine c_region ?_
 refine st hA40 (op_loadA rfl ty_26 (hA40.ev rfl) (hS34.bk 2 rfl) (l := [rl, rs, (Value.int .i64 d.spread), rb]) rfl rfl) rfl rfl (by decide) fun a41 hA42 => ?_; clear hA40 a38
 refine stw hA42 (op_call rfl en_20 (ev1 (hA42.ev rfl)) (Round_ok rl rs rb rlv d _ (rnd_at (hS34.ok 3 _ rfl)) hth)) rfl rfl (by decide) ?_
 rintro a43 _ w45 ⟨vl46, vs47, vb48, lv49, rfl, hT50⟩ hA44; have hS51 := hS34.callS hT50 rfl; clear hT50 hA42 hS34 a41
 refine st hA44 (op_move rfl (hA44.ev rfl)) rfl rfl (by decide) fun a52 hA53 => ?_; clear hA44 a43
 refine stw hA53 (op_call rfl en_22 (ev1 (hA53.ev rfl)) (list_ok (chosenF d.tols.length x) _ _ (SlAt.of_row (hS51.ok_row 2 rfl)) (Nat.le_trans (chosenF_len _ _) (by omega)))) rfl rfl (by decide) ?_
 rintro a54 v60 w56 ⟨hE57, hO58⟩ hA55; have hS59 := hS51.new_row hE57 hO58; clear hE57 hO58 hA53 hS51 a52
 refine stw hA55 (op_call rfl en_21 (ev2 (hA55.ev rfl) (hA55.ev rfl)) (by have h := (explains_ok vl46 vs47 vb48 lv49 d _ (rnd_at (hS59.ok 1 _ rfl)) _ (chosenF d.tols.length x) (SlAt.of_row (hS59.ok_row 0 rfl)) (Nat.le_trans (chosenF_len _ _) (by omega))); rw [(chosen_explains hc x).trans (by rw [hx])] at h; exact h)) rfl rfl (by decide) ?_
 rintro a61 _ w63 ⟨rfl, hE64⟩ hA62; have hS65 := hS59.step hE64; clear hE64 hA55 hS59 a54
 refine st hA62 (op_move rfl (hA62.ev rfl)) rfl rfl (by decide) fun a66 hA67 => ?_; clear hA62 a61
 refine st hA67 (op_extract rfl (hA67.ev rfl) rfl) rfl rfl (by decide) fun a68 hA69 => ?_; clear hA67 a66
 refine st hA69 (op_extract rfl (hA69.ev rfl) rfl) rfl rfl (by decide) fun a70 hA71 => ?_; clear hA69 a68
 refine st hA71 (op_assign rfl (hA71.ev rfl)) rfl rfl (by decide) fun a72 hA73 => ?_; clear hA71 a70
 refine st hA73 (op_assign rfl (hA73.ev rfl)) rfl rfl (by decide) fun a74 hA75 => ?_; clear hA73 a72
 refine wl_nil ?_
 refine then_n ?_
 refine c_seq ?_
 have hA76 := hA75.as [(10, (Value.int .i64 0)), (9, (Value.bool true)), (8, v35), (7, (vs18 2)), (3, (bptr b4 0))] rfl; clear hA75
 refine c_region ?_
 refine st hA76 (op_loadA rfl ty_26 (hA76.ev rfl) (hS65.bk 4 rfl) (l := [rl, rs, (Value.int .i64 d.spread), rb]) rfl rfl) rfl rfl (by decide) fun a77 hA78 => ?_; clear hA76 a74
 refine stw hA78 (op_call rfl en_20 (ev1 (hA78.ev rfl)) (Round_ok rl rs rb rlv d _ (rnd_at (hS65.ok 5 _ rfl)) hth)) rfl rfl (by decide) ?_
 rintro a79 _ w81 ⟨vl82, vs83, vb84, lv85, rfl, hT86⟩ hA80; have hS87 := hS65.callS hT86 rfl; clear hT86 hA78 hS65 a77
 refine st hA80 (op_move rfl (hA80.ev rfl)) rfl rfl (by decide) fun a88 hA89 => ?_; clear hA80 a79
 refine stw hA89 (op_call rfl en_22 (ev1 (hA89.ev rfl)) (list_ok (chosenF d.tols.length (x ||| y : Nat)) _ _ (SlAt.of_row (hS87.ok_row 3 rfl)) (Nat.le_trans (chosenF_len _ _) (by omega)))) rfl rfl (by decide) ?_
 rintro a90 v96 w92 ⟨hE93, hO94⟩ hA91; have hS95 := hS87.new_row hE93 hO94; clear hE93 hO94 hA89 hS87 a88
 refine stw hA91 (op_call rfl en_21 (ev2 (hA91.ev rfl) (hA91.ev rfl)) (by have h := (explains_ok vl82 vs83 vb84 lv85 d _ (rnd_at (hS95.ok 1 _ rfl)) _ (chosenF d.tols.length (x ||| y : Nat)) (SlAt.of_row (hS95.ok_row 0 rfl)) (Nat.le_trans (chosenF_len _ _) (by omega))); rw [(chosen_explains hc (x ||| y)).trans (by rw [hy])] at h; exact h)) rfl rfl (by decide) ?_
 rintro a97 _ w99 ⟨rfl, hE100⟩ hA98; have hS101 := hS95.step hE100; clear hE100 hA91 hS95 a90
 refine st hA98 (op_move rfl (hA98.ev rfl)) rfl rfl (by decide) fun a102 hA103 => ?_; clear hA98 a97
 refine st hA103 (op_extract rfl (hA103.ev rfl) rfl) rfl rfl (by decide) fun a104 hA105 => ?_; clear hA103 a102
 refine st hA105 (op_extract rfl (hA105.ev rfl) rfl) rfl rfl (by decide) fun a106 hA107 => ?_; clear hA105 a104
 refine st hA107 (op_assign rfl (hA107.ev rfl)) rfl rfl (by decide) fun a108 hA109 => ?_; clear hA107 a106
 refine st hA109 (op_assign rfl (hA109.ev rfl)) rfl rfl (by decide) fun a110 hA111 => ?_; clear hA109 a108
 refine wl_nil ?_
 refine then_n ?_
 refine c_seq ?_
 have hA112 := hA111.as [(12, (Value.int .i64 0)), (11, (Value.bool true)), (10, (Value.int .i64 0)), (9, (Value.bool true)), (8, v35), (7, (vs18 2)), (3, (bptr b4 0))] rfl; clear hA111
 have hA113 := hA112.as [(12, (Value.int .i64 0)), (11, (Value.bool true)), (10, (Value.int .i64 0)), (9, (Value.bool true)), (8, v35), (7, (vs18 2)), (3, (bptr b4 0))] rfl; clear hA112
 refine c_drawV mixed hA113 hS101 9 [[], [0], [], [2], [1, 3], [4], [5], [5], [6]] [(fun (vs114 : Nat → Value) (v_ : Value) (rs_ : List Res) => v_ = (Value.agg #[rl, rs, (Value.int .i64 d.spread), rb]) ∧ rs_ = []), (fun (vs114 : Nat → Value) (v_ : Value) (rs_ : List Res) => ∃ (lv1_ : List Value), v_ = (Value.agg #[(comp v_ 0), (comp v_ 1), (Value.int .i64 d.spread), (comp v_ 3)]) ∧ rs_ = [(rndR true (comp v_ 0) (comp v_ 1) (comp v_ 3) lv1_ d)]), (fun (vs114 : Nat → Value) (v_ : Value) (rs_ : List Res) => v_ = (Value.agg #[rl, rs, (Value.int .i64 d.spread), rb]) ∧ rs_ = []), (fun (vs114 : Nat → Value) (v_ : Value) (rs_ : List Res) => True ∧ rs_ = [(row v_ 3 1 ((chosenF d.tols.length 255).length) (ints (chosenF d.tols.length 255)))]), (fun (vs114 : Nat → Value) (v_ : Value) (rs_ : List Res) => v_ = (Value.tuple #[(Value.bool true), (Value.int .i64 0)]) ∧ rs_ = []), (fun (vs114 : Nat → Value) (v_ : Value) (rs_ : List Res) => v_ = (Value.tuple #[(Value.bool true), (Value.int .i64 0)]) ∧ rs_ = []), (fun (vs114 : Nat → Value) (v_ : Value) (rs_ : List Res) => v_ = (Value.bool true) ∧ rs_ = []), (fun (vs114 : Nat → Value) (v_ : Value) (rs_ : List Res) => v_ = (Value.int .i64 0) ∧ rs_ = []), (fun (vs114 : Nat → Value) (v_ : Value) (rs_ : List Res) => v_ = (Value.bool true) ∧ rs_ = [])] (by decide +kernel) (by decide +kernel) rfl rfl ⟨(fun _ _ _ _ _ h_ => h_), (fun _ _ _ _ _ h_ => h_), (fun _ _ _ _ _ h_ => h_), (fun _ _ _ _ _ h_ => h_), (fun _ _ _ _ _ h_ => h_), (fun _ _ _ _ _ h_ => h_), (fun _ _ _ _ _ h_ => h_), (fun _ _ _ _ _ h_ => h_), (fun _ _ _ _ _ h_ => h_), trivial⟩ ?_ ?_
 ·skip
  refine ⟨fun a w vs114 hA hS hd => ?_, ?_⟩
  ·skip
   exact opG_of rfl (vv (op_loadA rfl ty_26 (hA.ev rfl) (hS.bk 6 rfl) (l := [rl, rs, (Value.int .i64 d.spread), rb]) rfl rfl) (And.intro rfl rfl))
  refine ⟨fun a w vs114 hA hS hd => ?_, ?_⟩
  ·skip
   obtain ⟨e0, rs0, hy0, hp0⟩ := hd 0 (by decide)
   obtain ⟨hv0, hr0⟩ := hy0; subst hr0
   rw [hv0] at e0
   exact opG_of rfl (vn (op_call rfl en_20 (ev1 (tmp_ev (slot_ev e0 rfl))) (Round_ok rl rs rb rlv d _ (rnd_at (hS.ok 7 _ rfl)) hth)) (fun v w' h => by obtain ⟨vl, vs, vb, lv, rfl, hT⟩ := h; exact ⟨_, ⟨lv, rfl, rfl⟩, hT, rfl⟩))
  refine ⟨fun a w vs114 hA hS hd => ?_, ?_⟩
  ·skip
   exact opG_of rfl (vv (op_loadA rfl ty_26 (hA.ev rfl) (hS.bk 6 rfl) (l := [rl, rs, (Value.int .i64 d.spread), rb]) rfl rfl) (And.intro rfl rfl))
  refine ⟨fun a w vs114 hA hS hd => ?_, ?_⟩
  ·skip
   obtain ⟨e2, rs2, hy2, hp2⟩ := hd 2 (by decide)
   obtain ⟨hv2, hr2⟩ := hy2; subst hr2
   rw [hv2] at e2
   exact opG_of rfl (vn (op_call rfl en_36 (ev2 (tmp_ev (slot_ev e2 rfl)) (evc _ _)) (chosen_ok rl rs rb rlv d _ (rnd_at (hS.ok 7 _ rfl)) 255 (by omega))) (fun v w' h => ⟨_, And.intro trivial rfl, (Sep.start NoB _).new_row h.1 h.2, rfl⟩))
  refine ⟨fun a w vs114 hA hS hd => ?_, ?_⟩
  ·skip
   obtain ⟨e1, rs1, hy1, hp1⟩ := hd 1 (by decide)
   obtain ⟨lv1_, hv1, hr1⟩ := hy1; subst hr1
   rw [hv1] at e1
   have hp1_0 := hp1 _ (List.mem_of_getElem? (i := 0) rfl)
   obtain ⟨e3, rs3, hy3, hp3⟩ := hd 3 (by decide)
   obtain ⟨hv3, hr3⟩ := hy3; subst hr3
   have hp3_0 := hp3 _ (List.mem_of_getElem? (i := 0) rfl)
   exact opG_of rfl (vx (op_call rfl en_21 (ev2 (tmp_ev (slot_ev e1 rfl)) (tmp_ev (slot_ev e3 rfl))) (by have h := (explains_ok (comp (vs114 1) 0) (comp (vs114 1) 1) (comp (vs114 1) 3) lv1_ d _ (rnd_at hp1_0) _ (chosenF d.tols.length 255) (SlAt.of_row hp3_0) (Nat.le_trans (chosenF_len _ _) (by omega))); rw [chosen_all hc] at h; exact h)) (And.intro rfl rfl))
  refine ⟨fun a w vs114 hA hS hd => ?_, ?_⟩
  ·skip
   obtain ⟨e4, rs4, hy4, hp4⟩ := hd 4 (by decide)
   obtain ⟨hv4, hr4⟩ := hy4; subst hr4
   rw [hv4] at e4
   exact opG_of rfl (vv (op_move rfl (tmp_ev (slot_ev e4 rfl))) (And.intro rfl rfl))
  refine ⟨fun a w vs114 hA hS hd => ?_, ?_⟩
  ·skip
   obtain ⟨e5, rs5, hy5, hp5⟩ := hd 5 (by decide)
   obtain ⟨hv5, hr5⟩ := hy5; subst hr5
   rw [hv5] at e5
   exact opG_of rfl (vv (op_extract rfl (tmp_ev (slot_ev e5 rfl)) rfl) (And.intro rfl rfl))
  refine ⟨fun a w vs114 hA hS hd => ?_, ?_⟩
  ·skip
   obtain ⟨e5, rs5, hy5, hp5⟩ := hd 5 (by decide)
   obtain ⟨hv5, hr5⟩ := hy5; subst hr5
   rw [hv5] at e5
   exact opG_of rfl (vv (op_extract rfl (tmp_ev (slot_ev e5 rfl)) rfl) (And.intro rfl rfl))
  refine ⟨fun a w vs114 hA hS hd => ?_, ?_⟩
  ·skip
   obtain ⟨e6, rs6, hy6, hp6⟩ := hd 6 (by decide)
   obtain ⟨hv6, hr6⟩ := hy6; subst hr6
   rw [hv6] at e6
   exact opG_of rfl (vv (op_assign rfl (tmp_ev (slot_ev e6 rfl))) (And.intro rfl rfl))
  trivial
 intro a115 w116 vs114 rsf120 hA117 hH119 hS118; clear hA113 hS101
 obtain ⟨hs_0, hy_0⟩ := hH119 0 (by decide)
 obtain ⟨hv_0, hr_0⟩ := hy_0
 obtain ⟨hs_1, hy_1⟩ := hH119 1 (by decide)
 obtain ⟨lv1_, hv_1, hr_1⟩ := hy_1
 obtain ⟨hs_2, hy_2⟩ := hH119 2 (by decide)
 obtain ⟨hv_2, hr_2⟩ := hy_2
 obtain ⟨hs_3, hy_3⟩ := hH119 3 (by decide)
 obtain ⟨hv_3, hr_3⟩ := hy_3
 obtain ⟨hs_4, hy_4⟩ := hH119 4 (by decide)
 obtain ⟨hv_4, hr_4⟩ := hy_4
 obtain ⟨hs_5, hy_5⟩ := hH119 5 (by decide)
 obtain ⟨hv_5, hr_5⟩ := hy_5
 obtain ⟨hs_6, hy_6⟩ := hH119 6 (by decide)
 obtain ⟨hv_6, hr_6⟩ := hy_6
 obtain ⟨hs_7, hy_7⟩ := hH119 7 (by decide)
 obtain ⟨hv_7, hr_7⟩ := hy_7
 obtain ⟨hs_8, hy_8⟩ := hH119 8 (by decide)
 obtain ⟨hv_8, hr_8⟩ := hy_8
 have hS121 : Sep NoB w w116 [(rndR true (comp (vs114 1) 0) (comp (vs114 1) 1) (comp (vs114 1) 3) lv1_ d), (row (vs114 3) 3 1 ((chosenF d.tols.length 255).length) (ints (chosenF d.tols.length 255))), (row v96 3 1 ((chosenF d.tols.length (x ||| y : Nat)).length) (ints (chosenF d.tols.length (x ||| y : Nat)))), (rndR true vl82 vs83 vb84 lv85 d), (row v60 3 1 ((chosenF d.tols.length x).length) (ints (chosenF d.tols.length x))), (rndR true vl46 vs47 vb48 lv49 d), (row v35 3 1 ((chosenF d.tols.length (x ||| y : Nat)).length) (ints (chosenF d.tols.length (x ||| y : Nat)))), (row (vs18 2) 3 1 ((chosenF d.tols.length x).length) (ints (chosenF d.tols.length x))), (blk b4 26 [rl, rs, (Value.int .i64 d.spread), rb]), (rndR false rl rs rb rlv d)] := by rw [show catR rsf120 0 9 = ([(rndR true (comp (vs114 1) 0) (comp (vs114 1) 1) (comp (vs114 1) 3) lv1_ d), (row (vs114 3) 3 1 ((chosenF d.tols.length 255).length) (ints (chosenF d.tols.length 255)))] : List Res) by (try simp only [catR, hr_0, hr_1, hr_2, hr_3, hr_4, hr_5, hr_6, hr_7, hr_8]); (try rfl)] at hS118; exact hS118
 rw [hv_7] at hs_7
 have hA122 : Fr 161 [] [(55, (Value.int .i64 0)), (12, (Value.int .i64 0)), (11, (Value.bool true)), (10, (Value.int .i64 0)), (9, (Value.bool true)), (8, v35), (7, (vs18 2)), (3, (bptr b4 0))] a115 := hA117.add (slot_ev hs_7 rfl); clear hA117
 rw [hv_8] at hs_8
 have hA123 : Fr 161 [] [(13, (Value.bool true)), (55, (Value.int .i64 0)), (12, (Value.int .i64 0)), (11, (Value.bool true)), (10, (Value.int .i64 0)), (9, (Value.bool true)), (8, v35), (7, (vs18 2)), (3, (bptr b4 0))] a115 := hA122.add (slot_ev hs_8 rfl); clear hA122
 clear hH119 hS118 hs_0 hs_1 hs_2 hs_3 hs_4 hs_5 hs_6 hs_7 hs_8
 clear hr_0
 clear hv_0
 clear hr_1
 clear hv_1
 clear hr_2
 clear hv_2
 clear hr_3
 clear hv_3
 clear hr_4
 clear hv_4
 clear hr_5
 clear hv_5
 clear hr_6
 clear hv_6
 clear hr_7
 clear hv_7
 clear hr_8
 clear hv_8
 refine st hA123 (op_assign rfl (hA123.ev rfl)) rfl rfl (by decide) fun a124 hA125 => ?_; clear hA123 a115
 refine wl_nil ?_
 refine then_n ?_
 refine c_seq ?_
 refine c_seq ?_
 refine c_region ?_
 refine st hA125 (op_move rfl (hA125.ev rfl)) rfl rfl (by decide) fun a126 hA127 => ?_; clear hA125 a124
 refine st hA127 (op_neq rfl (hA127.ev rfl) (evc _ _)) rfl rfl (by decide) fun a128 hA129 => ?_; clear hA127 a126
 refine st hA129 (op_move rfl (hA129.ev rfl)) rfl rfl (by decide) fun a130 hA131 => ?_; clear hA129 a128
 refine stg hA131 (op_move rfl (hA131.ev rfl)) rfl rfl rfl rfl (by decide) fun a132 hA133 => ?_; clear hA131 a130
 refine stg hA133 (op_neq rfl (hA133.ev rfl) (evc _ _)) rfl rfl rfl rfl (by decide) fun a134 hA135 => ?_; clear hA133 a132
 refine st hA135 (op_pick_f rfl (hA135.ev rfl) (hA135.ev rfl)) rfl rfl (by decide) fun a136 hA137 => ?_; clear hA135 a134
 refine st hA137 (op_move rfl (hA137.ev rfl)) rfl rfl (by decide) fun a138 hA139 => ?_; clear hA137 a136
 refine stg hA139 (op_move rfl (hA139.ev rfl)) rfl rfl rfl rfl (by decide) fun a140 hA141 => ?_; clear hA139 a138
 refine stg hA141 (op_neq rfl (hA141.ev rfl) (evc _ _)) rfl rfl rfl rfl (by decide) fun a142 hA143 => ?_; clear hA141 a140
 refine st hA143 (op_pick_f rfl (hA143.ev rfl) (hA143.ev rfl)) rfl rfl (by decide) fun a144 hA145 => ?_; clear hA143 a142
 refine st hA145 (op_move rfl (hA145.ev rfl)) rfl rfl (by decide) fun a146 hA147 => ?_; clear hA145 a144
 refine stg hA147 (op_move rfl (hA147.ev rfl)) rfl rfl rfl rfl (by decide) fun a148 hA149 => ?_; clear hA147 a146
 refine stg hA149 (op_move rfl (hA149.ev rfl)) rfl rfl rfl rfl (by decide) fun a150 hA151 => ?_; clear hA149 a148
 refine stg hA151 (op_move rfl (hA151.ev rfl)) rfl rfl rfl rfl (by decide) fun a152 hA153 => ?_; clear hA151 a150
 refine stg hA153 (op_not rfl (hA153.ev rfl)) rfl rfl rfl rfl (by decide) fun a154 hA155 => ?_; clear hA153 a152
 refine stg hA155 (op_pick_t rfl (hA155.ev rfl) (hA155.ev rfl)) rfl rfl rfl rfl (by decide) fun a156 hA157 => ?_; clear hA155 a154
 refine st hA157 (op_pick_f rfl (hA157.ev rfl) (hA157.ev rfl)) rfl rfl (by decide) fun a158 hA159 => ?_; clear hA157 a156
 refine st hA159 (op_move rfl (hA159.ev rfl)) rfl rfl (by decide) fun a160 hA161 => ?_; clear hA159 a158
 refine stg hA161 (op_move rfl (hA161.ev rfl)) rfl rfl rfl rfl (by decide) fun a162 hA163 => ?_; clear hA161 a160
 refine stg hA163 (op_not rfl (hA163.ev rfl)) rfl rfl rfl rfl (by decide) fun a164 hA165 => ?_; clear hA163 a162
 refine st hA165 (op_pick_f rfl (hA165.ev rfl) (hA165.ev rfl)) rfl rfl (by decide) fun a166 hA167 => ?_; clear hA165 a164
 refine wl_nil ?_
 refine then_n ?_
 refine c_false hA167 rfl ?_
 refine c_skip ?_
 refine then_n ?_
 refine c_seq ?_
 refine c_seq ?_
 have hA168 := hA167.as [(9, (Value.bool true)), (8, v35), (7, (vs18 2)), (3, (bptr b4 0))] rfl; clear hA167
 refine c_region ?_
 refine st hA168 (op_move rfl (hA168.ev rfl)) rfl rfl (by decide) fun a169 hA170 => ?_; clear hA168 a166
 refine st hA170 (op_not rfl (hA170.ev rfl)) rfl rfl (by decide) fun a171 hA172 => ?_; clear hA170 a169
 refine wl_nil ?_
 refine then_n ?_
 refine c_false hA172 rfl ?_
 refine c_skip ?_
 refine then_n ?_
 refine c_seq ?_
 refine c_region ?_
 refine st hA172 (op_loadA rfl ty_26 (hA172.ev rfl) (hS121.bk 8 rfl) (l := [rl, rs, (Value.int .i64 d.spread), rb]) rfl rfl) rfl rfl (by decide) fun a173 hA174 => ?_; clear hA172 a171
 refine stw hA174 (op_call rfl en_20 (ev1 (hA174.ev rfl)) (Round_ok rl rs rb rlv d _ (rnd_at (hS121.ok 9 _ rfl)) hth)) rfl rfl (by decide) ?_
 rintro a175 _ w177 ⟨vl178, vs179, vb180, lv181, rfl, hT182⟩ hA176; have hS183 := hS121.callS hT182 rfl; clear hT182 hA174 hS121 a173
 refine st hA176 (op_move rfl (hA176.ev rfl)) rfl rfl (by decide) fun a184 hA185 => ?_; clear hA176 a175
 refine stw hA185 (op_call rfl en_22 (ev1 (hA185.ev rfl)) (list_ok (chosenF d.tols.length x) _ _ (SlAt.of_row (hS183.ok_row 8 rfl)) (Nat.le_trans (chosenF_len _ _) (by omega)))) rfl rfl (by decide) ?_
 rintro a186 v192 w188 ⟨hE189, hO190⟩ hA187; have hS191 := hS183.new_row hE189 hO190; clear hE189 hO190 hA185 hS183 a184
 refine stw hA187 (op_call rfl en_26 (ev2 (hA187.ev rfl) (hA187.ev rfl)) (by have h := (spansE_ok vl178 vs179 vb180 lv181 d _ (rnd_at (hS191.ok 1 _ rfl)) _ (chosenF d.tols.length x) (SlAt.of_row (hS191.ok_row 0 rfl)) (Nat.le_trans (chosenF_len _ _) (by omega))); rw [hs1] at h; exact h)) rfl rfl (by decide) ?_
 rintro a193 _ w195 ⟨u199, rfl, hE196, hO197⟩ hA194; have hS198 := hS191.new_row hE196 hO197; clear hE196 hO197 hA187 hS191 a186
 refine st hA194 (op_move rfl (hA194.ev rfl)) rfl rfl (by decide) fun a200 hA201 => ?_; clear hA194 a193
 refine st hA201 (op_extract rfl (hA201.ev rfl) rfl) rfl rfl (by decide) fun a202 hA203 => ?_; clear hA201 a200
 refine st hA203 (op_extract rfl (hA203.ev rfl) rfl) rfl rfl (by decide) fun a204 hA205 => ?_; clear hA203 a202
 refine st hA205 (op_assign rfl (hA205.ev rfl)) rfl rfl (by decide) fun a206 hA207 => ?_; clear hA205 a204
 refine st hA207 (op_assign rfl (hA207.ev rfl)) rfl rfl (by decide) fun a208 hA209 => ?_; clear hA207 a206
 refine wl_nil ?_
 refine then_n ?_
 refine c_seq ?_
 have hA210 := hA209.as [(16, (Value.int .i64 0)), (15, u199), (8, v35), (3, (bptr b4 0))] rfl; clear hA209
 refine c_region ?_
 refine st hA210 (op_loadA rfl ty_26 (hA210.ev rfl) (hS198.bk 11 rfl) (l := [rl, rs, (Value.int .i64 d.spread), rb]) rfl rfl) rfl rfl (by decide) fun a211 hA212 => ?_; clear hA210 a208
 refine stw hA212 (op_call rfl en_20 (ev1 (hA212.ev rfl)) (Round_ok rl rs rb rlv d _ (rnd_at (hS198.ok 12 _ rfl)) hth)) rfl rfl (by decide) ?_
 rintro a213 _ w215 ⟨vl216, vs217, vb218, lv219, rfl, hT220⟩ hA214; have hS221 := hS198.callS hT220 rfl; clear hT220 hA212 hS198 a211
 refine st hA214 (op_move rfl (hA214.ev rfl)) rfl rfl (by decide) fun a222 hA223 => ?_; clear hA214 a213
 refine stw hA223 (op_call rfl en_22 (ev1 (hA223.ev rfl)) (list_ok (chosenF d.tols.length (x ||| y : Nat)) _ _ (SlAt.of_row (hS221.ok_row 10 rfl)) (Nat.le_trans (chosenF_len _ _) (by omega)))) rfl rfl (by decide) ?_
 rintro a224 v230 w226 ⟨hE227, hO228⟩ hA225; have hS229 := hS221.new_row hE227 hO228; clear hE227 hO228 hA223 hS221 a222
 refine stw hA225 (op_call rfl en_26 (ev2 (hA225.ev rfl) (hA225.ev rfl)) (by have h := (spansE_ok vl216 vs217 vb218 lv219 d _ (rnd_at (hS229.ok 1 _ rfl)) _ (chosenF d.tols.length (x ||| y : Nat)) (SlAt.of_row (hS229.ok_row 0 rfl)) (Nat.le_trans (chosenF_len _ _) (by omega))); rw [hs2] at h; exact h)) rfl rfl (by decide) ?_
 rintro a231 _ w233 ⟨u237, rfl, hE234, hO235⟩ hA232; have hS236 := hS229.new_row hE234 hO235; clear hE234 hO235 hA225 hS229 a224
 refine st hA232 (op_move rfl (hA232.ev rfl)) rfl rfl (by decide) fun a238 hA239 => ?_; clear hA232 a231
 refine st hA239 (op_extract rfl (hA239.ev rfl) rfl) rfl rfl (by decide) fun a240 hA241 => ?_; clear hA239 a238
 refine st hA241 (op_extract rfl (hA241.ev rfl) rfl) rfl rfl (by decide) fun a242 hA243 => ?_; clear hA241 a240
 refine st hA243 (op_assign rfl (hA243.ev rfl)) rfl rfl (by decide) fun a244 hA245 => ?_; clear hA243 a242
 refine st hA245 (op_assign rfl (hA245.ev rfl)) rfl rfl (by decide) fun a246 hA247 => ?_; clear hA245 a244
 refine wl_nil ?_
 refine then_n ?_
 refine c_seq ?_
 refine c_seq ?_
 have hA248 := hA247.as [(18, (Value.int .i64 0)), (17, u237), (16, (Value.int .i64 0)), (15, u199), (3, (bptr b4 0))] rfl; clear hA247
 refine c_region ?_
 refine st hA248 (op_move rfl (hA248.ev rfl)) rfl rfl (by decide) fun a249 hA250 => ?_; clear hA248 a246
 refine st hA250 (op_neq rfl (hA250.ev rfl) (evc _ _)) rfl rfl (by decide) fun a251 hA252 => ?_; clear hA250 a249
 refine st hA252 (op_move rfl (hA252.ev rfl)) rfl rfl (by decide) fun a253 hA254 => ?_; clear hA252 a251
 refine stg hA254 (op_move rfl (hA254.ev rfl)) rfl rfl rfl rfl (by decide) fun a255 hA256 => ?_; clear hA254 a253
 refine stg hA256 (op_neq rfl (hA256.ev rfl) (evc _ _)) rfl rfl rfl rfl (by decide) fun a257 hA258 => ?_; clear hA256 a255
 refine st hA258 (op_pick_f rfl (hA258.ev rfl) (hA258.ev rfl)) rfl rfl (by decide) fun a259 hA260 => ?_; clear hA258 a257
 refine st hA260 (op_move rfl (hA260.ev rfl)) rfl rfl (by decide) fun a261 hA262 => ?_; clear hA260 a259
 refine stg hA262 (op_move rfl (hA262.ev rfl)) rfl rfl rfl rfl (by decide) fun a263 hA264 => ?_; clear hA262 a261
 refine stg hA264 (op_lenS rfl un_31 (hA264.ev rfl) (SlAt.of_row (hS236.ok_row 3 rfl))) rfl rfl rfl rfl (by decide) fun a265 hA266 => ?_; clear hA264 a263
 refine stg hA266 (op_field rfl fd_26_1 (hA266.ev rfl)) rfl rfl rfl rfl (by decide) fun a267 hA268 => ?_; clear hA266 a265
 refine stg hA268 (op_load1 rfl ty_23 (hA268.ev rfl) (hS236.bk 14 rfl) rfl) rfl rfl rfl rfl (by decide) fun a269 hA270 => ?_; clear hA268 a267
 refine stg hA270 (op_lenS rfl un_23 (hA270.ev rfl) (rnd_at (hS236.ok 15 _ rfl)).samples) rfl rfl rfl rfl (by decide) fun a271 hA272 => ?_; clear hA270 a269
 refine stg hA272 (op_neq rfl (hA272.ev rfl) (hA272.ev rfl)) rfl rfl rfl rfl (by decide) fun a273 hA274 => ?_; clear hA272 a271
 have hd275 : (S1.length : Int) = (d.samples.length : Int) := (by omega)
 rw [decide_eq_true hd275] at hA274
 refine st hA274 (op_pick_f rfl (hA274.ev rfl) (hA274.ev rfl)) rfl rfl (by decide) fun a276 hA277 => ?_; clear hA274 a273
 refine st hA277 (op_move rfl (hA277.ev rfl)) rfl rfl (by decide) fun a278 hA279 => ?_; clear hA277 a276
 refine stg hA279 (op_move rfl (hA279.ev rfl)) rfl rfl rfl rfl (by decide) fun a280 hA281 => ?_; clear hA279 a278
 refine stg hA281 (op_lenS rfl un_31 (hA281.ev rfl) (SlAt.of_row (hS236.ok_row 0 rfl))) rfl rfl rfl rfl (by decide) fun a282 hA283 => ?_; clear hA281 a280
 refine stg hA283 (op_move rfl (hA283.ev rfl)) rfl rfl rfl rfl (by decide) fun a284 hA285 => ?_; clear hA283 a282
 refine stg hA285 (op_lenS rfl un_31 (hA285.ev rfl) (SlAt.of_row (hS236.ok_row 3 rfl))) rfl rfl rfl rfl (by decide) fun a286 hA287 => ?_; clear hA285 a284
 refine stg hA287 (op_neq rfl (hA287.ev rfl) (hA287.ev rfl)) rfl rfl rfl rfl (by decide) fun a288 hA289 => ?_; clear hA287 a286
 have hd290 : (S2.length : Int) = (S1.length : Int) := (by omega)
 rw [decide_eq_true hd290] at hA289
 refine st hA289 (op_pick_f rfl (hA289.ev rfl) (hA289.ev rfl)) rfl rfl (by decide) fun a291 hA292 => ?_; clear hA289 a288
 refine wl_nil ?_
 refine then_n ?_
 refine c_false hA292 rfl ?_
 refine c_skip ?_
 refine then_n ?_
 refine c_seq ?_
 refine c_seq ?_
 have hA293 := hA292.as [(17, u237), (15, u199)] rfl; clear hA292
 refine c_region ?_
 refine st hA293 (op_assign rfl (evc _ _)) rfl rfl (by decide) fun a294 hA295 => ?_; clear hA293 a291
 refine wl_nil ?_
 refine then_n ?_
 refine c_block ?_
 have hA296 := hA295.as [(19, (Value.int .i64 0)), (17, u237), (15, u199)] rfl; clear hA295
 refine c_loop (G := Nat) (fun (k : Nat) a_ w_ => Fr 161 [] [(19, (Value.int .i64 (k : Int))), (17, u237), (15, u199)] a_ ∧ Sep NoB w w_ [(row u237 46 2 S2.length (pairs S2)), (row v230 3 1 ((chosenF d.tols.length (x ||| y : Nat)).length) (ints (chosenF d.tols.length (x ||| y : Nat)))), (rndR true vl216 vs217 vb218 lv219 d), (row u199 46 2 S1.length (pairs S1)), (row v192 3 1 ((chosenF d.tols.length x).length) (ints (chosenF d.tols.length x))), (rndR true vl178 vs179 vb180 lv181 d), (rndR true (comp (vs114 1) 0) (comp (vs114 1) 1) (comp (vs114 1) 3) lv1_ d), (row (vs114 3) 3 1 ((chosenF d.tols.length 255).length) (ints (chosenF d.tols.length 255))), (row v96 3 1 ((chosenF d.tols.length (x ||| y : Nat)).length) (ints (chosenF d.tols.length (x ||| y : Nat)))), (rndR true vl82 vs83 vb84 lv85 d), (row v60 3 1 ((chosenF d.tols.length x).length) (ints (chosenF d.tols.length x))), (rndR true vl46 vs47 vb48 lv49 d), (row v35 3 1 ((chosenF d.tols.length (x ||| y : Nat)).length) (ints (chosenF d.tols.length (x ||| y : Nat)))), (row (vs18 2) 3 1 ((chosenF d.tols.length x).length) (ints (chosenF d.tols.length x))), (blk b4 26 [rl, rs, (Value.int .i64 d.spread), rb]), (rndR false rl rs rb rlv d)] ∧ (k ≤ S1.length)) (fun k => S1.length - k) 0 ⟨hA296.as _ rfl, hS236, by omega⟩ ?_
 clear hA296 hS236 a294
 rintro k a297 w299 ⟨hA298, hS300, hkk⟩
 refine c_seq ?_
 refine c_seq ?_
 refine c_region ?_
 refine st hA298 (op_move rfl (hA298.ev rfl)) rfl rfl (by decide) fun a301 hA302 => ?_; clear hA298 a297
 refine st hA302 (op_move rfl (hA302.ev rfl)) rfl rfl (by decide) fun a303 hA304 => ?_; clear hA302 a301
 refine st hA304 (op_lenS rfl un_31 (hA304.ev rfl) (SlAt.of_row (hS300.ok_row 3 rfl))) rfl rfl (by decide) fun a305 hA306 => ?_; clear hA304 a303
 refine st hA306 (op_lss rfl (hA306.ev rfl) (hA306.ev rfl)) rfl rfl (by decide) fun a307 hA308 => ?_; clear hA306 a305
 refine wl_nil ?_
 refine then_n ?_
 by_cases hb309 : (k : Int) < (S1.length : Int)
 ·skip
  rw [decide_eq_true hb309] at hA308
  refine c_true hA308 rfl ?_
  refine c_skip ?_
  refine then_n ?_
  refine c_seq ?_
  refine c_block ?_
  refine c_seq ?_
  have hA310 := hA308.as [(19, (Value.int .i64 (k : Int))), (17, u237), (15, u199)] rfl; clear hA308
  refine c_drawV mixed hA310 hS300 35 [[], [], [0, 1], [2], [3], [], [], [5, 6], [7], [8], [4, 9], [10], [11], [11], [11, 12, 13], [11, 14], [11, 15], [11], [11], [11, 17, 18], [11, 19], [11, 20], [11, 16, 21], [11, 22], [23], [24], [24], [24, 25, 26], [24, 27], [24, 28], [24], [24], [24, 30, 31], [24, 32], [24, 33]] [(fun (vs311 : Nat → Value) (v_ : Value) (rs_ : List Res) => v_ = u237 ∧ rs_ = []), (fun (vs311 : Nat → Value) (v_ : Value) (rs_ : List Res) => v_ = (Value.int .i64 (k : Int)) ∧ rs_ = []), (fun (vs311 : Nat → Value) (v_ : Value) (rs_ : List Res) => v_ = (eptr u237 (k * 2)) ∧ rs_ = []), (fun (vs311 : Nat → Value) (v_ : Value) (rs_ : List Res) => v_ = (eptr u237 (k * 2 + 0)) ∧ rs_ = []), (fun (vs311 : Nat → Value) (v_ : Value) (rs_ : List Res) => v_ = (Value.int .i64 ((S2.getD k (0, 0)).1)) ∧ rs_ = []), (fun (vs311 : Nat → Value) (v_ : Value) (rs_ : List Res) => v_ = u199 ∧ rs_ = []), (fun (vs311 : Nat → Value) (v_ : Value) (rs_ : List Res) => v_ = (Value.int .i64 (k : Int)) ∧ rs_ = []), (fun (vs311 : Nat → Value) (v_ : Value) (rs_ : List Res) => v_ = (eptr u199 (k * 2)) ∧ rs_ = []), (fun (vs311 : Nat → Value) (v_ : Value) (rs_ : List Res) => v_ = (eptr u199 (k * 2 + 0)) ∧ rs_ = []), (fun (vs311 : Nat → Value) (v_ : Value) (rs_ : List Res) => v_ = (Value.int .i64 ((S1.getD k (0, 0)).1)) ∧ rs_ = []), (fun (vs311 : Nat → Value) (v_ : Value) (rs_ : List Res) => v_ = (Value.bool false) ∧ rs_ = []), (fun (vs311 : Nat → Value) (v_ : Value) (rs_ : List Res) => v_ = (Value.bool false) ∧ rs_ = []), (fun (vs311 : Nat → Value) (v_ : Value) (rs_ : List Res) => v_ = u237 ∧ rs_ = []), (fun (vs311 : Nat → Value) (v_ : Value) (rs_ : List Res) => v_ = (Value.int .i64 (k : Int)) ∧ rs_ = []), (fun (vs311 : Nat → Value) (v_ : Value) (rs_ : List Res) => v_ = (eptr u237 (k * 2)) ∧ rs_ = []), (fun (vs311 : Nat → Value) (v_ : Value) (rs_ : List Res) => v_ = (eptr u237 (k * 2 + 1)) ∧ rs_ = []), (fun (vs311 : Nat → Value) (v_ : Value) (rs_ : List Res) => v_ = (Value.int .i64 ((S2.getD k (0, 0)).2)) ∧ rs_ = []), (fun (vs311 : Nat → Value) (v_ : Value) (rs_ : List Res) => v_ = u199 ∧ rs_ = []), (fun (vs311 : Nat → Value) (v_ : Value) (rs_ : List Res) => v_ = (Value.int .i64 (k : Int)) ∧ rs_ = []), (fun (vs311 : Nat → Value) (v_ : Value) (rs_ : List Res) => v_ = (eptr u199 (k * 2)) ∧ rs_ = []), (fun (vs311 : Nat → Value) (v_ : Value) (rs_ : List Res) => v_ = (eptr u199 (k * 2 + 1)) ∧ rs_ = []), (fun (vs311 : Nat → Value) (v_ : Value) (rs_ : List Res) => v_ = (Value.int .i64 ((S1.getD k (0, 0)).2)) ∧ rs_ = []), (fun (vs311 : Nat → Value) (v_ : Value) (rs_ : List Res) => v_ = (Value.bool false) ∧ rs_ = []), (fun (vs311 : Nat → Value) (v_ : Value) (rs_ : List Res) => v_ = (Value.bool false) ∧ rs_ = []), (fun (vs311 : Nat → Value) (v_ : Value) (rs_ : List Res) => v_ = (Value.bool false) ∧ rs_ = []), (fun (vs311 : Nat → Value) (v_ : Value) (rs_ : List Res) => v_ = u199 ∧ rs_ = []), (fun (vs311 : Nat → Value) (v_ : Value) (rs_ : List Res) => v_ = (Value.int .i64 (k : Int)) ∧ rs_ = []), (fun (vs311 : Nat → Value) (v_ : Value) (rs_ : List Res) => v_ = (eptr u199 (k * 2)) ∧ rs_ = []), (fun (vs311 : Nat → Value) (v_ : Value) (rs_ : List Res) => v_ = (eptr u199 (k * 2 + 0)) ∧ rs_ = []), (fun (vs311 : Nat → Value) (v_ : Value) (rs_ : List Res) => v_ = (Value.int .i64 ((S1.getD k (0, 0)).1)) ∧ rs_ = []), (fun (vs311 : Nat → Value) (v_ : Value) (rs_ : List Res) => v_ = u199 ∧ rs_ = []), (fun (vs311 : Nat → Value) (v_ : Value) (rs_ : List Res) => v_ = (Value.int .i64 (k : Int)) ∧ rs_ = []), (fun (vs311 : Nat → Value) (v_ : Value) (rs_ : List Res) => v_ = (eptr u199 (k * 2)) ∧ rs_ = []), (fun (vs311 : Nat → Value) (v_ : Value) (rs_ : List Res) => v_ = (eptr u199 (k * 2 + 1)) ∧ rs_ = []), (fun (vs311 : Nat → Value) (v_ : Value) (rs_ : List Res) => v_ = (Value.int .i64 ((S1.getD k (0, 0)).2)) ∧ rs_ = [])] (by decide +kernel) (by decide +kernel) rfl rfl ⟨(fun _ _ _ _ _ h_ => h_), (fun _ _ _ _ _ h_ => h_), (fun _ _ _ _ _ h_ => h_), (fun _ _ _ _ _ h_ => h_), (fun _ _ _ _ _ h_ => h_), (fun _ _ _ _ _ h_ => h_), (fun _ _ _ _ _ h_ => h_), (fun _ _ _ _ _ h_ => h_), (fun _ _ _ _ _ h_ => h_), (fun _ _ _ _ _ h_ => h_), (fun _ _ _ _ _ h_ => h_), (fun _ _ _ _ _ h_ => h_), (fun _ _ _ _ _ h_ => h_), (fun _ _ _ _ _ h_ => h_), (fun _ _ _ _ _ h_ => h_), (fun _ _ _ _ _ h_ => h_), (fun _ _ _ _ _ h_ => h_), (fun _ _ _ _ _ h_ => h_), (fun _ _ _ _ _ h_ => h_), (fun _ _ _ _ _ h_ => h_), (fun _ _ _ _ _ h_ => h_), (fun _ _ _ _ _ h_ => h_), (fun _ _ _ _ _ h_ => h_), (fun _ _ _ _ _ h_ => h_), (fun _ _ _ _ _ h_ => h_), (fun _ _ _ _ _ h_ => h_), (fun _ _ _ _ _ h_ => h_), (fun _ _ _ _ _ h_ => h_), (fun _ _ _ _ _ h_ => h_), (fun _ _ _ _ _ h_ => h_), (fun _ _ _ _ _ h_ => h_), (fun _ _ _ _ _ h_ => h_), (fun _ _ _ _ _ h_ => h_), (fun _ _ _ _ _ h_ => h_), (fun _ _ _ _ _ h_ => h_), trivial⟩ ?_ ?_
  ·skip
   refine ⟨fun a w vs311 hA hS hd => ?_, ?_⟩
   ·skip
    exact opG_of rfl (vv (op_move rfl (hA.ev rfl)) (And.intro rfl rfl))
   refine ⟨fun a w vs311 hA hS hd => ?_, ?_⟩
   ·skip
    exact opG_of rfl (vv (op_move rfl (hA.ev rfl)) (And.intro rfl rfl))
   refine ⟨fun a w vs311 hA hS hd => ?_, ?_⟩
   ·skip
    obtain ⟨e0, rs0, hy0, hp0⟩ := hd 0 (by decide)
    obtain ⟨hv0, hr0⟩ := hy0; subst hr0
    rw [hv0] at e0
    obtain ⟨e1, rs1, hy1, hp1⟩ := hd 1 (by decide)
    obtain ⟨hv1, hr1⟩ := hy1; subst hr1
    rw [hv1] at e1
    exact opG_of rfl (vv (op_indexS rfl un_31 ty_46 (tmp_ev (slot_ev e0 rfl)) (i := k) (tmp_ev (slot_ev e1 rfl)) (SlAt.of_row (hS.ok_row 0 rfl)) (by decide) (by omega)) (And.intro rfl rfl))
   refine ⟨fun a w vs311 hA hS hd => ?_, ?_⟩
   ·skip
    obtain ⟨e2, rs2, hy2, hp2⟩ := hd 2 (by decide)
    obtain ⟨hv2, hr2⟩ := hy2; subst hr2
    rw [hv2] at e2
    exact opG_of rfl (vv (op_fieldS rfl fd_46_0 (tmp_ev (slot_ev e2 rfl)) (SlAt.of_row (hS.ok_row 0 rfl)) (by rw [((SlAt.of_row (hS.ok_row 0 rfl))).1]; omega)) (And.intro rfl rfl))
   refine ⟨fun a w vs311 hA hS hd => ?_, ?_⟩
   ·skip
    obtain ⟨e3, rs3, hy3, hp3⟩ := hd 3 (by decide)
    obtain ⟨hv3, hr3⟩ := hy3; subst hr3
    rw [hv3] at e3
    exact opG_of rfl (vv (op_load1E rfl ty_3 (tmp_ev (slot_ev e3 rfl)) (SlAt.of_row (hS.ok_row 0 rfl)) (pairs_at0 (by omega))) (And.intro rfl rfl))
   refine ⟨fun a w vs311 hA hS hd => ?_, ?_⟩
   ·skip
    exact opG_of rfl (vv (op_move rfl (hA.ev rfl)) (And.intro rfl rfl))
   refine ⟨fun a w vs311 hA hS hd => ?_, ?_⟩
   ·skip
    exact opG_of rfl (vv (op_move rfl (hA.ev rfl)) (And.intro rfl rfl))
   refine ⟨fun a w vs311 hA hS hd => ?_, ?_⟩
   ·skip
    obtain ⟨e5, rs5, hy5, hp5⟩ := hd 5 (by decide)
    obtain ⟨hv5, hr5⟩ := hy5; subst hr5
    rw [hv5] at e5
    obtain ⟨e6, rs6, hy6, hp6⟩ := hd 6 (by decide)
    obtain ⟨hv6, hr6⟩ := hy6; subst hr6
    rw [hv6] at e6
    exact opG_of rfl (vv (op_indexS rfl un_31 ty_46 (tmp_ev (slot_ev e5 rfl)) (i := k) (tmp_ev (slot_ev e6 rfl)) (SlAt.of_row (hS.ok_row 3 rfl)) (by decide) (by omega)) (And.intro rfl rfl))
   refine ⟨fun a w vs311 hA hS hd => ?_, ?_⟩
   ·skip
    obtain ⟨e7, rs7, hy7, hp7⟩ := hd 7 (by decide)
    obtain ⟨hv7, hr7⟩ := hy7; subst hr7
    rw [hv7] at e7
    exact opG_of rfl (vv (op_fieldS rfl fd_46_0 (tmp_ev (slot_ev e7 rfl)) (SlAt.of_row (hS.ok_row 3 rfl)) (by rw [((SlAt.of_row (hS.ok_row 3 rfl))).1]; omega)) (And.intro rfl rfl))
   refine ⟨fun a w vs311 hA hS hd => ?_, ?_⟩
   ·skip
    obtain ⟨e8, rs8, hy8, hp8⟩ := hd 8 (by decide)
    obtain ⟨hv8, hr8⟩ := hy8; subst hr8
    rw [hv8] at e8
    exact opG_of rfl (vv (op_load1E rfl ty_3 (tmp_ev (slot_ev e8 rfl)) (SlAt.of_row (hS.ok_row 3 rfl)) (pairs_at0 (by omega))) (And.intro rfl rfl))
   refine ⟨fun a w vs311 hA hS hd => ?_, ?_⟩
   ·skip
    obtain ⟨e4, rs4, hy4, hp4⟩ := hd 4 (by decide)
    obtain ⟨hv4, hr4⟩ := hy4; subst hr4
    rw [hv4] at e4
    obtain ⟨e9, rs9, hy9, hp9⟩ := hd 9 (by decide)
    obtain ⟨hv9, hr9⟩ := hy9; subst hr9
    rw [hv9] at e9
    exact opG_of rfl (vv (op_gtr rfl (tmp_ev (slot_ev e4 rfl)) (tmp_ev (slot_ev e9 rfl))) (And.intro (by show Value.bool _ = _; simp only [decide_eq_false (show ¬ (((S1.getD k (0, 0)).1) < ((S2.getD k (0, 0)).1)) from (by have := hb k (by omega); omega)), Bool.not_true, Bool.not_false]) rfl))
   refine ⟨fun a w vs311 hA hS hd => ?_, ?_⟩
   ·skip
    obtain ⟨e10, rs10, hy10, hp10⟩ := hd 10 (by decide)
    obtain ⟨hv10, hr10⟩ := hy10; subst hr10
    rw [hv10] at e10
    exact opG_of rfl (vv (op_move rfl (tmp_ev (slot_ev e10 rfl))) (And.intro rfl rfl))
   refine ⟨fun a w vs311 hA hS hd => ?_, ?_⟩
   ·skip
    obtain ⟨e11, rs11, hy11, hp11⟩ := hd 11 (by decide)
    obtain ⟨hv11, hr11⟩ := hy11; subst hr11
    rw [hv11] at e11
    exact opG_yes rfl rfl (slot_ev e11 rfl) (vv (op_move rfl (hA.ev rfl)) (And.intro rfl rfl))
   refine ⟨fun a w vs311 hA hS hd => ?_, ?_⟩
   ·skip
    obtain ⟨e11, rs11, hy11, hp11⟩ := hd 11 (by decide)
    obtain ⟨hv11, hr11⟩ := hy11; subst hr11
    rw [hv11] at e11
    exact opG_yes rfl rfl (slot_ev e11 rfl) (vv (op_move rfl (hA.ev rfl)) (And.intro rfl rfl))
   refine ⟨fun a w vs311 hA hS hd => ?_, ?_⟩
   ·skip
    obtain ⟨e11, rs11, hy11, hp11⟩ := hd 11 (by decide)
    obtain ⟨hv11, hr11⟩ := hy11; subst hr11
    rw [hv11] at e11
    obtain ⟨e12, rs12, hy12, hp12⟩ := hd 12 (by decide)
    obtain ⟨hv12, hr12⟩ := hy12; subst hr12
    rw [hv12] at e12
    obtain ⟨e13, rs13, hy13, hp13⟩ := hd 13 (by decide)
    obtain ⟨hv13, hr13⟩ := hy13; subst hr13
    rw [hv13] at e13
    exact opG_yes rfl rfl (slot_ev e11 rfl) (vv (op_indexS rfl un_31 ty_46 (tmp_ev (slot_ev e12 rfl)) (i := k) (tmp_ev (slot_ev e13 rfl)) (SlAt.of_row (hS.ok_row 0 rfl)) (by decide) (by omega)) (And.intro rfl rfl))
   refine ⟨fun a w vs311 hA hS hd => ?_, ?_⟩
   ·skip
    obtain ⟨e11, rs11, hy11, hp11⟩ := hd 11 (by decide)
    obtain ⟨hv11, hr11⟩ := hy11; subst hr11
    rw [hv11] at e11
    obtain ⟨e14, rs14, hy14, hp14⟩ := hd 14 (by decide)
    obtain ⟨hv14, hr14⟩ := hy14; subst hr14
    rw [hv14] at e14
    exact opG_yes rfl rfl (slot_ev e11 rfl) (vv (op_fieldS rfl fd_46_1 (tmp_ev (slot_ev e14 rfl)) (SlAt.of_row (hS.ok_row 0 rfl)) (by rw [((SlAt.of_row (hS.ok_row 0 rfl))).1]; omega)) (And.intro rfl rfl))
   refine ⟨fun a w vs311 hA hS hd => ?_, ?_⟩
   ·skip
    obtain ⟨e11, rs11, hy11, hp11⟩ := hd 11 (by decide)
    obtain ⟨hv11, hr11⟩ := hy11; subst hr11
    rw [hv11] at e11
    obtain ⟨e15, rs15, hy15, hp15⟩ := hd 15 (by decide)
    obtain ⟨hv15, hr15⟩ := hy15; subst hr15
    rw [hv15] at e15
    exact opG_yes rfl rfl (slot_ev e11 rfl) (vv (op_load1E rfl ty_3 (tmp_ev (slot_ev e15 rfl)) (SlAt.of_row (hS.ok_row 0 rfl)) (pairs_at1 (by omega))) (And.intro rfl rfl))
   refine ⟨fun a w vs311 hA hS hd => ?_, ?_⟩
   ·skip
    obtain ⟨e11, rs11, hy11, hp11⟩ := hd 11 (by decide)
    obtain ⟨hv11, hr11⟩ := hy11; subst hr11
    rw [hv11] at e11
    exact opG_yes rfl rfl (slot_ev e11 rfl) (vv (op_move rfl (hA.ev rfl)) (And.intro rfl rfl))
   refine ⟨fun a w vs311 hA hS hd => ?_, ?_⟩
   ·skip
    obtain ⟨e11, rs11, hy11, hp11⟩ := hd 11 (by decide)
    obtain ⟨hv11, hr11⟩ := hy11; subst hr11
    rw [hv11] at e11
    exact opG_yes rfl rfl (slot_ev e11 rfl) (vv (op_move rfl (hA.ev rfl)) (And.intro rfl rfl))
   refine ⟨fun a w vs311 hA hS hd => ?_, ?_⟩
   ·skip
    obtain ⟨e11, rs11, hy11, hp11⟩ := hd 11 (by decide)
    obtain ⟨hv11, hr11⟩ := hy11; subst hr11
    rw [hv11] at e11
    obtain ⟨e17, rs17, hy17, hp17⟩ := hd 17 (by decide)
    obtain ⟨hv17, hr17⟩ := hy17; subst hr17
    rw [hv17] at e17
    obtain ⟨e18, rs18, hy18, hp18⟩ := hd 18 (by decide)
    obtain ⟨hv18, hr18⟩ := hy18; subst hr18
    rw [hv18] at e18
    exact opG_yes rfl rfl (slot_ev e11 rfl) (vv (op_indexS rfl un_31 ty_46 (tmp_ev (slot_ev e17 rfl)) (i := k) (tmp_ev (slot_ev e18 rfl)) (SlAt.of_row (hS.ok_row 3 rfl)) (by decide) (by omega)) (And.intro rfl rfl))
   refine ⟨fun a w vs311 hA hS hd => ?_, ?_⟩
   ·skip
    obtain ⟨e11, rs11, hy11, hp11⟩ := hd 11 (by decide)
    obtain ⟨hv11, hr11⟩ := hy11; subst hr11
    rw [hv11] at e11
    obtain ⟨e19, rs19, hy19, hp19⟩ := hd 19 (by decide)
    obtain ⟨hv19, hr19⟩ := hy19; subst hr19
    rw [hv19] at e19
    exact opG_yes rfl rfl (slot_ev e11 rfl) (vv (op_fieldS rfl fd_46_1 (tmp_ev (slot_ev e19 rfl)) (SlAt.of_row (hS.ok_row 3 rfl)) (by rw [((SlAt.of_row (hS.ok_row 3 rfl))).1]; omega)) (And.intro rfl rfl))
   refine ⟨fun a w vs311 hA hS hd => ?_, ?_⟩
   ·skip
    obtain ⟨e11, rs11, hy11, hp11⟩ := hd 11 (by decide)
    obtain ⟨hv11, hr11⟩ := hy11; subst hr11
    rw [hv11] at e11
    obtain ⟨e20, rs20, hy20, hp20⟩ := hd 20 (by decide)
    obtain ⟨hv20, hr20⟩ := hy20; subst hr20
    rw [hv20] at e20
    exact opG_yes rfl rfl (slot_ev e11 rfl) (vv (op_load1E rfl ty_3 (tmp_ev (slot_ev e20 rfl)) (SlAt.of_row (hS.ok_row 3 rfl)) (pairs_at1 (by omega))) (And.intro rfl rfl))
   refine ⟨fun a w vs311 hA hS hd => ?_, ?_⟩
   ·skip
    obtain ⟨e11, rs11, hy11, hp11⟩ := hd 11 (by decide)
    obtain ⟨hv11, hr11⟩ := hy11; subst hr11
    rw [hv11] at e11
    obtain ⟨e16, rs16, hy16, hp16⟩ := hd 16 (by decide)
    obtain ⟨hv16, hr16⟩ := hy16; subst hr16
    rw [hv16] at e16
    obtain ⟨e21, rs21, hy21, hp21⟩ := hd 21 (by decide)
    obtain ⟨hv21, hr21⟩ := hy21; subst hr21
    rw [hv21] at e21
    exact opG_yes rfl rfl (slot_ev e11 rfl) (vv (op_lss rfl (tmp_ev (slot_ev e16 rfl)) (tmp_ev (slot_ev e21 rfl))) (And.intro (by show Value.bool _ = _; simp only [decide_eq_false (show ¬ (((S2.getD k (0, 0)).2) < ((S1.getD k (0, 0)).2)) from (by have := hb k (by omega); omega)), Bool.not_true, Bool.not_false]) rfl))
   refine ⟨fun a w vs311 hA hS hd => ?_, ?_⟩
   ·skip
    obtain ⟨e11, rs11, hy11, hp11⟩ := hd 11 (by decide)
    obtain ⟨hv11, hr11⟩ := hy11; subst hr11
    rw [hv11] at e11
    obtain ⟨e22, rs22, hy22, hp22⟩ := hd 22 (by decide)
    obtain ⟨hv22, hr22⟩ := hy22; subst hr22
    rw [hv22] at e22
    exact opG_of rfl (vv (op_pick_f rfl (tmp_ev (slot_ev e11 rfl)) (tmp_ev (slot_ev e22 rfl))) (And.intro rfl rfl))
   refine ⟨fun a w vs311 hA hS hd => ?_, ?_⟩
   ·skip
    obtain ⟨e23, rs23, hy23, hp23⟩ := hd 23 (by decide)
    obtain ⟨hv23, hr23⟩ := hy23; subst hr23
    rw [hv23] at e23
    exact opG_of rfl (vv (op_move rfl (tmp_ev (slot_ev e23 rfl))) (And.intro rfl rfl))
   refine ⟨fun a w vs311 hA hS hd => ?_, ?_⟩
   ·skip
    obtain ⟨e24, rs24, hy24, hp24⟩ := hd 24 (by decide)
    obtain ⟨hv24, hr24⟩ := hy24; subst hr24
    rw [hv24] at e24
    exact opG_yes rfl rfl (slot_ev e24 rfl) (vv (op_move rfl (hA.ev rfl)) (And.intro rfl rfl))
   refine ⟨fun a w vs311 hA hS hd => ?_, ?_⟩
   ·skip
    obtain ⟨e24, rs24, hy24, hp24⟩ := hd 24 (by decide)
    obtain ⟨hv24, hr24⟩ := hy24; subst hr24
    rw [hv24] at e24
    exact opG_yes rfl rfl (slot_ev e24 rfl) (vv (op_move rfl (hA.ev rfl)) (And.intro rfl rfl))
   refine ⟨fun a w vs311 hA hS hd => ?_, ?_⟩
   ·skip
    obtain ⟨e24, rs24, hy24, hp24⟩ := hd 24 (by decide)
    obtain ⟨hv24, hr24⟩ := hy24; subst hr24
    rw [hv24] at e24
    obtain ⟨e25, rs25, hy25, hp25⟩ := hd 25 (by decide)
    obtain ⟨hv25, hr25⟩ := hy25; subst hr25
    rw [hv25] at e25
    obtain ⟨e26, rs26, hy26, hp26⟩ := hd 26 (by decide)
    obtain ⟨hv26, hr26⟩ := hy26; subst hr26
    rw [hv26] at e26
    exact opG_yes rfl rfl (slot_ev e24 rfl) (vv (op_indexS rfl un_31 ty_46 (tmp_ev (slot_ev e25 rfl)) (i := k) (tmp_ev (slot_ev e26 rfl)) (SlAt.of_row (hS.ok_row 3 rfl)) (by decide) (by omega)) (And.intro rfl rfl))
   refine ⟨fun a w vs311 hA hS hd => ?_, ?_⟩
   ·skip
    obtain ⟨e24, rs24, hy24, hp24⟩ := hd 24 (by decide)
    obtain ⟨hv24, hr24⟩ := hy24; subst hr24
    rw [hv24] at e24
    obtain ⟨e27, rs27, hy27, hp27⟩ := hd 27 (by decide)
    obtain ⟨hv27, hr27⟩ := hy27; subst hr27
    rw [hv27] at e27
    exact opG_yes rfl rfl (slot_ev e24 rfl) (vv (op_fieldS rfl fd_46_0 (tmp_ev (slot_ev e27 rfl)) (SlAt.of_row (hS.ok_row 3 rfl)) (by rw [((SlAt.of_row (hS.ok_row 3 rfl))).1]; omega)) (And.intro rfl rfl))
   refine ⟨fun a w vs311 hA hS hd => ?_, ?_⟩
   ·skip
    obtain ⟨e24, rs24, hy24, hp24⟩ := hd 24 (by decide)
    obtain ⟨hv24, hr24⟩ := hy24; subst hr24
    rw [hv24] at e24
    obtain ⟨e28, rs28, hy28, hp28⟩ := hd 28 (by decide)
    obtain ⟨hv28, hr28⟩ := hy28; subst hr28
    rw [hv28] at e28
    exact opG_yes rfl rfl (slot_ev e24 rfl) (vv (op_load1E rfl ty_3 (tmp_ev (slot_ev e28 rfl)) (SlAt.of_row (hS.ok_row 3 rfl)) (pairs_at0 (by omega))) (And.intro rfl rfl))
   refine ⟨fun a w vs311 hA hS hd => ?_, ?_⟩
   ·skip
    obtain ⟨e24, rs24, hy24, hp24⟩ := hd 24 (by decide)
    obtain ⟨hv24, hr24⟩ := hy24; subst hr24
    rw [hv24] at e24
    exact opG_yes rfl rfl (slot_ev e24 rfl) (vv (op_move rfl (hA.ev rfl)) (And.intro rfl rfl))
   refine ⟨fun a w vs311 hA hS hd => ?_, ?_⟩
   ·skip
    obtain ⟨e24, rs24, hy24, hp24⟩ := hd 24 (by decide)
    obtain ⟨hv24, hr24⟩ := hy24; subst hr24
    rw [hv24] at e24
    exact opG_yes rfl rfl (slot_ev e24 rfl) (vv (op_move rfl (hA.ev rfl)) (And.intro rfl rfl))
   refine ⟨fun a w vs311 hA hS hd => ?_, ?_⟩
   ·skip
    obtain ⟨e24, rs24, hy24, hp24⟩ := hd 24 (by decide)
    obtain ⟨hv24, hr24⟩ := hy24; subst hr24
    rw [hv24] at e24
    obtain ⟨e30, rs30, hy30, hp30⟩ := hd 30 (by decide)
    obtain ⟨hv30, hr30⟩ := hy30; subst hr30
    rw [hv30] at e30
    obtain ⟨e31, rs31, hy31, hp31⟩ := hd 31 (by decide)
    obtain ⟨hv31, hr31⟩ := hy31; subst hr31
    rw [hv31] at e31
    exact opG_yes rfl rfl (slot_ev e24 rfl) (vv (op_indexS rfl un_31 ty_46 (tmp_ev (slot_ev e30 rfl)) (i := k) (tmp_ev (slot_ev e31 rfl)) (SlAt.of_row (hS.ok_row 3 rfl)) (by decide) (by omega)) (And.intro rfl rfl))
   refine ⟨fun a w vs311 hA hS hd => ?_, ?_⟩
   ·skip
    obtain ⟨e24, rs24, hy24, hp24⟩ := hd 24 (by decide)
    obtain ⟨hv24, hr24⟩ := hy24; subst hr24
    rw [hv24] at e24
    obtain ⟨e32, rs32, hy32, hp32⟩ := hd 32 (by decide)
    obtain ⟨hv32, hr32⟩ := hy32; subst hr32
    rw [hv32] at e32
    exact opG_yes rfl rfl (slot_ev e24 rfl) (vv (op_fieldS rfl fd_46_1 (tmp_ev (slot_ev e32 rfl)) (SlAt.of_row (hS.ok_row 3 rfl)) (by rw [((SlAt.of_row (hS.ok_row 3 rfl))).1]; omega)) (And.intro rfl rfl))
   refine ⟨fun a w vs311 hA hS hd => ?_, ?_⟩
   ·skip
    obtain ⟨e24, rs24, hy24, hp24⟩ := hd 24 (by decide)
    obtain ⟨hv24, hr24⟩ := hy24; subst hr24
    rw [hv24] at e24
    obtain ⟨e33, rs33, hy33, hp33⟩ := hd 33 (by decide)
    obtain ⟨hv33, hr33⟩ := hy33; subst hr33
    rw [hv33] at e33
    exact opG_yes rfl rfl (slot_ev e24 rfl) (vv (op_load1E rfl ty_3 (tmp_ev (slot_ev e33 rfl)) (SlAt.of_row (hS.ok_row 3 rfl)) (pairs_at1 (by omega))) (And.intro rfl rfl))
   trivial
  intro a312 w313 vs311 rsf317 hA314 hH316 hS315; clear hA310 hS300
  obtain ⟨hs_0, hy_0⟩ := hH316 0 (by decide)
  obtain ⟨hv_0, hr_0⟩ := hy_0
  obtain ⟨hs_1, hy_1⟩ := hH316 1 (by decide)
  obtain ⟨hv_1, hr_1⟩ := hy_1
  obtain ⟨hs_2, hy_2⟩ := hH316 2 (by decide)
  obtain ⟨hv_2, hr_2⟩ := hy_2
  obtain ⟨hs_3, hy_3⟩ := hH316 3 (by decide)
  obtain ⟨hv_3, hr_3⟩ := hy_3
  obtain ⟨hs_4, hy_4⟩ := hH316 4 (by decide)
  obtain ⟨hv_4, hr_4⟩ := hy_4
  obtain ⟨hs_5, hy_5⟩ := hH316 5 (by decide)
  obtain ⟨hv_5, hr_5⟩ := hy_5
  obtain ⟨hs_6, hy_6⟩ := hH316 6 (by decide)
  obtain ⟨hv_6, hr_6⟩ := hy_6
  obtain ⟨hs_7, hy_7⟩ := hH316 7 (by decide)
  obtain ⟨hv_7, hr_7⟩ := hy_7
  obtain ⟨hs_8, hy_8⟩ := hH316 8 (by decide)
  obtain ⟨hv_8, hr_8⟩ := hy_8
  obtain ⟨hs_9, hy_9⟩ := hH316 9 (by decide)
  obtain ⟨hv_9, hr_9⟩ := hy_9
  obtain ⟨hs_10, hy_10⟩ := hH316 10 (by decide)
  obtain ⟨hv_10, hr_10⟩ := hy_10
  obtain ⟨hs_11, hy_11⟩ := hH316 11 (by decide)
  obtain ⟨hv_11, hr_11⟩ := hy_11
  obtain ⟨hs_12, hy_12⟩ := hH316 12 (by decide)
  obtain ⟨hv_12, hr_12⟩ := hy_12
  obtain ⟨hs_13, hy_13⟩ := hH316 13 (by decide)
  obtain ⟨hv_13, hr_13⟩ := hy_13
  obtain ⟨hs_14, hy_14⟩ := hH316 14 (by decide)
  obtain ⟨hv_14, hr_14⟩ := hy_14
  obtain ⟨hs_15, hy_15⟩ := hH316 15 (by decide)
  obtain ⟨hv_15, hr_15⟩ := hy_15
  obtain ⟨hs_16, hy_16⟩ := hH316 16 (by decide)
  obtain ⟨hv_16, hr_16⟩ := hy_16
  obtain ⟨hs_17, hy_17⟩ := hH316 17 (by decide)
  obtain ⟨hv_17, hr_17⟩ := hy_17
  obtain ⟨hs_18, hy_18⟩ := hH316 18 (by decide)
  obtain ⟨hv_18, hr_18⟩ := hy_18
  obtain ⟨hs_19, hy_19⟩ := hH316 19 (by decide)
  obtain ⟨hv_19, hr_19⟩ := hy_19
  obtain ⟨hs_20, hy_20⟩ := hH316 20 (by decide)
  obtain ⟨hv_20, hr_20⟩ := hy_20
  obtain ⟨hs_21, hy_21⟩ := hH316 21 (by decide)
  obtain ⟨hv_21, hr_21⟩ := hy_21
  obtain ⟨hs_22, hy_22⟩ := hH316 22 (by decide)
  obtain ⟨hv_22, hr_22⟩ := hy_22
  obtain ⟨hs_23, hy_23⟩ := hH316 23 (by decide)
  obtain ⟨hv_23, hr_23⟩ := hy_23
  obtain ⟨hs_24, hy_24⟩ := hH316 24 (by decide)
  obtain ⟨hv_24, hr_24⟩ := hy_24
  obtain ⟨hs_25, hy_25⟩ := hH316 25 (by decide)
  obtain ⟨hv_25, hr_25⟩ := hy_25
  obtain ⟨hs_26, hy_26⟩ := hH316 26 (by decide)
  obtain ⟨hv_26, hr_26⟩ := hy_26
  obtain ⟨hs_27, hy_27⟩ := hH316 27 (by decide)
  obtain ⟨hv_27, hr_27⟩ := hy_27
  obtain ⟨hs_28, hy_28⟩ := hH316 28 (by decide)
  obtain ⟨hv_28, hr_28⟩ := hy_28
  obtain ⟨hs_29, hy_29⟩ := hH316 29 (by decide)
  obtain ⟨hv_29, hr_29⟩ := hy_29
  obtain ⟨hs_30, hy_30⟩ := hH316 30 (by decide)
  obtain ⟨hv_30, hr_30⟩ := hy_30
  obtain ⟨hs_31, hy_31⟩ := hH316 31 (by decide)
  obtain ⟨hv_31, hr_31⟩ := hy_31
  obtain ⟨hs_32, hy_32⟩ := hH316 32 (by decide)
  obtain ⟨hv_32, hr_32⟩ := hy_32
  obtain ⟨hs_33, hy_33⟩ := hH316 33 (by decide)
  obtain ⟨hv_33, hr_33⟩ := hy_33
  obtain ⟨hs_34, hy_34⟩ := hH316 34 (by decide)
  obtain ⟨hv_34, hr_34⟩ := hy_34
  have hS318 : Sep NoB w w313 [(row u237 46 2 S2.length (pairs S2)), (row v230 3 1 ((chosenF d.tols.length (x ||| y : Nat)).length) (ints (chosenF d.tols.length (x ||| y : Nat)))), (rndR true vl216 vs217 vb218 lv219 d), (row u199 46 2 S1.length (pairs S1)), (row v192 3 1 ((chosenF d.tols.length x).length) (ints (chosenF d.tols.length x))), (rndR true vl178 vs179 vb180 lv181 d), (rndR true (comp (vs114 1) 0) (comp (vs114 1) 1) (comp (vs114 1) 3) lv1_ d), (row (vs114 3) 3 1 ((chosenF d.tols.length 255).length) (ints (chosenF d.tols.length 255))), (row v96 3 1 ((chosenF d.tols.length (x ||| y : Nat)).length) (ints (chosenF d.tols.length (x ||| y : Nat)))), (rndR true vl82 vs83 vb84 lv85 d), (row v60 3 1 ((chosenF d.tols.length x).length) (ints (chosenF d.tols.length x))), (rndR true vl46 vs47 vb48 lv49 d), (row v35 3 1 ((chosenF d.tols.length (x ||| y : Nat)).length) (ints (chosenF d.tols.length (x ||| y : Nat)))), (row (vs18 2) 3 1 ((chosenF d.tols.length x).length) (ints (chosenF d.tols.length x))), (blk b4 26 [rl, rs, (Value.int .i64 d.spread), rb]), (rndR false rl rs rb rlv d)] := by rw [show catR rsf317 0 35 = ([] : List Res) by (try simp only [catR, hr_0, hr_1, hr_2, hr_3, hr_4, hr_5, hr_6, hr_7, hr_8, hr_9, hr_10, hr_11, hr_12, hr_13, hr_14, hr_15, hr_16, hr_17, hr_18, hr_19, hr_20, hr_21, hr_22, hr_23, hr_24, hr_25, hr_26, hr_27, hr_28, hr_29, hr_30, hr_31, hr_32, hr_33, hr_34]); (try rfl)] at hS315; exact hS315
  rw [hv_24] at hs_24
  have hA319 : Fr 161 [] [(147, (Value.bool false)), (19, (Value.int .i64 (k : Int))), (17, u237), (15, u199)] a312 := hA314.add (slot_ev hs_24 rfl); clear hA314
  rw [hv_29] at hs_29
  have hA320 : Fr 161 [] [(152, (Value.int .i64 ((S1.getD k (0, 0)).1))), (147, (Value.bool false)), (19, (Value.int .i64 (k : Int))), (17, u237), (15, u199)] a312 := hA319.add (slot_ev hs_29 rfl); clear hA319
  rw [hv_34] at hs_34
  have hA321 : Fr 161 [] [(157, (Value.int .i64 ((S1.getD k (0, 0)).2))), (152, (Value.int .i64 ((S1.getD k (0, 0)).1))), (147, (Value.bool false)), (19, (Value.int .i64 (k : Int))), (17, u237), (15, u199)] a312 := hA320.add (slot_ev hs_34 rfl); clear hA320
  clear hH316 hS315 hs_0 hs_1 hs_2 hs_3 hs_4 hs_5 hs_6 hs_7 hs_8 hs_9 hs_10 hs_11 hs_12 hs_13 hs_14 hs_15 hs_16 hs_17 hs_18 hs_19 hs_20 hs_21 hs_22 hs_23 hs_24 hs_25 hs_26 hs_27 hs_28 hs_29 hs_30 hs_31 hs_32 hs_33 hs_34
  clear hr_0
  clear hv_0
  clear hr_1
  clear hv_1
  clear hr_2
  clear hv_2
  clear hr_3
  clear hv_3
  clear hr_4
  clear hv_4
  clear hr_5
  clear hv_5
  clear hr_6
  clear hv_6
  clear hr_7
  clear hv_7
  clear hr_8
  clear hv_8
  clear hr_9
  clear hv_9
  clear hr_10
  clear hv_10
  clear hr_11
  clear hv_11
  clear hr_12
  clear hv_12
  clear hr_13
  clear hv_13
  clear hr_14
  clear hv_14
  clear hr_15
  clear hv_15
  clear hr_16
  clear hv_16
  clear hr_17
  clear hv_17
  clear hr_18
  clear hv_18
  clear hr_19
  clear hv_19
  clear hr_20
  clear hv_20
  clear hr_21
  clear hv_21
  clear hr_22
  clear hv_22
  clear hr_23
  clear hv_23
  clear hr_24
  clear hv_24
  clear hr_25
  clear hv_25
  clear hr_26
  clear hv_26
  clear hr_27
  clear hv_27
  clear hr_28
  clear hv_28
  clear hr_29
  clear hv_29
  clear hr_30
  clear hv_30
  clear hr_31
  clear hv_31
  clear hr_32
  clear hv_32
  clear hr_33
  clear hv_33
  clear hr_34
  clear hv_34
  refine stg hA321 (op_gtr rfl (hA321.ev rfl) (hA321.ev rfl)) rfl rfl rfl rfl (by decide) fun a322 hA323 => ?_; clear hA321 a312
  have hd324 : ¬ (((S1.getD k (0, 0)).2) < ((S1.getD k (0, 0)).1)) := (by have := hb k (by omega); omega)
  rw [decide_eq_false hd324] at hA323
  refine st hA323 (op_pick_f rfl (hA323.ev rfl) (hA323.ev rfl)) rfl rfl (by decide) fun a325 hA326 => ?_; clear hA323 a322
  refine wl_nil ?_
  refine then_n ?_
  refine c_false hA326 rfl ?_
  refine c_skip ?_
  refine blk_n ?_
  refine then_n ?_
  refine c_region ?_
  refine st hA326 (op_move rfl (hA326.ev rfl)) rfl rfl (by decide) fun a327 hA328 => ?_; clear hA326 a325
  refine st hA328 (op_add rfl (hA328.ev rfl) (evc _ _) (by omega) (by omega)) rfl rfl (by decide) fun a329 hA330 => ?_; clear hA328 a327
  refine st hA330 (op_assign rfl (hA330.ev rfl)) rfl rfl (by decide) fun a331 hA332 => ?_; clear hA330 a329
  refine wl_nil ?_
  exact then_n ⟨k + 1, ⟨hA332.as _ rfl, hS318, by omega⟩, by omega⟩
 ·skip
  rw [decide_eq_false hb309] at hA308
  refine c_false hA308 rfl ?_
  refine c_exit ?_
  refine then_exit ?_
  refine then_exit ?_
  refine blk_hit ?_
  refine then_n ?_
  refine c_seq ?_
  have hA333 := hA308.as [] rfl; clear hA308
  refine c_region ?_
  refine stw hA333 (op_call rfl en_18 ev0 (wakes_ok _)) rfl rfl (by decide) ?_
  rintro a334 _ w336 ⟨rfl, hE337⟩ hA335; have hS338 := hS300.step hE337; clear hE337 hA333 hS300 a307
  refine st hA335 (op_assign rfl (hA335.ev rfl)) rfl rfl (by decide) fun a339 hA340 => ?_; clear hA335 a334
  refine wl_nil ?_
  refine then_n ?_
  refine c_ret ?_
  refine fin_run hA340 (.inl rfl) (run_results1 hA340 rfl (.tmp rfl)) ?_
  exact ⟨rfl, hS338.ext⟩

theorem RoundMore_ok (rl rs rb : Value) (rlv : List Value) (d : RD) (w : World) (hR : RoundAt w rl rs rb rlv d) (n1 : Int) (h1 : 0 ≤ n1 ∧ n1 ≤ 255) (n2 : Int) (h2 : 0 ≤ n2 ∧ n2 ≤ 255) : Calls Try.prog 7 #[.agg #[rl, rs, .int .i64 d.spread, rb], .int .u8 n1, .int .u8 n2] w (Ret fun v w' => v = .bool true ∧ Ext NoB w w') := by
 obtain ⟨x, rfl⟩ : ∃ x : Nat, n1 = (x : Int) := ⟨n1.toNat, by omega⟩
 obtain ⟨y, rfl⟩ : ∃ y : Nat, n2 = (y : Int) := ⟨n2.toNat, by omega⟩
 rcases Bool.eq_false_or_eq_true (readyB d) with hf | hf
 ·have hc := (ready_of hf).2
  have hV := valid_of hc
  have hnb := hV.nb
  rcases Bool.eq_false_or_eq_true (explB d (offB d.tols.length x)) with hx | hx
  ·have hm : ∀ q, q < d.tols.length → (offB d.tols.length x).getD q false = true → (offB d.tols.length (x ||| y)).getD q false = true := fun q hq h => by
    rw [offB_get hnb hq, bitB_eq] at h
    rw [offB_get hnb hq, bitB_eq, Nat.testBit_or, h]; rfl
   have hy := explB_mono hV hm hx
   refine RoundMore_c rl rs rb rlv d w hR x y (by omega) (by omega) hf hx hy _ _ (spansR_yes hc (chosen_rise _ _) hx) (spansR_yes hc (chosen_rise _ _) hy) (spansF_len hx) (spansF_len hy) (fun k hk => ?_)
   have := span_mono hV hm hx hy hk
   exact ⟨this.1, this.2, span_ends hV hx hk⟩
  ·exact RoundMore_b rl rs rb rlv d w hR x y (by omega) (by omega) hf hx
 ·exact RoundMore_a rl rs rb rlv d w hR x y (by omega) (by omega) hf

end Go.Proofs.Ytfhmigoddaaljaa
