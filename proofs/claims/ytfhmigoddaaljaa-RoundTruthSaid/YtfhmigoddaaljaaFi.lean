/-
  Walks through the functions of the seat, printed by a program of ours (gowalk), a theorem a function: what the call returns and what it leaves in memory.
-/
import Derived.Test.YtfhmigoddaaljaaFg
set_option linter.unusedSimpArgs false
set_option linter.unusedVariables false
namespace Go.Proofs.Ytfhmigoddaaljaa
open Go.RowKit Go.Shelf Go.Eng
theorem words_at {ws : List Int} {i : Nat} (h : i < ws.length) : (ws.map (Value.int .u16))[i * 1]? = some (.int .u16 (ws.getD i 0)) := by simp [List.getD, h]

theorem word_ok (wv : Value) (ws : List Int) (w : World) (at_ : Int) (hws : SlAt w wv 1 ws.length (ws.map (Value.int .u16))) (hww : ∀ x ∈ ws, 0 ≤ x ∧ x ≤ 65535) (ha : 0 ≤ at_ ∧ at_ ≤ 1000000) :
  Calls Try.prog 61 #[wv, (Value.int .i64 at_)] w (Ret fun v w' => v = .int .i64 (wordF ws at_) ∧ Ext NoB w w') := by
 refine calls_enter Try.func61 rfl fun a0 hA0 => ?_
 replace hA0 : Fr 16 [] [(0, wv), (1, (Value.int .i64 at_))] a0 := hA0
 have hS0 : Sep NoB w w [(sl wv 1 ws.length (ws.map (Value.int .u16)))] := sep_ro ⟨rfl, hws, trivial⟩
 refine c_seq ?_
 refine c_region ?_
 refine st hA0 (op_assign rfl (evc _ _)) rfl rfl (by decide) fun a1 hA2 => ?_; clear hA0 a0
 refine wl_nil ?_
 refine then_n ?_
 refine c_seq ?_
 refine c_seq ?_
 refine c_region ?_
 refine st hA2 (op_move rfl (hA2.ev rfl)) rfl rfl (by decide) fun a3 hA4 => ?_; clear hA2 a1
 refine st hA4 (op_lenS rfl un_68 (hA4.ev rfl) (hS0.sk 0 rfl)) rfl rfl (by decide) fun a5 hA6 => ?_; clear hA4 a3
 refine st hA6 (op_eql rfl (hA6.ev rfl) (evc _ _)) rfl rfl (by decide) fun a7 hA8 => ?_; clear hA6 a5
 refine wl_nil ?_
 refine then_n ?_
 by_cases hb9 : (ws.length : Int) = 0
 ·skip
  rw [decide_eq_true hb9] at hA8
  refine c_true hA8 rfl ?_
  refine c_seq ?_
  have hA10 := hA8.as [] rfl; clear hA8
  refine c_region ?_
  refine st hA10 (op_assign rfl (evc _ _)) rfl rfl (by decide) fun a11 hA12 => ?_; clear hA10 a7
  refine wl_nil ?_
  refine then_n ?_
  refine c_ret ?_
  refine then_ret ?_
  refine fin_run hA12 (.inl rfl) (run_results1 hA12 rfl (.tmp rfl)) ?_
  exact ⟨ret_int (by unfold wordF; first | rw [if_pos (by omega)] | rw [if_neg (by omega)]), hS0.ext⟩
 ·skip
  rw [decide_eq_false hb9] at hA8
  have htm := tmod_nn ha.1 (show (0 : Int) < (ws.length : Int) by omega); have hwb := wordF_bd hww at_; rw [wordF, if_neg (by omega)] at hwb
  refine c_false hA8 rfl ?_
  refine c_skip ?_
  refine then_n ?_
  refine c_seq ?_
  refine c_region ?_
  refine st hA8 (op_move rfl (hA8.ev rfl)) rfl rfl (by decide) fun a13 hA14 => ?_; clear hA8 a7
  refine st hA14 (op_move rfl (hA14.ev rfl)) rfl rfl (by decide) fun a15 hA16 => ?_; clear hA14 a13
  refine st hA16 (op_move rfl (hA16.ev rfl)) rfl rfl (by decide) fun a17 hA18 => ?_; clear hA16 a15
  refine st hA18 (op_lenS rfl un_68 (hA18.ev rfl) (hS0.sk 0 rfl)) rfl rfl (by decide) fun a19 hA20 => ?_; clear hA18 a17
  refine st hA20 (op_rem rfl (hA20.ev rfl) (hA20.ev rfl) (by omega)) rfl rfl (by decide) fun a21 hA22 => ?_; clear hA20 a19
  refine st hA22 (op_indexS rfl un_68 ty_59 (hA22.ev rfl) (i := ((at_).tmod (ws.length : Int)).toNat) ((hA22.ev rfl).trans (int_nat (by omega))) (hS0.sk 0 rfl) (by decide) (by omega)) rfl rfl (by decide) fun a23 hA24 => ?_; clear hA22 a21
  refine st hA24 (op_load1E rfl ty_59 (hA24.ev rfl) (hS0.sk 0 rfl) (words_at (by omega))) rfl rfl (by decide) fun a25 hA26 => ?_; clear hA24 a23
  refine st hA26 (op_conv un_59 un_3 rfl (hA26.ev rfl) (v := ws.getD (((at_).tmod (ws.length : Int)).toNat) 0) (wrap_i64 (by omega) (by omega))) rfl rfl (by decide) fun a27 hA28 => ?_; clear hA26 a25
  refine st hA28 (op_assign rfl (hA28.ev rfl)) rfl rfl (by decide) fun a29 hA30 => ?_; clear hA28 a27
  refine wl_nil ?_
  refine then_n ?_
  refine c_ret ?_
  refine fin_run hA30 (.inl rfl) (run_results1 hA30 rfl (.tmp rfl)) ?_
  exact ⟨ret_int (by unfold wordF; first | rw [if_pos (by omega)] | rw [if_neg (by omega)]), hS0.ext⟩

theorem True_ok (rl rs rb : Value) (rlv : List Value) (d : RD) (w : World) (hR : RoundAt w rl rs rb rlv d) (wv : Value) (ws : List Int) (hws : SlAt w wv 1 ws.length (ws.map (Value.int .u16))) (hww : ∀ x ∈ ws, 0 ≤ x ∧ x ≤ 65535) (hV : Valid d) :
  Calls Try.prog 41 #[(Value.agg #[rl, rs, (Value.int .i64 d.spread), rb]), wv] w (Ret fun v w' => Ext NoB w w' ∧ w'.ownsRow w.heap.size 3 1 v (trueF d ws d.samples.length).length (ints (trueF d ws d.samples.length))) := by
 refine calls_enter Try.func41 rfl fun a0 hA0 => ?_
 replace hA0 : Fr 61 [] [(0, (Value.agg #[rl, rs, (Value.int .i64 d.spread), rb])), (1, wv)] a0 := hA0
 have hns := hV.ns; have hsp := hV.spread; have hnl := hV.nl
 have hS0 : Sep NoB w w [(sl wv 1 ws.length (ws.map (Value.int .u16))), (rndR false rl rs rb rlv d)] := sep_ro ⟨rfl, hws, rfl, hR, trivial⟩
 refine c_seq ?_
 refine c_region ?_
 refine stw hA0 (op_box hS0 rfl (hA0.ev rfl) (cs := [rl, rs, (Value.int .i64 d.spread), rb]) rfl) rfl rfl (by decide) ?_
 rintro a1 _ w3 ⟨b4, rfl, hS5⟩ hA2; clear hA0 hS0 a0
 refine st hA2 (op_assign rfl (evc _ _)) rfl rfl (by decide) fun a6 hA7 => ?_; clear hA2 a1
 refine wl_nil ?_
 refine then_n ?_
 refine c_seq ?_
 refine c_region ?_
 refine st hA7 (op_assign rfl (evc _ _)) rfl rfl (by decide) fun a8 hA9 => ?_; clear hA7 a6
 have hS10 := hS5.nil_row 3 1; clear hS5
 refine wl_nil ?_
 refine then_n ?_
 refine c_seq ?_
 refine c_seq ?_
 refine c_region ?_
 refine st hA9 (op_assign rfl (evc _ _)) rfl rfl (by decide) fun a11 hA12 => ?_; clear hA9 a8
 refine wl_nil ?_
 refine then_n ?_
 refine c_block ?_
 have hA13 := hA12.as [(6, (Value.int .i64 0)), (5, (Value.slice none 0 0)), (2, (bptr b4 0)), (1, wv)] rfl; clear hA12
 refine c_loop (G := Nat) (fun (k : Nat) a_ w_ => ∃ v5_ : Value, Fr 61 [] [(6, (Value.int .i64 (k : Int))), (5, v5_), (2, (bptr b4 0)), (1, wv)] a_ ∧ Sep NoB w w_ [(row v5_ 3 1 ((trueF d ws k).length) (ints (trueF d ws k))), (blk b4 26 [rl, rs, (Value.int .i64 d.spread), rb]), (sl wv 1 ws.length (ws.map (Value.int .u16))), (rndR false rl rs rb rlv d)] ∧ (k ≤ d.samples.length)) (fun k => d.samples.length - k) 0 ⟨(Value.slice none 0 0), hA13.as _ rfl, hS10, by omega⟩ ?_
 clear hA13 hS10 a11
 rintro k a14 w16 ⟨v5_, hA15, hS17, hk⟩
 have htl := trueF_len d ws k
 refine c_seq ?_
 refine c_seq ?_
 refine c_region ?_
 refine st hA15 (op_move rfl (hA15.ev rfl)) rfl rfl (by decide) fun a18 hA19 => ?_; clear hA15 a14
 refine st hA19 (op_field rfl fd_26_1 (hA19.ev rfl)) rfl rfl (by decide) fun a20 hA21 => ?_; clear hA19 a18
 refine st hA21 (op_load1 rfl ty_23 (hA21.ev rfl) (hS17.bk 1 rfl) rfl) rfl rfl (by decide) fun a22 hA23 => ?_; clear hA21 a20
 refine st hA23 (op_lenS rfl un_23 (hA23.ev rfl) (rnd_at (hS17.ok 3 _ rfl)).samples) rfl rfl (by decide) fun a24 hA25 => ?_; clear hA23 a22
 refine st hA25 (op_lss rfl (hA25.ev rfl) (hA25.ev rfl)) rfl rfl (by decide) fun a26 hA27 => ?_; clear hA25 a24
 refine wl_nil ?_
 refine then_n ?_
 by_cases hb28 : (k : Int) < (d.samples.length : Int)
 ·skip
  rw [decide_eq_true hb28] at hA27
  have hsm := hV.samples k (by omega); have hlt := hV.lots (d.samples.getD k 0).toNat (by omega); have hwa := wordF_bd hww (d.samples.getD k 0); have hwb := wordF_bd hww (7 * (k : Int) + 3)
  have hma := tmod_nn hwa.1 (show 0 < (d.lots.getD (d.samples.getD k 0).toNat (0, 0)).2 - (d.lots.getD (d.samples.getD k 0).toNat (0, 0)).1 + 1 by omega); have hmb := tmod_nn hwb.1 (show 0 < 2 * d.spread + 1 by omega)
  refine c_true hA27 rfl ?_
  refine c_skip ?_
  refine then_n ?_
  refine c_seq ?_
  refine c_block ?_
  refine c_seq ?_
  have hA29 := hA27.as [(6, (Value.int .i64 (k : Int))), (5, v5_), (2, (bptr b4 0)), (1, wv)] rfl; clear hA27
  refine c_drawV mixed hA29 hS17 10 [[], [0], [], [2], [], [3, 4], [5], [1, 6], [7], []] [(fun (vs30 : Nat → Value) (v_ : Value) (rs_ : List Res) => v_ = (bptr b4 0) ∧ rs_ = []), (fun (vs30 : Nat → Value) (v_ : Value) (rs_ : List Res) => v_ = rl ∧ rs_ = []), (fun (vs30 : Nat → Value) (v_ : Value) (rs_ : List Res) => v_ = (bptr b4 1) ∧ rs_ = []), (fun (vs30 : Nat → Value) (v_ : Value) (rs_ : List Res) => v_ = rs ∧ rs_ = []), (fun (vs30 : Nat → Value) (v_ : Value) (rs_ : List Res) => v_ = (Value.int .i64 (k : Int)) ∧ rs_ = []), (fun (vs30 : Nat → Value) (v_ : Value) (rs_ : List Res) => v_ = (eptr rs (k * 1)) ∧ rs_ = []), (fun (vs30 : Nat → Value) (v_ : Value) (rs_ : List Res) => v_ = (Value.int .i64 (d.samples.getD k 0)) ∧ rs_ = []), (fun (vs30 : Nat → Value) (v_ : Value) (rs_ : List Res) => v_ = (eptr rl ((d.samples.getD k 0).toNat * 2)) ∧ rs_ = []), (fun (vs30 : Nat → Value) (v_ : Value) (rs_ : List Res) => v_ = (Value.agg #[(Value.int .i64 ((d.lots.getD ((d.samples.getD k 0).toNat) (0, 0)).1)), (Value.int .i64 ((d.lots.getD ((d.samples.getD k 0).toNat) (0, 0)).2))]) ∧ rs_ = []), (fun (vs30 : Nat → Value) (v_ : Value) (rs_ : List Res) => ∃ (b9_ : Nat), v_ = (bptr b9_ 0) ∧ rs_ = [(blk b9_ 44 [(Value.int .i64 0), (Value.int .i64 0)])])] (by decide +kernel) (by decide +kernel) rfl rfl ⟨(fun _ _ _ _ _ h_ => h_), (fun _ _ _ _ _ h_ => h_), (fun _ _ _ _ _ h_ => h_), (fun _ _ _ _ _ h_ => h_), (fun _ _ _ _ _ h_ => h_), (fun _ _ _ _ _ h_ => h_), (fun _ _ _ _ _ h_ => h_), (fun _ _ _ _ _ h_ => h_), (fun _ _ _ _ _ h_ => h_), (fun _ _ _ _ _ h_ => h_), trivial⟩ ?_ ?_
  ·skip
   refine ⟨fun a w vs30 hA hS hd => ?_, ?_⟩
   ·skip
    exact opG_of rfl (vv (op_field rfl fd_26_0 (hA.ev rfl)) (And.intro rfl rfl))
   refine ⟨fun a w vs30 hA hS hd => ?_, ?_⟩
   ·skip
    obtain ⟨e0, rs0, hy0, hp0⟩ := hd 0 (by decide)
    obtain ⟨hv0, hr0⟩ := hy0; subst hr0
    rw [hv0] at e0
    exact opG_of rfl (vv (op_load1 rfl ty_22 (tmp_ev (slot_ev e0 rfl)) (hS.bk 1 rfl) rfl) (And.intro rfl rfl))
   refine ⟨fun a w vs30 hA hS hd => ?_, ?_⟩
   ·skip
    exact opG_of rfl (vv (op_field rfl fd_26_1 (hA.ev rfl)) (And.intro rfl rfl))
   refine ⟨fun a w vs30 hA hS hd => ?_, ?_⟩
   ·skip
    obtain ⟨e2, rs2, hy2, hp2⟩ := hd 2 (by decide)
    obtain ⟨hv2, hr2⟩ := hy2; subst hr2
    rw [hv2] at e2
    exact opG_of rfl (vv (op_load1 rfl ty_23 (tmp_ev (slot_ev e2 rfl)) (hS.bk 1 rfl) rfl) (And.intro rfl rfl))
   refine ⟨fun a w vs30 hA hS hd => ?_, ?_⟩
   ·skip
    exact opG_of rfl (vv (op_move rfl (hA.ev rfl)) (And.intro rfl rfl))
   refine ⟨fun a w vs30 hA hS hd => ?_, ?_⟩
   ·skip
    obtain ⟨e3, rs3, hy3, hp3⟩ := hd 3 (by decide)
    obtain ⟨hv3, hr3⟩ := hy3; subst hr3
    rw [hv3] at e3
    obtain ⟨e4, rs4, hy4, hp4⟩ := hd 4 (by decide)
    obtain ⟨hv4, hr4⟩ := hy4; subst hr4
    rw [hv4] at e4
    exact opG_of rfl (vv (op_indexS rfl un_23 ty_3 (tmp_ev (slot_ev e3 rfl)) (i := k) (tmp_ev (slot_ev e4 rfl)) (rnd_at (hS.ok 3 _ rfl)).samples (by decide) (by omega)) (And.intro rfl rfl))
   refine ⟨fun a w vs30 hA hS hd => ?_, ?_⟩
   ·skip
    obtain ⟨e5, rs5, hy5, hp5⟩ := hd 5 (by decide)
    obtain ⟨hv5, hr5⟩ := hy5; subst hr5
    rw [hv5] at e5
    exact opG_of rfl (vv (op_load1E rfl ty_3 (tmp_ev (slot_ev e5 rfl)) (rnd_at (hS.ok 3 _ rfl)).samples (ints_at (by omega))) (And.intro rfl rfl))
   refine ⟨fun a w vs30 hA hS hd => ?_, ?_⟩
   ·skip
    obtain ⟨e1, rs1, hy1, hp1⟩ := hd 1 (by decide)
    obtain ⟨hv1, hr1⟩ := hy1; subst hr1
    rw [hv1] at e1
    obtain ⟨e6, rs6, hy6, hp6⟩ := hd 6 (by decide)
    obtain ⟨hv6, hr6⟩ := hy6; subst hr6
    rw [hv6] at e6
    exact opG_of rfl (vv (op_indexS rfl un_22 ty_44 (tmp_ev (slot_ev e1 rfl)) (i := (d.samples.getD k 0).toNat) ((tmp_ev (slot_ev e6 rfl)).trans (int_nat (by omega))) (rnd_at (hS.ok 3 _ rfl)).lots (by decide) (by omega)) (And.intro rfl rfl))
   refine ⟨fun a w vs30 hA hS hd => ?_, ?_⟩
   ·skip
    obtain ⟨e7, rs7, hy7, hp7⟩ := hd 7 (by decide)
    obtain ⟨hv7, hr7⟩ := hy7; subst hr7
    rw [hv7] at e7
    exact opG_of rfl (vv (op_loadAE rfl ty_44 (tmp_ev (slot_ev e7 rfl)) (rnd_at (hS.ok 3 _ rfl)).lots (pairs_all (by omega)) rfl (by decide)) (And.intro rfl rfl))
   refine ⟨fun a w vs30 hA hS hd => ?_, ?_⟩
   ·skip
    exact opG_of rfl (valloc rfl ze_44 (cs := [(Value.int .i64 0), (Value.int .i64 0)]) rfl (fun b_ => ⟨b_, rfl, rfl⟩))
   trivial
  intro a31 w32 vs30 rsf36 hA33 hH35 hS34; clear hA29 hS17
  obtain ⟨hs_0, hy_0⟩ := hH35 0 (by decide)
  obtain ⟨hv_0, hr_0⟩ := hy_0
  obtain ⟨hs_1, hy_1⟩ := hH35 1 (by decide)
  obtain ⟨hv_1, hr_1⟩ := hy_1
  obtain ⟨hs_2, hy_2⟩ := hH35 2 (by decide)
  obtain ⟨hv_2, hr_2⟩ := hy_2
  obtain ⟨hs_3, hy_3⟩ := hH35 3 (by decide)
  obtain ⟨hv_3, hr_3⟩ := hy_3
  obtain ⟨hs_4, hy_4⟩ := hH35 4 (by decide)
  obtain ⟨hv_4, hr_4⟩ := hy_4
  obtain ⟨hs_5, hy_5⟩ := hH35 5 (by decide)
  obtain ⟨hv_5, hr_5⟩ := hy_5
  obtain ⟨hs_6, hy_6⟩ := hH35 6 (by decide)
  obtain ⟨hv_6, hr_6⟩ := hy_6
  obtain ⟨hs_7, hy_7⟩ := hH35 7 (by decide)
  obtain ⟨hv_7, hr_7⟩ := hy_7
  obtain ⟨hs_8, hy_8⟩ := hH35 8 (by decide)
  obtain ⟨hv_8, hr_8⟩ := hy_8
  obtain ⟨hs_9, hy_9⟩ := hH35 9 (by decide)
  obtain ⟨b9_, hv_9, hr_9⟩ := hy_9
  have hS37 : Sep NoB w w32 [(blk b9_ 44 [(Value.int .i64 0), (Value.int .i64 0)]), (row v5_ 3 1 ((trueF d ws k).length) (ints (trueF d ws k))), (blk b4 26 [rl, rs, (Value.int .i64 d.spread), rb]), (sl wv 1 ws.length (ws.map (Value.int .u16))), (rndR false rl rs rb rlv d)] := by rw [show catR rsf36 0 10 = ([(blk b9_ 44 [(Value.int .i64 0), (Value.int .i64 0)])] : List Res) by (try simp only [catR, hr_0, hr_1, hr_2, hr_3, hr_4, hr_5, hr_6, hr_7, hr_8, hr_9]); (try rfl)] at hS34; exact hS34
  rw [hv_8] at hs_8
  have hA38 : Fr 61 [] [(24, (Value.agg #[(Value.int .i64 ((d.lots.getD ((d.samples.getD k 0).toNat) (0, 0)).1)), (Value.int .i64 ((d.lots.getD ((d.samples.getD k 0).toNat) (0, 0)).2))])), (6, (Value.int .i64 (k : Int))), (5, v5_), (2, (bptr b4 0)), (1, wv)] a31 := hA33.add (slot_ev hs_8 rfl); clear hA33
  rw [hv_9] at hs_9
  have hA39 : Fr 61 [] [(7, (bptr b9_ 0)), (24, (Value.agg #[(Value.int .i64 ((d.lots.getD ((d.samples.getD k 0).toNat) (0, 0)).1)), (Value.int .i64 ((d.lots.getD ((d.samples.getD k 0).toNat) (0, 0)).2))])), (6, (Value.int .i64 (k : Int))), (5, v5_), (2, (bptr b4 0)), (1, wv)] a31 := hA38.add (slot_ev hs_9 rfl); clear hA38
  clear hH35 hS34 hs_0 hs_1 hs_2 hs_3 hs_4 hs_5 hs_6 hs_7 hs_8 hs_9
  clear hr_0
  clear hv_0
  clear hr_1
  clear hv_1
  clear hr_2
  clear hv_2
  clear hr_3
  clear hv_3
  clear hr_4
  clear hv_4
  clear hr_5
  clear hv_5
  clear hr_6
  clear hv_6
  clear hr_7
  clear hv_7
  clear hr_8
  clear hv_8
  clear hr_9
  clear hv_9
  refine sts hA39 (op_store hS37 rfl ty_44 (hA39.ev rfl) (hA39.ev rfl) (i := 0) rfl (vs := [(Value.int .i64 ((d.lots.getD ((d.samples.getD k 0).toNat) (0, 0)).1)), (Value.int .i64 ((d.lots.getD ((d.samples.getD k 0).toNat) (0, 0)).2))]) rfl rfl rfl (Nat.le_of_ble_eq_true rfl)) rfl rfl ?_
  intro _ w40 hS41 hA42; clear hA39
  have hS43 : Sep NoB w w40 [(blk b9_ 44 [(Value.int .i64 ((d.lots.getD ((d.samples.getD k 0).toNat) (0, 0)).1)), (Value.int .i64 ((d.lots.getD ((d.samples.getD k 0).toNat) (0, 0)).2))]), (row v5_ 3 1 ((trueF d ws k).length) (ints (trueF d ws k))), (blk b4 26 [rl, rs, (Value.int .i64 d.spread), rb]), (sl wv 1 ws.length (ws.map (Value.int .u16))), (rndR false rl rs rb rlv d)] := hS41; clear hS41 hS37
  refine wl_nil ?_
  refine then_n ?_
  refine c_seq ?_
  have hA44 := hA42.as [(7, (bptr b9_ 0)), (6, (Value.int .i64 (k : Int))), (5, v5_), (2, (bptr b4 0)), (1, wv)] rfl; clear hA42
  refine c_drawV mixed hA44 hS43 16 [[], [0], [], [], [3], [], [4, 5], [6], [2, 7], [], [9], [], [11], [10, 12], [13], [8, 14]] [(fun (vs45 : Nat → Value) (v_ : Value) (rs_ : List Res) => v_ = (bptr b9_ 0) ∧ rs_ = []), (fun (vs45 : Nat → Value) (v_ : Value) (rs_ : List Res) => v_ = (Value.int .i64 ((d.lots.getD ((d.samples.getD k 0).toNat) (0, 0)).1)) ∧ rs_ = []), (fun (vs45 : Nat → Value) (v_ : Value) (rs_ : List Res) => v_ = wv ∧ rs_ = []), (fun (vs45 : Nat → Value) (v_ : Value) (rs_ : List Res) => v_ = (bptr b4 1) ∧ rs_ = []), (fun (vs45 : Nat → Value) (v_ : Value) (rs_ : List Res) => v_ = rs ∧ rs_ = []), (fun (vs45 : Nat → Value) (v_ : Value) (rs_ : List Res) => v_ = (Value.int .i64 (k : Int)) ∧ rs_ = []), (fun (vs45 : Nat → Value) (v_ : Value) (rs_ : List Res) => v_ = (eptr rs (k * 1)) ∧ rs_ = []), (fun (vs45 : Nat → Value) (v_ : Value) (rs_ : List Res) => v_ = (Value.int .i64 (d.samples.getD k 0)) ∧ rs_ = []), (fun (vs45 : Nat → Value) (v_ : Value) (rs_ : List Res) => v_ = (Value.int .i64 (wordF ws (d.samples.getD k 0))) ∧ rs_ = []), (fun (vs45 : Nat → Value) (v_ : Value) (rs_ : List Res) => v_ = (bptr b9_ 1) ∧ rs_ = []), (fun (vs45 : Nat → Value) (v_ : Value) (rs_ : List Res) => v_ = (Value.int .i64 ((d.lots.getD ((d.samples.getD k 0).toNat) (0, 0)).2)) ∧ rs_ = []), (fun (vs45 : Nat → Value) (v_ : Value) (rs_ : List Res) => v_ = (bptr b9_ 0) ∧ rs_ = []), (fun (vs45 : Nat → Value) (v_ : Value) (rs_ : List Res) => v_ = (Value.int .i64 ((d.lots.getD ((d.samples.getD k 0).toNat) (0, 0)).1)) ∧ rs_ = []), (fun (vs45 : Nat → Value) (v_ : Value) (rs_ : List Res) => v_ = (Value.int .i64 (((d.lots.getD ((d.samples.getD k 0).toNat) (0, 0)).2) - ((d.lots.getD ((d.samples.getD k 0).toNat) (0, 0)).1))) ∧ rs_ = []), (fun (vs45 : Nat → Value) (v_ : Value) (rs_ : List Res) => v_ = (Value.int .i64 ((((d.lots.getD ((d.samples.getD k 0).toNat) (0, 0)).2) - ((d.lots.getD ((d.samples.getD k 0).toNat) (0, 0)).1)) + 1)) ∧ rs_ = []), (fun (vs45 : Nat → Value) (v_ : Value) (rs_ : List Res) => v_ = (Value.int .i64 (((wordF ws (d.samples.getD k 0))).tmod ((((d.lots.getD ((d.samples.getD k 0).toNat) (0, 0)).2) - ((d.lots.getD ((d.samples.getD k 0).toNat) (0, 0)).1)) + 1))) ∧ rs_ = [])] (by decide +kernel) (by decide +kernel) rfl rfl ⟨(fun _ _ _ _ _ h_ => h_), (fun _ _ _ _ _ h_ => h_), (fun _ _ _ _ _ h_ => h_), (fun _ _ _ _ _ h_ => h_), (fun _ _ _ _ _ h_ => h_), (fun _ _ _ _ _ h_ => h_), (fun _ _ _ _ _ h_ => h_), (fun _ _ _ _ _ h_ => h_), (fun _ _ _ _ _ h_ => h_), (fun _ _ _ _ _ h_ => h_), (fun _ _ _ _ _ h_ => h_), (fun _ _ _ _ _ h_ => h_), (fun _ _ _ _ _ h_ => h_), (fun _ _ _ _ _ h_ => h_), (fun _ _ _ _ _ h_ => h_), (fun _ _ _ _ _ h_ => h_), trivial⟩ ?_ ?_
  ·skip
   refine ⟨fun a w vs45 hA hS hd => ?_, ?_⟩
   ·skip
    exact opG_of rfl (vv (op_field rfl fd_44_0 (hA.ev rfl)) (And.intro rfl rfl))
   refine ⟨fun a w vs45 hA hS hd => ?_, ?_⟩
   ·skip
    obtain ⟨e0, rs0, hy0, hp0⟩ := hd 0 (by decide)
    obtain ⟨hv0, hr0⟩ := hy0; subst hr0
    rw [hv0] at e0
    exact opG_of rfl (vv (op_load1 rfl ty_3 (tmp_ev (slot_ev e0 rfl)) (hS.bk 0 rfl) rfl) (And.intro rfl rfl))
   refine ⟨fun a w vs45 hA hS hd => ?_, ?_⟩
   ·skip
    exact opG_of rfl (vv (op_move rfl (hA.ev rfl)) (And.intro rfl rfl))
   refine ⟨fun a w vs45 hA hS hd => ?_, ?_⟩
   ·skip
    exact opG_of rfl (vv (op_field rfl fd_26_1 (hA.ev rfl)) (And.intro rfl rfl))
   refine ⟨fun a w vs45 hA hS hd => ?_, ?_⟩
   ·skip
    obtain ⟨e3, rs3, hy3, hp3⟩ := hd 3 (by decide)
    obtain ⟨hv3, hr3⟩ := hy3; subst hr3
    rw [hv3] at e3
    exact opG_of rfl (vv (op_load1 rfl ty_23 (tmp_ev (slot_ev e3 rfl)) (hS.bk 2 rfl) rfl) (And.intro rfl rfl))
   refine ⟨fun a w vs45 hA hS hd => ?_, ?_⟩
   ·skip
    exact opG_of rfl (vv (op_move rfl (hA.ev rfl)) (And.intro rfl rfl))
   refine ⟨fun a w vs45 hA hS hd => ?_, ?_⟩
   ·skip
    obtain ⟨e4, rs4, hy4, hp4⟩ := hd 4 (by decide)
    obtain ⟨hv4, hr4⟩ := hy4; subst hr4
    rw [hv4] at e4
    obtain ⟨e5, rs5, hy5, hp5⟩ := hd 5 (by decide)
    obtain ⟨hv5, hr5⟩ := hy5; subst hr5
    rw [hv5] at e5
    exact opG_of rfl (vv (op_indexS rfl un_23 ty_3 (tmp_ev (slot_ev e4 rfl)) (i := k) (tmp_ev (slot_ev e5 rfl)) (rnd_at (hS.ok 4 _ rfl)).samples (by decide) (by omega)) (And.intro rfl rfl))
   refine ⟨fun a w vs45 hA hS hd => ?_, ?_⟩
   ·skip
    obtain ⟨e6, rs6, hy6, hp6⟩ := hd 6 (by decide)
    obtain ⟨hv6, hr6⟩ := hy6; subst hr6
    rw [hv6] at e6
    exact opG_of rfl (vv (op_load1E rfl ty_3 (tmp_ev (slot_ev e6 rfl)) (rnd_at (hS.ok 4 _ rfl)).samples (ints_at (by omega))) (And.intro rfl rfl))
   refine ⟨fun a w vs45 hA hS hd => ?_, ?_⟩
   ·skip
    obtain ⟨e2, rs2, hy2, hp2⟩ := hd 2 (by decide)
    obtain ⟨hv2, hr2⟩ := hy2; subst hr2
    rw [hv2] at e2
    obtain ⟨e7, rs7, hy7, hp7⟩ := hd 7 (by decide)
    obtain ⟨hv7, hr7⟩ := hy7; subst hr7
    rw [hv7] at e7
    exact opG_of rfl (vx (op_call rfl en_61 (ev2 (tmp_ev (slot_ev e2 rfl)) (tmp_ev (slot_ev e7 rfl))) (word_ok _ ws _ (d.samples.getD k 0) (hS.sk 3 rfl) hww (by omega))) (And.intro rfl rfl))
   refine ⟨fun a w vs45 hA hS hd => ?_, ?_⟩
   ·skip
    exact opG_of rfl (vv (op_field rfl fd_44_1 (hA.ev rfl)) (And.intro rfl rfl))
   refine ⟨fun a w vs45 hA hS hd => ?_, ?_⟩
   ·skip
    obtain ⟨e9, rs9, hy9, hp9⟩ := hd 9 (by decide)
    obtain ⟨hv9, hr9⟩ := hy9; subst hr9
    rw [hv9] at e9
    exact opG_of rfl (vv (op_load1 rfl ty_3 (tmp_ev (slot_ev e9 rfl)) (hS.bk 0 rfl) rfl) (And.intro rfl rfl))
   refine ⟨fun a w vs45 hA hS hd => ?_, ?_⟩
   ·skip
    exact opG_of rfl (vv (op_field rfl fd_44_0 (hA.ev rfl)) (And.intro rfl rfl))
   refine ⟨fun a w vs45 hA hS hd => ?_, ?_⟩
   ·skip
    obtain ⟨e11, rs11, hy11, hp11⟩ := hd 11 (by decide)
    obtain ⟨hv11, hr11⟩ := hy11; subst hr11
    rw [hv11] at e11
    exact opG_of rfl (vv (op_load1 rfl ty_3 (tmp_ev (slot_ev e11 rfl)) (hS.bk 0 rfl) rfl) (And.intro rfl rfl))
   refine ⟨fun a w vs45 hA hS hd => ?_, ?_⟩
   ·skip
    obtain ⟨e10, rs10, hy10, hp10⟩ := hd 10 (by decide)
    obtain ⟨hv10, hr10⟩ := hy10; subst hr10
    rw [hv10] at e10
    obtain ⟨e12, rs12, hy12, hp12⟩ := hd 12 (by decide)
    obtain ⟨hv12, hr12⟩ := hy12; subst hr12
    rw [hv12] at e12
    exact opG_of rfl (vv (op_sub rfl (tmp_ev (slot_ev e10 rfl)) (tmp_ev (slot_ev e12 rfl)) (by omega) (by omega)) (And.intro rfl rfl))
   refine ⟨fun a w vs45 hA hS hd => ?_, ?_⟩
   ·skip
    obtain ⟨e13, rs13, hy13, hp13⟩ := hd 13 (by decide)
    obtain ⟨hv13, hr13⟩ := hy13; subst hr13
    rw [hv13] at e13
    exact opG_of rfl (vv (op_add rfl (tmp_ev (slot_ev e13 rfl)) (evc _ _) (by omega) (by omega)) (And.intro rfl rfl))
   refine ⟨fun a w vs45 hA hS hd => ?_, ?_⟩
   ·skip
    obtain ⟨e8, rs8, hy8, hp8⟩ := hd 8 (by decide)
    obtain ⟨hv8, hr8⟩ := hy8; subst hr8
    rw [hv8] at e8
    obtain ⟨e14, rs14, hy14, hp14⟩ := hd 14 (by decide)
    obtain ⟨hv14, hr14⟩ := hy14; subst hr14
    rw [hv14] at e14
    exact opG_of rfl (vv (op_rem rfl (tmp_ev (slot_ev e8 rfl)) (tmp_ev (slot_ev e14 rfl)) (by omega)) (And.intro rfl rfl))
   trivial
  intro a46 w47 vs45 rsf51 hA48 hH50 hS49; clear hA44 hS43
  obtain ⟨hs_0, hy_0⟩ := hH50 0 (by decide)
  obtain ⟨hv_0, hr_0⟩ := hy_0
  obtain ⟨hs_1, hy_1⟩ := hH50 1 (by decide)
  obtain ⟨hv_1, hr_1⟩ := hy_1
  obtain ⟨hs_2, hy_2⟩ := hH50 2 (by decide)
  obtain ⟨hv_2, hr_2⟩ := hy_2
  obtain ⟨hs_3, hy_3⟩ := hH50 3 (by decide)
  obtain ⟨hv_3, hr_3⟩ := hy_3
  obtain ⟨hs_4, hy_4⟩ := hH50 4 (by decide)
  obtain ⟨hv_4, hr_4⟩ := hy_4
  obtain ⟨hs_5, hy_5⟩ := hH50 5 (by decide)
  obtain ⟨hv_5, hr_5⟩ := hy_5
  obtain ⟨hs_6, hy_6⟩ := hH50 6 (by decide)
  obtain ⟨hv_6, hr_6⟩ := hy_6
  obtain ⟨hs_7, hy_7⟩ := hH50 7 (by decide)
  obtain ⟨hv_7, hr_7⟩ := hy_7
  obtain ⟨hs_8, hy_8⟩ := hH50 8 (by decide)
  obtain ⟨hv_8, hr_8⟩ := hy_8
  obtain ⟨hs_9, hy_9⟩ := hH50 9 (by decide)
  obtain ⟨hv_9, hr_9⟩ := hy_9
  obtain ⟨hs_10, hy_10⟩ := hH50 10 (by decide)
  obtain ⟨hv_10, hr_10⟩ := hy_10
  obtain ⟨hs_11, hy_11⟩ := hH50 11 (by decide)
  obtain ⟨hv_11, hr_11⟩ := hy_11
  obtain ⟨hs_12, hy_12⟩ := hH50 12 (by decide)
  obtain ⟨hv_12, hr_12⟩ := hy_12
  obtain ⟨hs_13, hy_13⟩ := hH50 13 (by decide)
  obtain ⟨hv_13, hr_13⟩ := hy_13
  obtain ⟨hs_14, hy_14⟩ := hH50 14 (by decide)
  obtain ⟨hv_14, hr_14⟩ := hy_14
  obtain ⟨hs_15, hy_15⟩ := hH50 15 (by decide)
  obtain ⟨hv_15, hr_15⟩ := hy_15
  have hS52 : Sep NoB w w47 [(blk b9_ 44 [(Value.int .i64 ((d.lots.getD ((d.samples.getD k 0).toNat) (0, 0)).1)), (Value.int .i64 ((d.lots.getD ((d.samples.getD k 0).toNat) (0, 0)).2))]), (row v5_ 3 1 ((trueF d ws k).length) (ints (trueF d ws k))), (blk b4 26 [rl, rs, (Value.int .i64 d.spread), rb]), (sl wv 1 ws.length (ws.map (Value.int .u16))), (rndR false rl rs rb rlv d)] := by rw [show catR rsf51 0 16 = ([] : List Res) by (try simp only [catR, hr_0, hr_1, hr_2, hr_3, hr_4, hr_5, hr_6, hr_7, hr_8, hr_9, hr_10, hr_11, hr_12, hr_13, hr_14, hr_15]); (try rfl)] at hS49; exact hS49
  rw [hv_1] at hs_1
  have hA53 : Fr 61 [] [(26, (Value.int .i64 ((d.lots.getD ((d.samples.getD k 0).toNat) (0, 0)).1))), (7, (bptr b9_ 0)), (6, (Value.int .i64 (k : Int))), (5, v5_), (2, (bptr b4 0)), (1, wv)] a46 := hA48.add (slot_ev hs_1 rfl); clear hA48
  rw [hv_15] at hs_15
  have hA54 : Fr 61 [] [(40, (Value.int .i64 (((wordF ws (d.samples.getD k 0))).tmod ((((d.lots.getD ((d.samples.getD k 0).toNat) (0, 0)).2) - ((d.lots.getD ((d.samples.getD k 0).toNat) (0, 0)).1)) + 1)))), (26, (Value.int .i64 ((d.lots.getD ((d.samples.getD k 0).toNat) (0, 0)).1))), (7, (bptr b9_ 0)), (6, (Value.int .i64 (k : Int))), (5, v5_), (2, (bptr b4 0)), (1, wv)] a46 := hA53.add (slot_ev hs_15 rfl); clear hA53
  clear hH50 hS49 hs_0 hs_1 hs_2 hs_3 hs_4 hs_5 hs_6 hs_7 hs_8 hs_9 hs_10 hs_11 hs_12 hs_13 hs_14 hs_15
  clear hr_0
  clear hv_0
  clear hr_1
  clear hv_1
  clear hr_2
  clear hv_2
  clear hr_3
  clear hv_3
  clear hr_4
  clear hv_4
  clear hr_5
  clear hv_5
  clear hr_6
  clear hv_6
  clear hr_7
  clear hv_7
  clear hr_8
  clear hv_8
  clear hr_9
  clear hv_9
  clear hr_10
  clear hv_10
  clear hr_11
  clear hv_11
  clear hr_12
  clear hv_12
  clear hr_13
  clear hv_13
  clear hr_14
  clear hv_14
  clear hr_15
  clear hv_15
  refine st hA54 (op_add rfl (hA54.ev rfl) (hA54.ev rfl) (by omega) (by omega)) rfl rfl (by decide) fun a55 hA56 => ?_; clear hA54 a46
  refine st hA56 (op_assign rfl (hA56.ev rfl)) rfl rfl (by decide) fun a57 hA58 => ?_; clear hA56 a55
  refine wl_nil ?_
  refine then_n ?_
  have hA59 := hA58.as [(8, (Value.int .i64 (((d.lots.getD ((d.samples.getD k 0).toNat) (0, 0)).1) + (((wordF ws (d.samples.getD k 0))).tmod ((((d.lots.getD ((d.samples.getD k 0).toNat) (0, 0)).2) - ((d.lots.getD ((d.samples.getD k 0).toNat) (0, 0)).1)) + 1))))), (6, (Value.int .i64 (k : Int))), (5, v5_), (2, (bptr b4 0)), (1, wv)] rfl; clear hA58
  refine c_drawV mixed hA59 hS52 17 [[], [], [], [2], [1, 3], [], [], [6], [7], [5, 8], [], [10], [11], [12], [9, 13], [4, 14], [15]] [(fun (vs60 : Nat → Value) (v_ : Value) (rs_ : List Res) => v_ = v5_ ∧ rs_ = []), (fun (vs60 : Nat → Value) (v_ : Value) (rs_ : List Res) => v_ = (Value.int .i64 (((d.lots.getD ((d.samples.getD k 0).toNat) (0, 0)).1) + (((wordF ws (d.samples.getD k 0))).tmod ((((d.lots.getD ((d.samples.getD k 0).toNat) (0, 0)).2) - ((d.lots.getD ((d.samples.getD k 0).toNat) (0, 0)).1)) + 1)))) ∧ rs_ = []), (fun (vs60 : Nat → Value) (v_ : Value) (rs_ : List Res) => v_ = (bptr b4 2) ∧ rs_ = []), (fun (vs60 : Nat → Value) (v_ : Value) (rs_ : List Res) => v_ = (Value.int .i64 d.spread) ∧ rs_ = []), (fun (vs60 : Nat → Value) (v_ : Value) (rs_ : List Res) => v_ = (Value.int .i64 ((((d.lots.getD ((d.samples.getD k 0).toNat) (0, 0)).1) + (((wordF ws (d.samples.getD k 0))).tmod ((((d.lots.getD ((d.samples.getD k 0).toNat) (0, 0)).2) - ((d.lots.getD ((d.samples.getD k 0).toNat) (0, 0)).1)) + 1))) - d.spread)) ∧ rs_ = []), (fun (vs60 : Nat → Value) (v_ : Value) (rs_ : List Res) => v_ = wv ∧ rs_ = []), (fun (vs60 : Nat → Value) (v_ : Value) (rs_ : List Res) => v_ = (Value.int .i64 (k : Int)) ∧ rs_ = []), (fun (vs60 : Nat → Value) (v_ : Value) (rs_ : List Res) => v_ = (Value.int .i64 (7 * (k : Int))) ∧ rs_ = []), (fun (vs60 : Nat → Value) (v_ : Value) (rs_ : List Res) => v_ = (Value.int .i64 ((7 * (k : Int)) + 3)) ∧ rs_ = []), (fun (vs60 : Nat → Value) (v_ : Value) (rs_ : List Res) => v_ = (Value.int .i64 (wordF ws ((7 * (k : Int)) + 3))) ∧ rs_ = []), (fun (vs60 : Nat → Value) (v_ : Value) (rs_ : List Res) => v_ = (bptr b4 2) ∧ rs_ = []), (fun (vs60 : Nat → Value) (v_ : Value) (rs_ : List Res) => v_ = (Value.int .i64 d.spread) ∧ rs_ = []), (fun (vs60 : Nat → Value) (v_ : Value) (rs_ : List Res) => v_ = (Value.int .i64 (2 * d.spread)) ∧ rs_ = []), (fun (vs60 : Nat → Value) (v_ : Value) (rs_ : List Res) => v_ = (Value.int .i64 ((2 * d.spread) + 1)) ∧ rs_ = []), (fun (vs60 : Nat → Value) (v_ : Value) (rs_ : List Res) => v_ = (Value.int .i64 (((wordF ws ((7 * (k : Int)) + 3))).tmod ((2 * d.spread) + 1))) ∧ rs_ = []), (fun (vs60 : Nat → Value) (v_ : Value) (rs_ : List Res) => v_ = (Value.int .i64 (((((d.lots.getD ((d.samples.getD k 0).toNat) (0, 0)).1) + (((wordF ws (d.samples.getD k 0))).tmod ((((d.lots.getD ((d.samples.getD k 0).toNat) (0, 0)).2) - ((d.lots.getD ((d.samples.getD k 0).toNat) (0, 0)).1)) + 1))) - d.spread) + (((wordF ws ((7 * (k : Int)) + 3))).tmod ((2 * d.spread) + 1)))) ∧ rs_ = []), (fun (vs60 : Nat → Value) (v_ : Value) (rs_ : List Res) => True ∧ rs_ = [(row v_ 3 1 1 [(Value.int .i64 (((((d.lots.getD ((d.samples.getD k 0).toNat) (0, 0)).1) + (((wordF ws (d.samples.getD k 0))).tmod ((((d.lots.getD ((d.samples.getD k 0).toNat) (0, 0)).2) - ((d.lots.getD ((d.samples.getD k 0).toNat) (0, 0)).1)) + 1))) - d.spread) + (((wordF ws ((7 * (k : Int)) + 3))).tmod ((2 * d.spread) + 1))))])])] (by decide +kernel) (by decide +kernel) rfl rfl ⟨(fun _ _ _ _ _ h_ => h_), (fun _ _ _ _ _ h_ => h_), (fun _ _ _ _ _ h_ => h_), (fun _ _ _ _ _ h_ => h_), (fun _ _ _ _ _ h_ => h_), (fun _ _ _ _ _ h_ => h_), (fun _ _ _ _ _ h_ => h_), (fun _ _ _ _ _ h_ => h_), (fun _ _ _ _ _ h_ => h_), (fun _ _ _ _ _ h_ => h_), (fun _ _ _ _ _ h_ => h_), (fun _ _ _ _ _ h_ => h_), (fun _ _ _ _ _ h_ => h_), (fun _ _ _ _ _ h_ => h_), (fun _ _ _ _ _ h_ => h_), (fun _ _ _ _ _ h_ => h_), (fun _ _ _ _ _ h_ => h_), trivial⟩ ?_ ?_
  ·skip
   refine ⟨fun a w vs60 hA hS hd => ?_, ?_⟩
   ·skip
    exact opG_of rfl (vv (op_move rfl (hA.ev rfl)) (And.intro rfl rfl))
   refine ⟨fun a w vs60 hA hS hd => ?_, ?_⟩
   ·skip
    exact opG_of rfl (vv (op_move rfl (hA.ev rfl)) (And.intro rfl rfl))
   refine ⟨fun a w vs60 hA hS hd => ?_, ?_⟩
   ·skip
    exact opG_of rfl (vv (op_field rfl fd_26_2 (hA.ev rfl)) (And.intro rfl rfl))
   refine ⟨fun a w vs60 hA hS hd => ?_, ?_⟩
   ·skip
    obtain ⟨e2, rs2, hy2, hp2⟩ := hd 2 (by decide)
    obtain ⟨hv2, hr2⟩ := hy2; subst hr2
    rw [hv2] at e2
    exact opG_of rfl (vv (op_load1 rfl ty_3 (tmp_ev (slot_ev e2 rfl)) (hS.bk 2 rfl) rfl) (And.intro rfl rfl))
   refine ⟨fun a w vs60 hA hS hd => ?_, ?_⟩
   ·skip
    obtain ⟨e1, rs1, hy1, hp1⟩ := hd 1 (by decide)
    obtain ⟨hv1, hr1⟩ := hy1; subst hr1
    rw [hv1] at e1
    obtain ⟨e3, rs3, hy3, hp3⟩ := hd 3 (by decide)
    obtain ⟨hv3, hr3⟩ := hy3; subst hr3
    rw [hv3] at e3
    exact opG_of rfl (vv (op_sub rfl (tmp_ev (slot_ev e1 rfl)) (tmp_ev (slot_ev e3 rfl)) (by omega) (by omega)) (And.intro rfl rfl))
   refine ⟨fun a w vs60 hA hS hd => ?_, ?_⟩
   ·skip
    exact opG_of rfl (vv (op_move rfl (hA.ev rfl)) (And.intro rfl rfl))
   refine ⟨fun a w vs60 hA hS hd => ?_, ?_⟩
   ·skip
    exact opG_of rfl (vv (op_move rfl (hA.ev rfl)) (And.intro rfl rfl))
   refine ⟨fun a w vs60 hA hS hd => ?_, ?_⟩
   ·skip
    obtain ⟨e6, rs6, hy6, hp6⟩ := hd 6 (by decide)
    obtain ⟨hv6, hr6⟩ := hy6; subst hr6
    rw [hv6] at e6
    exact opG_of rfl (vv (op_mul rfl (evc _ _) (tmp_ev (slot_ev e6 rfl)) (by omega) (by omega)) (And.intro rfl rfl))
   refine ⟨fun a w vs60 hA hS hd => ?_, ?_⟩
   ·skip
    obtain ⟨e7, rs7, hy7, hp7⟩ := hd 7 (by decide)
    obtain ⟨hv7, hr7⟩ := hy7; subst hr7
    rw [hv7] at e7
    exact opG_of rfl (vv (op_add rfl (tmp_ev (slot_ev e7 rfl)) (evc _ _) (by omega) (by omega)) (And.intro rfl rfl))
   refine ⟨fun a w vs60 hA hS hd => ?_, ?_⟩
   ·skip
    obtain ⟨e5, rs5, hy5, hp5⟩ := hd 5 (by decide)
    obtain ⟨hv5, hr5⟩ := hy5; subst hr5
    rw [hv5] at e5
    obtain ⟨e8, rs8, hy8, hp8⟩ := hd 8 (by decide)
    obtain ⟨hv8, hr8⟩ := hy8; subst hr8
    rw [hv8] at e8
    exact opG_of rfl (vx (op_call rfl en_61 (ev2 (tmp_ev (slot_ev e5 rfl)) (tmp_ev (slot_ev e8 rfl))) (word_ok _ ws _ ((7 * (k : Int)) + 3) (hS.sk 3 rfl) hww (by omega))) (And.intro rfl rfl))
   refine ⟨fun a w vs60 hA hS hd => ?_, ?_⟩
   ·skip
    exact opG_of rfl (vv (op_field rfl fd_26_2 (hA.ev rfl)) (And.intro rfl rfl))
   refine ⟨fun a w vs60 hA hS hd => ?_, ?_⟩
   ·skip
    obtain ⟨e10, rs10, hy10, hp10⟩ := hd 10 (by decide)
    obtain ⟨hv10, hr10⟩ := hy10; subst hr10
    rw [hv10] at e10
    exact opG_of rfl (vv (op_load1 rfl ty_3 (tmp_ev (slot_ev e10 rfl)) (hS.bk 2 rfl) rfl) (And.intro rfl rfl))
   refine ⟨fun a w vs60 hA hS hd => ?_, ?_⟩
   ·skip
    obtain ⟨e11, rs11, hy11, hp11⟩ := hd 11 (by decide)
    obtain ⟨hv11, hr11⟩ := hy11; subst hr11
    rw [hv11] at e11
    exact opG_of rfl (vv (op_mul rfl (evc _ _) (tmp_ev (slot_ev e11 rfl)) (by omega) (by omega)) (And.intro rfl rfl))
   refine ⟨fun a w vs60 hA hS hd => ?_, ?_⟩
   ·skip
    obtain ⟨e12, rs12, hy12, hp12⟩ := hd 12 (by decide)
    obtain ⟨hv12, hr12⟩ := hy12; subst hr12
    rw [hv12] at e12
    exact opG_of rfl (vv (op_add rfl (tmp_ev (slot_ev e12 rfl)) (evc _ _) (by omega) (by omega)) (And.intro rfl rfl))
   refine ⟨fun a w vs60 hA hS hd => ?_, ?_⟩
   ·skip
    obtain ⟨e9, rs9, hy9, hp9⟩ := hd 9 (by decide)
    obtain ⟨hv9, hr9⟩ := hy9; subst hr9
    rw [hv9] at e9
    obtain ⟨e13, rs13, hy13, hp13⟩ := hd 13 (by decide)
    obtain ⟨hv13, hr13⟩ := hy13; subst hr13
    rw [hv13] at e13
    exact opG_of rfl (vv (op_rem rfl (tmp_ev (slot_ev e9 rfl)) (tmp_ev (slot_ev e13 rfl)) (by omega)) (And.intro rfl rfl))
   refine ⟨fun a w vs60 hA hS hd => ?_, ?_⟩
   ·skip
    obtain ⟨e4, rs4, hy4, hp4⟩ := hd 4 (by decide)
    obtain ⟨hv4, hr4⟩ := hy4; subst hr4
    rw [hv4] at e4
    obtain ⟨e14, rs14, hy14, hp14⟩ := hd 14 (by decide)
    obtain ⟨hv14, hr14⟩ := hy14; subst hr14
    rw [hv14] at e14
    exact opG_of rfl (vv (op_add rfl (tmp_ev (slot_ev e4 rfl)) (tmp_ev (slot_ev e14 rfl)) (by omega) (by omega)) (And.intro rfl rfl))
   refine ⟨fun a w vs60 hA hS hd => ?_, ?_⟩
   ·skip
    obtain ⟨e15, rs15, hy15, hp15⟩ := hd 15 (by decide)
    obtain ⟨hv15, hr15⟩ := hy15; subst hr15
    rw [hv15] at e15
    exact opG_of rfl (vblt rfl (pv1 (tmp_ev (slot_ev e15 rfl))) un_23 ty_3 ze_3 (by decide) (cs := [(Value.int .i64 (((((d.lots.getD ((d.samples.getD k 0).toNat) (0, 0)).1) + (((wordF ws (d.samples.getD k 0))).tmod ((((d.lots.getD ((d.samples.getD k 0).toNat) (0, 0)).2) - ((d.lots.getD ((d.samples.getD k 0).toNat) (0, 0)).1)) + 1))) - d.spread) + (((wordF ws ((7 * (k : Int)) + 3))).tmod ((2 * d.spread) + 1))))]) (bs_3_1_0i _) rfl (by decide) (fun _ => And.intro trivial rfl))
   trivial
  intro a61 w62 vs60 rsf66 hA63 hH65 hS64; clear hA59 hS52
  obtain ⟨hs_0, hy_0⟩ := hH65 0 (by decide)
  obtain ⟨hv_0, hr_0⟩ := hy_0
  obtain ⟨hs_1, hy_1⟩ := hH65 1 (by decide)
  obtain ⟨hv_1, hr_1⟩ := hy_1
  obtain ⟨hs_2, hy_2⟩ := hH65 2 (by decide)
  obtain ⟨hv_2, hr_2⟩ := hy_2
  obtain ⟨hs_3, hy_3⟩ := hH65 3 (by decide)
  obtain ⟨hv_3, hr_3⟩ := hy_3
  obtain ⟨hs_4, hy_4⟩ := hH65 4 (by decide)
  obtain ⟨hv_4, hr_4⟩ := hy_4
  obtain ⟨hs_5, hy_5⟩ := hH65 5 (by decide)
  obtain ⟨hv_5, hr_5⟩ := hy_5
  obtain ⟨hs_6, hy_6⟩ := hH65 6 (by decide)
  obtain ⟨hv_6, hr_6⟩ := hy_6
  obtain ⟨hs_7, hy_7⟩ := hH65 7 (by decide)
  obtain ⟨hv_7, hr_7⟩ := hy_7
  obtain ⟨hs_8, hy_8⟩ := hH65 8 (by decide)
  obtain ⟨hv_8, hr_8⟩ := hy_8
  obtain ⟨hs_9, hy_9⟩ := hH65 9 (by decide)
  obtain ⟨hv_9, hr_9⟩ := hy_9
  obtain ⟨hs_10, hy_10⟩ := hH65 10 (by decide)
  obtain ⟨hv_10, hr_10⟩ := hy_10
  obtain ⟨hs_11, hy_11⟩ := hH65 11 (by decide)
  obtain ⟨hv_11, hr_11⟩ := hy_11
  obtain ⟨hs_12, hy_12⟩ := hH65 12 (by decide)
  obtain ⟨hv_12, hr_12⟩ := hy_12
  obtain ⟨hs_13, hy_13⟩ := hH65 13 (by decide)
  obtain ⟨hv_13, hr_13⟩ := hy_13
  obtain ⟨hs_14, hy_14⟩ := hH65 14 (by decide)
  obtain ⟨hv_14, hr_14⟩ := hy_14
  obtain ⟨hs_15, hy_15⟩ := hH65 15 (by decide)
  obtain ⟨hv_15, hr_15⟩ := hy_15
  obtain ⟨hs_16, hy_16⟩ := hH65 16 (by decide)
  obtain ⟨hv_16, hr_16⟩ := hy_16
  have hS67 : Sep NoB w w62 [(row (vs60 16) 3 1 1 [(Value.int .i64 (((((d.lots.getD ((d.samples.getD k 0).toNat) (0, 0)).1) + (((wordF ws (d.samples.getD k 0))).tmod ((((d.lots.getD ((d.samples.getD k 0).toNat) (0, 0)).2) - ((d.lots.getD ((d.samples.getD k 0).toNat) (0, 0)).1)) + 1))) - d.spread) + (((wordF ws ((7 * (k : Int)) + 3))).tmod ((2 * d.spread) + 1))))]), (blk b9_ 44 [(Value.int .i64 ((d.lots.getD ((d.samples.getD k 0).toNat) (0, 0)).1)), (Value.int .i64 ((d.lots.getD ((d.samples.getD k 0).toNat) (0, 0)).2))]), (row v5_ 3 1 ((trueF d ws k).length) (ints (trueF d ws k))), (blk b4 26 [rl, rs, (Value.int .i64 d.spread), rb]), (sl wv 1 ws.length (ws.map (Value.int .u16))), (rndR false rl rs rb rlv d)] := by rw [show catR rsf66 0 17 = ([(row (vs60 16) 3 1 1 [(Value.int .i64 (((((d.lots.getD ((d.samples.getD k 0).toNat) (0, 0)).1) + (((wordF ws (d.samples.getD k 0))).tmod ((((d.lots.getD ((d.samples.getD k 0).toNat) (0, 0)).2) - ((d.lots.getD ((d.samples.getD k 0).toNat) (0, 0)).1)) + 1))) - d.spread) + (((wordF ws ((7 * (k : Int)) + 3))).tmod ((2 * d.spread) + 1))))])] : List Res) by (try simp only [catR, hr_0, hr_1, hr_2, hr_3, hr_4, hr_5, hr_6, hr_7, hr_8, hr_9, hr_10, hr_11, hr_12, hr_13, hr_14, hr_15, hr_16]); (try rfl)] at hS64; exact hS64
  rw [hv_0] at hs_0
  have hA68 : Fr 61 [] [(42, v5_), (8, (Value.int .i64 (((d.lots.getD ((d.samples.getD k 0).toNat) (0, 0)).1) + (((wordF ws (d.samples.getD k 0))).tmod ((((d.lots.getD ((d.samples.getD k 0).toNat) (0, 0)).2) - ((d.lots.getD ((d.samples.getD k 0).toNat) (0, 0)).1)) + 1))))), (6, (Value.int .i64 (k : Int))), (5, v5_), (2, (bptr b4 0)), (1, wv)] a61 := hA63.add (slot_ev hs_0 rfl); clear hA63
  have hA69 : Fr 61 [] [(58, (vs60 16)), (42, v5_), (8, (Value.int .i64 (((d.lots.getD ((d.samples.getD k 0).toNat) (0, 0)).1) + (((wordF ws (d.samples.getD k 0))).tmod ((((d.lots.getD ((d.samples.getD k 0).toNat) (0, 0)).2) - ((d.lots.getD ((d.samples.getD k 0).toNat) (0, 0)).1)) + 1))))), (6, (Value.int .i64 (k : Int))), (5, v5_), (2, (bptr b4 0)), (1, wv)] a61 := hA68.add (slot_ev hs_16 rfl); clear hA68
  clear hH65 hS64 hs_0 hs_1 hs_2 hs_3 hs_4 hs_5 hs_6 hs_7 hs_8 hs_9 hs_10 hs_11 hs_12 hs_13 hs_14 hs_15 hs_16
  clear hr_0
  clear hv_0
  clear hr_1
  clear hv_1
  clear hr_2
  clear hv_2
  clear hr_3
  clear hv_3
  clear hr_4
  clear hv_4
  clear hr_5
  clear hv_5
  clear hr_6
  clear hv_6
  clear hr_7
  clear hv_7
  clear hr_8
  clear hv_8
  clear hr_9
  clear hv_9
  clear hr_10
  clear hv_10
  clear hr_11
  clear hv_11
  clear hr_12
  clear hv_12
  clear hr_13
  clear hv_13
  clear hr_14
  clear hv_14
  clear hr_15
  clear hv_15
  clear hr_16
  clear hv_16
  refine stw hA69 (op_append hS67 rfl un_23 el_3 (hA69.ev rfl) (hA69.ev rfl) (i := 2) rfl (SlAt.of_row (hS67.ok_row 0 rfl)) rfl (by simp only [maxLen]; omega) (by omega)) rfl rfl (by decide) ?_
  intro a70 v73 w72 hS74 hA71
  have hS75 := hS74.row_say (i := 2) rfl (n' := ((trueF d ws k) ++ [((((d.lots.getD ((d.samples.getD k 0).toNat) (0, 0)).1) + (((wordF ws (d.samples.getD k 0))).tmod ((((d.lots.getD ((d.samples.getD k 0).toNat) (0, 0)).2) - ((d.lots.getD ((d.samples.getD k 0).toNat) (0, 0)).1)) + 1))) - d.spread) + (((wordF ws ((7 * (k : Int)) + 3))).tmod ((2 * d.spread) + 1))]).length) (xs' := (ints ((trueF d ws k) ++ [((((d.lots.getD ((d.samples.getD k 0).toNat) (0, 0)).1) + (((wordF ws (d.samples.getD k 0))).tmod ((((d.lots.getD ((d.samples.getD k 0).toNat) (0, 0)).2) - ((d.lots.getD ((d.samples.getD k 0).toNat) (0, 0)).1)) + 1))) - d.spread) + (((wordF ws ((7 * (k : Int)) + 3))).tmod ((2 * d.spread) + 1))]))) (by simp) (by simp [ints]); clear hS74 hA69 hS67 a61
  refine st hA71 (op_assign rfl (hA71.ev rfl)) rfl rfl (by decide) fun a76 hA77 => ?_; clear hA71 a70
  refine wl_nil ?_
  refine blk_n ?_
  refine then_n ?_
  refine c_region ?_
  refine st hA77 (op_move rfl (hA77.ev rfl)) rfl rfl (by decide) fun a78 hA79 => ?_; clear hA77 a76
  refine st hA79 (op_add rfl (hA79.ev rfl) (evc _ _) (by omega) (by omega)) rfl rfl (by decide) fun a80 hA81 => ?_; clear hA79 a78
  refine st hA81 (op_assign rfl (hA81.ev rfl)) rfl rfl (by decide) fun a82 hA83 => ?_; clear hA81 a80
  refine wl_nil ?_
  have hS84 : Sep NoB w w72 [(row v73 3 1 (((trueF d ws k) ++ [((((d.lots.getD ((d.samples.getD k 0).toNat) (0, 0)).1) + (((wordF ws (d.samples.getD k 0))).tmod ((((d.lots.getD ((d.samples.getD k 0).toNat) (0, 0)).2) - ((d.lots.getD ((d.samples.getD k 0).toNat) (0, 0)).1)) + 1))) - d.spread) + (((wordF ws ((7 * (k : Int)) + 3))).tmod ((2 * d.spread) + 1))]).length) (ints ((trueF d ws k) ++ [((((d.lots.getD ((d.samples.getD k 0).toNat) (0, 0)).1) + (((wordF ws (d.samples.getD k 0))).tmod ((((d.lots.getD ((d.samples.getD k 0).toNat) (0, 0)).2) - ((d.lots.getD ((d.samples.getD k 0).toNat) (0, 0)).1)) + 1))) - d.spread) + (((wordF ws ((7 * (k : Int)) + 3))).tmod ((2 * d.spread) + 1))]))), (blk b4 26 [rl, rs, (Value.int .i64 d.spread), rb]), (sl wv 1 ws.length (ws.map (Value.int .u16))), (rndR false rl rs rb rlv d)] := hS75.keep [2, 3, 4, 5] (by decide) _ rfl rfl; clear hS75
  exact then_n ⟨k + 1, ⟨v73, hA83.as _ rfl, (hS84.row_say (i := 0) rfl (by rw [trueF_succ]; rfl) (by rw [trueF_succ]; rfl)), by omega⟩, by omega⟩
 ·skip
  rw [decide_eq_false hb28] at hA27
  refine c_false hA27 rfl ?_
  refine c_exit ?_
  refine then_exit ?_
  refine then_exit ?_
  refine blk_hit ?_
  refine then_n ?_
  refine c_seq ?_
  have hA85 := hA27.as [(5, v5_)] rfl; clear hA27
  refine c_region ?_
  refine st hA85 (op_move rfl (hA85.ev rfl)) rfl rfl (by decide) fun a86 hA87 => ?_; clear hA85 a26
  refine st hA87 (op_assign rfl (hA87.ev rfl)) rfl rfl (by decide) fun a88 hA89 => ?_; clear hA87 a86
  refine wl_nil ?_
  refine then_n ?_
  refine c_ret ?_
  refine fin_run hA89 (.inl rfl) (run_results1 hA89 rfl (.tmp rfl)) ?_
  obtain rfl : k = d.samples.length := by omega
  exact ⟨hS17.ext, hS17.row_new (i := 0) rfl⟩

end Go.Proofs.Ytfhmigoddaaljaa

namespace Go.Proofs.Ytfhmigoddaaljaa
open Go.RowKit Go.Shelf Go.Eng
theorem Read_ok (rl rs rb : Value) (rlv : List Value) (d : RD) (w : World) (hR : RoundAt w rl rs rb rlv d) (wv : Value) (ws : List Int) (hws : SlAt w wv 1 ws.length (ws.map (Value.int .u16))) (hww : ∀ x ∈ ws, 0 ≤ x ∧ x ≤ 65535) (x : Nat) (shift : Int) (hV : Valid d) (hsh : -40000 ≤ shift ∧ shift ≤ 40000) :
  Calls Try.prog 37 #[(Value.agg #[rl, rs, (Value.int .i64 d.spread), rb]), wv, (Value.int .u8 (x : Int)), (Value.int .i64 shift)] w (Ret fun v w' => ∃ vb lv, v = .agg #[rl, rs, .int .i64 d.spread, vb] ∧ Sep NoB w w' [row vb 62 2 d.tols.length (vpairs (d.tols.zip lv)), lstR lv (madeD d ws (trueF d ws d.samples.length) x shift).rds]) := by
 refine calls_enter Try.func37 rfl fun a0 hA0 => ?_
 replace hA0 : Fr 97 [] [(0, (Value.agg #[rl, rs, (Value.int .i64 d.spread), rb])), (1, wv), (2, (Value.int .u8 (x : Int))), (3, (Value.int .i64 shift))] a0 := hA0
 have hns := hV.ns; have hnb := hV.nb; have hvl := trueF_len d ws d.samples.length
 have hS0 : Sep NoB w w [(sl wv 1 ws.length (ws.map (Value.int .u16))), (rndR false rl rs rb rlv d)] := sep_ro ⟨rfl, hws, rfl, hR, trivial⟩
 refine c_seq ?_
 refine c_region ?_
 refine stw hA0 (op_box hS0 rfl (hA0.ev rfl) (cs := [rl, rs, (Value.int .i64 d.spread), rb]) rfl) rfl rfl (by decide) ?_
 rintro a1 _ w3 ⟨b4, rfl, hS5⟩ hA2; clear hA0 hS0 a0
 refine stw hA2 (op_alloc hS5 rfl ze_26 (cs := [(Value.slice none 0 0), (Value.slice none 0 0), (Value.int .i64 0), (Value.slice none 0 0)]) rfl) rfl rfl (by decide) ?_
 rintro a6 _ w8 ⟨b9, rfl, hS10⟩ hA7; clear hA2 hS5 a1
 refine wl_nil ?_
 refine then_n ?_
 refine c_seq ?_
 refine c_region ?_
 refine st hA7 (op_loadA rfl ty_26 (hA7.ev rfl) (hS10.bk 1 rfl) (l := [rl, rs, (Value.int .i64 d.spread), rb]) rfl rfl) rfl rfl (by decide) fun a11 hA12 => ?_; clear hA7 a6
 refine st hA12 (op_move rfl (hA12.ev rfl)) rfl rfl (by decide) fun a13 hA14 => ?_; clear hA12 a11
 refine stw hA14 (op_call rfl en_41 (ev2 (hA14.ev rfl) (hA14.ev rfl)) (True_ok rl rs rb rlv d _ (rnd_at (hS10.ok 3 _ rfl)) _ ws (hS10.sk 2 rfl) hww hV)) rfl rfl (by decide) ?_
 rintro a15 v21 w17 ⟨hE18, hO19⟩ hA16; have hS20 := hS10.new_row hE18 hO19; clear hE18 hO19 hA14 hS10 a13
 refine st hA16 (op_assign rfl (hA16.ev rfl)) rfl rfl (by decide) fun a22 hA23 => ?_; clear hA16 a15
 refine wl_nil ?_
 refine then_n ?_
 refine c_seq ?_
 refine c_region ?_
 refine st hA23 (op_loadA rfl ty_26 (hA23.ev rfl) (hS20.bk 2 rfl) (l := [rl, rs, (Value.int .i64 d.spread), rb]) rfl rfl) rfl rfl (by decide) fun a24 hA25 => ?_; clear hA23 a22
 refine stw hA25 (op_alloc hS20 rfl ze_26 (cs := [(Value.slice none 0 0), (Value.slice none 0 0), (Value.int .i64 0), (Value.slice none 0 0)]) rfl) rfl rfl (by decide) ?_
 rintro a26 _ w28 ⟨b29, rfl, hS30⟩ hA27; clear hA25 hS20 a24
 refine sts hA27 (op_store hS30 rfl ty_26 (hA27.ev rfl) (hA27.ev rfl) (i := 0) rfl (vs := [rl, rs, (Value.int .i64 d.spread), rb]) rfl rfl (all_c (SlAt.one (rnd_at (hS30.ok 5 _ rfl)).lots) (all_c (SlAt.one (rnd_at (hS30.ok 5 _ rfl)).samples) (all_c rfl (all_c (SlAt.one (rnd_at (hS30.ok 5 _ rfl)).labs) all_n)))) (Nat.le_of_ble_eq_true rfl)) rfl rfl ?_
 intro _ w31 hS32 hA33; clear hA27
 have hS34 : Sep NoB w w31 [(blk b29 26 [rl, rs, (Value.int .i64 d.spread), rb]), (row v21 3 1 ((trueF d ws d.samples.length).length) (ints (trueF d ws d.samples.length))), (blk b9 26 [(Value.slice none 0 0), (Value.slice none 0 0), (Value.int .i64 0), (Value.slice none 0 0)]), (blk b4 26 [rl, rs, (Value.int .i64 d.spread), rb]), (sl wv 1 ws.length (ws.map (Value.int .u16))), (rndR false rl rs rb rlv d)] := hS32; clear hS32 hS30
 refine wl_nil ?_
 refine then_n ?_
 refine c_seq ?_
 refine c_region ?_
 refine st hA33 (op_field rfl fd_26_3 (hA33.ev rfl)) rfl rfl (by decide) fun a35 hA36 => ?_; clear hA33 a26
 refine sts hA36 (op_store hS34 rfl ty_24 (hA36.ev rfl) (evc _ _) (i := 0) rfl (vs := [(Value.slice none 0 0)]) rfl rfl (all_c rfl all_n) (Nat.le_of_ble_eq_true rfl)) rfl rfl ?_
 intro _ w37 hS38 hA39; clear hA36
 have hS40 : Sep NoB w w37 [(blk b29 26 [rl, rs, (Value.int .i64 d.spread), (Value.slice none 0 0)]), (row v21 3 1 ((trueF d ws d.samples.length).length) (ints (trueF d ws d.samples.length))), (blk b9 26 [(Value.slice none 0 0), (Value.slice none 0 0), (Value.int .i64 0), (Value.slice none 0 0)]), (blk b4 26 [rl, rs, (Value.int .i64 d.spread), rb]), (sl wv 1 ws.length (ws.map (Value.int .u16))), (rndR false rl rs rb rlv d)] := hS38; clear hS38 hS34
 refine wl_nil ?_
 refine then_n ?_
 refine c_seq ?_
 refine c_seq ?_
 have hA41 := hA39.as [(10, (bptr b29 0)), (9, v21), (8, (bptr b9 0)), (4, (bptr b4 0)), (1, wv), (2, (Value.int .u8 (x : Int))), (3, (Value.int .i64 shift))] rfl; clear hA39
 refine c_region ?_
 refine st hA41 (op_assign rfl (evc _ _)) rfl rfl (by decide) fun a42 hA43 => ?_; clear hA41 a35
 refine wl_nil ?_
 refine then_n ?_
 refine c_block ?_
 have hS44 := (hS40.nil_row 62 2).lst_nil; clear hS40
 have hA45 := hA43.as [(11, (Value.int .i64 0)), (10, (bptr b29 0)), (9, v21), (8, (bptr b9 0)), (4, (bptr b4 0)), (1, wv), (2, (Value.int .u8 (x : Int))), (3, (Value.int .i64 shift))] rfl; clear hA43
 refine c_loop (G := Nat) (fun (k2 : Nat) a_ w_ => ∃ vb_ : Value, ∃ lv_ : List Value, Fr 97 [] [(11, (Value.int .i64 (k2 : Int))), (10, (bptr b29 0)), (9, v21), (8, (bptr b9 0)), (4, (bptr b4 0)), (1, wv), (2, (Value.int .u8 (x : Int))), (3, (Value.int .i64 shift))] a_ ∧ Sep NoB w w_ [(lstR lv_ ((List.range k2).map fun q => madeRow d ws (trueF d ws d.samples.length) x shift q d.samples.length)), (row vb_ 62 2 ((d.tols.take k2).length) (vpairs ((d.tols.take k2).zip lv_))), (blk b29 26 [rl, rs, (Value.int .i64 d.spread), vb_]), (row v21 3 1 ((trueF d ws d.samples.length).length) (ints (trueF d ws d.samples.length))), (blk b9 26 [(Value.slice none 0 0), (Value.slice none 0 0), (Value.int .i64 0), (Value.slice none 0 0)]), (blk b4 26 [rl, rs, (Value.int .i64 d.spread), rb]), (sl wv 1 ws.length (ws.map (Value.int .u16))), (rndR false rl rs rb rlv d)] ∧ (k2 ≤ d.tols.length)) (fun k2 => d.tols.length - k2) 0 ⟨(Value.slice none 0 0), [], hA45.as _ rfl, hS44, by omega⟩ ?_
 clear hA45 hS44 a42
 rintro k2 a46 w48 ⟨vb_, lv_, hA47, hS49, hkk2⟩
 have hol := hS49.lst_len 0 rfl; have htk : (d.tols.take k2).length = k2 := by simp; omega
 have hrk : (((List.range k2).map fun q => madeRow d ws (trueF d ws d.samples.length) x shift q d.samples.length)).length = k2 := by simp
 refine c_seq ?_
 refine c_seq ?_
 refine c_region ?_
 refine st hA47 (op_move rfl (hA47.ev rfl)) rfl rfl (by decide) fun a50 hA51 => ?_; clear hA47 a46
 refine st hA51 (op_field rfl fd_26_3 (hA51.ev rfl)) rfl rfl (by decide) fun a52 hA53 => ?_; clear hA51 a50
 refine st hA53 (op_load1 rfl ty_24 (hA53.ev rfl) (hS49.bk 5 rfl) rfl) rfl rfl (by decide) fun a54 hA55 => ?_; clear hA53 a52
 refine st hA55 (op_lenS rfl un_24 (hA55.ev rfl) (rnd_at (hS49.ok 7 _ rfl)).labs) rfl rfl (by decide) fun a56 hA57 => ?_; clear hA55 a54
 refine st hA57 (op_lss rfl (hA57.ev rfl) (hA57.ev rfl)) rfl rfl (by decide) fun a58 hA59 => ?_; clear hA57 a56
 refine wl_nil ?_
 refine then_n ?_
 by_cases hb60 : (k2 : Int) < (d.tols.length : Int)
 ·skip
  rw [decide_eq_true hb60] at hA59
  have htl := hV.tols k2 (by omega); have hrl0 := hV.rdl k2 (by omega)
  refine c_true hA59 rfl ?_
  refine c_skip ?_
  refine then_n ?_
  refine c_seq ?_
  refine c_block ?_
  refine c_seq ?_
  refine c_region ?_
  refine st hA59 (op_field rfl fd_26_3 (hA59.ev rfl)) rfl rfl (by decide) fun a61 hA62 => ?_; clear hA59 a58
  refine st hA62 (op_load1 rfl ty_24 (hA62.ev rfl) (hS49.bk 5 rfl) rfl) rfl rfl (by decide) fun a63 hA64 => ?_; clear hA62 a61
  refine st hA64 (op_move rfl (hA64.ev rfl)) rfl rfl (by decide) fun a65 hA66 => ?_; clear hA64 a63
  refine st hA66 (op_indexS rfl un_24 ty_62 (hA66.ev rfl) (i := k2) (hA66.ev rfl) (rnd_at (hS49.ok 7 _ rfl)).labs (by decide) (by omega)) rfl rfl (by decide) fun a67 hA68 => ?_; clear hA66 a65
  refine st hA68 (op_fieldS rfl fd_62_0 (hA68.ev rfl) (rnd_at (hS49.ok 7 _ rfl)).labs (by rw [((rnd_at (hS49.ok 7 _ rfl)).labs).1]; omega)) rfl rfl (by decide) fun a69 hA70 => ?_; clear hA68 a67
  refine st hA70 (op_load1E rfl ty_3 (hA70.ev rfl) (rnd_at (hS49.ok 7 _ rfl)).labs (labs_at0 (rnd_at (hS49.ok 7 _ rfl)).lvl (by omega))) rfl rfl (by decide) fun a71 hA72 => ?_; clear hA70 a69
  refine st hA72 (op_build rfl (pv1 (hA72.ev rfl)) (bd_62_0i _)) rfl rfl (by decide) fun a73 hA74 => ?_; clear hA72 a71
  refine stw hA74 (op_alloc hS49 rfl ze_62 (cs := [(Value.int .i64 0), (Value.slice none 0 0)]) rfl) rfl rfl (by decide) ?_
  rintro a75 _ w77 ⟨b78, rfl, hS79⟩ hA76; clear hA74 hS49 a73
  refine sts hA76 (op_store hS79 rfl ty_62 (hA76.ev rfl) (hA76.ev rfl) (i := 0) rfl (vs := [(Value.int .i64 (d.tols.getD k2 0)), (Value.slice none 0 0)]) rfl rfl (all_c rfl (all_c rfl all_n)) (Nat.le_of_ble_eq_true rfl)) rfl rfl ?_
  intro _ w80 hS81 hA82; clear hA76
  have hS83 : Sep NoB w w80 [(blk b78 62 [(Value.int .i64 (d.tols.getD k2 0)), (Value.slice none 0 0)]), (lstR lv_ ((List.range k2).map fun q => madeRow d ws (trueF d ws d.samples.length) x shift q d.samples.length)), (row vb_ 62 2 ((d.tols.take k2).length) (vpairs ((d.tols.take k2).zip lv_))), (blk b29 26 [rl, rs, (Value.int .i64 d.spread), vb_]), (row v21 3 1 ((trueF d ws d.samples.length).length) (ints (trueF d ws d.samples.length))), (blk b9 26 [(Value.slice none 0 0), (Value.slice none 0 0), (Value.int .i64 0), (Value.slice none 0 0)]), (blk b4 26 [rl, rs, (Value.int .i64 d.spread), rb]), (sl wv 1 ws.length (ws.map (Value.int .u16))), (rndR false rl rs rb rlv d)] := hS81; clear hS81 hS79
  refine wl_nil ?_
  refine then_n ?_
  refine c_seq ?_
  refine c_seq ?_
  have hA84 := hA82.as [(12, (bptr b78 0)), (11, (Value.int .i64 (k2 : Int))), (10, (bptr b29 0)), (9, v21), (8, (bptr b9 0)), (4, (bptr b4 0)), (1, wv), (2, (Value.int .u8 (x : Int))), (3, (Value.int .i64 shift))] rfl; clear hA82
  refine c_region ?_
  refine st hA84 (op_assign rfl (evc _ _)) rfl rfl (by decide) fun a85 hA86 => ?_; clear hA84 a75
  refine wl_nil ?_
  refine then_n ?_
  refine c_block ?_
  have hS87 := hS83.nil_row 3 1; clear hS83
  have hA88 := hA86.as [(13, (Value.int .i64 0)), (12, (bptr b78 0)), (11, (Value.int .i64 (k2 : Int))), (10, (bptr b29 0)), (9, v21), (8, (bptr b9 0)), (4, (bptr b4 0)), (1, wv), (2, (Value.int .u8 (x : Int))), (3, (Value.int .i64 shift))] rfl; clear hA86
  refine c_loop (G := Nat) (fun (i2 : Nat) a_ w_ => ∃ vr_ : Value, Fr 97 [] [(13, (Value.int .i64 (i2 : Int))), (12, (bptr b78 0)), (11, (Value.int .i64 (k2 : Int))), (10, (bptr b29 0)), (9, v21), (8, (bptr b9 0)), (4, (bptr b4 0)), (1, wv), (2, (Value.int .u8 (x : Int))), (3, (Value.int .i64 shift))] a_ ∧ Sep NoB w w_ [(row vr_ 3 1 ((madeRow d ws (trueF d ws d.samples.length) x shift k2 i2).length) (ints (madeRow d ws (trueF d ws d.samples.length) x shift k2 i2))), (blk b78 62 [(Value.int .i64 (d.tols.getD k2 0)), vr_]), (lstR lv_ ((List.range k2).map fun q => madeRow d ws (trueF d ws d.samples.length) x shift q d.samples.length)), (row vb_ 62 2 ((d.tols.take k2).length) (vpairs ((d.tols.take k2).zip lv_))), (blk b29 26 [rl, rs, (Value.int .i64 d.spread), vb_]), (row v21 3 1 ((trueF d ws d.samples.length).length) (ints (trueF d ws d.samples.length))), (blk b9 26 [(Value.slice none 0 0), (Value.slice none 0 0), (Value.int .i64 0), (Value.slice none 0 0)]), (blk b4 26 [rl, rs, (Value.int .i64 d.spread), rb]), (sl wv 1 ws.length (ws.map (Value.int .u16))), (rndR false rl rs rb rlv d)] ∧ (i2 ≤ d.samples.length)) (fun i2 => d.samples.length - i2) 0 ⟨(Value.slice none 0 0), hA88.as _ rfl, hS87, by omega⟩ ?_
  clear hA88 hS87 a85
  rintro i2 a89 w91 ⟨vr_, hA90, hS92, hki2⟩
  have hrl := madeRow_len d ws (trueF d ws d.samples.length) x shift k2 i2
  refine c_seq ?_
  refine c_seq ?_
  refine c_region ?_
  refine st hA90 (op_move rfl (hA90.ev rfl)) rfl rfl (by decide) fun a93 hA94 => ?_; clear hA90 a89
  refine st hA94 (op_field rfl fd_26_1 (hA94.ev rfl)) rfl rfl (by decide) fun a95 hA96 => ?_; clear hA94 a93
  refine st hA96 (op_load1 rfl ty_23 (hA96.ev rfl) (hS92.bk 7 rfl) rfl) rfl rfl (by decide) fun a97 hA98 => ?_; clear hA96 a95
  refine st hA98 (op_lenS rfl un_23 (hA98.ev rfl) (rnd_at (hS92.ok 9 _ rfl)).samples) rfl rfl (by decide) fun a99 hA100 => ?_; clear hA98 a97
  refine st hA100 (op_lss rfl (hA100.ev rfl) (hA100.ev rfl)) rfl rfl (by decide) fun a101 hA102 => ?_; clear hA100 a99
  refine wl_nil ?_
  refine then_n ?_
  by_cases hb103 : (i2 : Int) < (d.samples.length : Int)
  ·skip
   rw [decide_eq_true hb103] at hA102
   have hrd := hV.rds k2 (by omega) i2 (by omega); have htb := trueAt_bd hV hww (i := i2) (by omega); rw [← trueF_at (n := d.samples.length) (by omega)] at htb; have hwa := wordF_bd hww (5 * (k2 : Int) + (i2 : Int)); have hma := tmod_nn hwa.1 (show 0 < 2 * d.tols.getD k2 0 + 1 by omega)
   refine c_true hA102 rfl ?_
   refine c_skip ?_
   refine then_n ?_
   refine c_seq ?_
   refine c_block ?_
   refine c_seq ?_
   have hA104 := hA102.as [(13, (Value.int .i64 (i2 : Int))), (12, (bptr b78 0)), (11, (Value.int .i64 (k2 : Int))), (10, (bptr b29 0)), (9, v21), (8, (bptr b9 0)), (4, (bptr b4 0)), (1, wv), (2, (Value.int .u8 (x : Int))), (3, (Value.int .i64 shift))] rfl; clear hA102
   refine c_drawV mixed hA104 hS92 18 [[], [], [0, 1], [2], [], [4], [3, 5], [], [], [8], [], [9, 10], [7, 11], [], [13], [14], [15], [12, 16]] [(fun (vs105 : Nat → Value) (v_ : Value) (rs_ : List Res) => v_ = v21 ∧ rs_ = []), (fun (vs105 : Nat → Value) (v_ : Value) (rs_ : List Res) => v_ = (Value.int .i64 (i2 : Int)) ∧ rs_ = []), (fun (vs105 : Nat → Value) (v_ : Value) (rs_ : List Res) => v_ = (eptr v21 (i2 * 1)) ∧ rs_ = []), (fun (vs105 : Nat → Value) (v_ : Value) (rs_ : List Res) => v_ = (Value.int .i64 ((trueF d ws d.samples.length).getD i2 0)) ∧ rs_ = []), (fun (vs105 : Nat → Value) (v_ : Value) (rs_ : List Res) => v_ = (bptr b78 0) ∧ rs_ = []), (fun (vs105 : Nat → Value) (v_ : Value) (rs_ : List Res) => v_ = (Value.int .i64 (d.tols.getD k2 0)) ∧ rs_ = []), (fun (vs105 : Nat → Value) (v_ : Value) (rs_ : List Res) => v_ = (Value.int .i64 (((trueF d ws d.samples.length).getD i2 0) - (d.tols.getD k2 0))) ∧ rs_ = []), (fun (vs105 : Nat → Value) (v_ : Value) (rs_ : List Res) => v_ = wv ∧ rs_ = []), (fun (vs105 : Nat → Value) (v_ : Value) (rs_ : List Res) => v_ = (Value.int .i64 (k2 : Int)) ∧ rs_ = []), (fun (vs105 : Nat → Value) (v_ : Value) (rs_ : List Res) => v_ = (Value.int .i64 (5 * (k2 : Int))) ∧ rs_ = []), (fun (vs105 : Nat → Value) (v_ : Value) (rs_ : List Res) => v_ = (Value.int .i64 (i2 : Int)) ∧ rs_ = []), (fun (vs105 : Nat → Value) (v_ : Value) (rs_ : List Res) => v_ = (Value.int .i64 ((5 * (k2 : Int)) + (i2 : Int))) ∧ rs_ = []), (fun (vs105 : Nat → Value) (v_ : Value) (rs_ : List Res) => v_ = (Value.int .i64 (wordF ws ((5 * (k2 : Int)) + (i2 : Int)))) ∧ rs_ = []), (fun (vs105 : Nat → Value) (v_ : Value) (rs_ : List Res) => v_ = (bptr b78 0) ∧ rs_ = []), (fun (vs105 : Nat → Value) (v_ : Value) (rs_ : List Res) => v_ = (Value.int .i64 (d.tols.getD k2 0)) ∧ rs_ = []), (fun (vs105 : Nat → Value) (v_ : Value) (rs_ : List Res) => v_ = (Value.int .i64 (2 * (d.tols.getD k2 0))) ∧ rs_ = []), (fun (vs105 : Nat → Value) (v_ : Value) (rs_ : List Res) => v_ = (Value.int .i64 ((2 * (d.tols.getD k2 0)) + 1)) ∧ rs_ = []), (fun (vs105 : Nat → Value) (v_ : Value) (rs_ : List Res) => v_ = (Value.int .i64 (((wordF ws ((5 * (k2 : Int)) + (i2 : Int)))).tmod ((2 * (d.tols.getD k2 0)) + 1))) ∧ rs_ = [])] (by decide +kernel) (by decide +kernel) rfl rfl ⟨(fun _ _ _ _ _ h_ => h_), (fun _ _ _ _ _ h_ => h_), (fun _ _ _ _ _ h_ => h_), (fun _ _ _ _ _ h_ => h_), (fun _ _ _ _ _ h_ => h_), (fun _ _ _ _ _ h_ => h_), (fun _ _ _ _ _ h_ => h_), (fun _ _ _ _ _ h_ => h_), (fun _ _ _ _ _ h_ => h_), (fun _ _ _ _ _ h_ => h_), (fun _ _ _ _ _ h_ => h_), (fun _ _ _ _ _ h_ => h_), (fun _ _ _ _ _ h_ => h_), (fun _ _ _ _ _ h_ => h_), (fun _ _ _ _ _ h_ => h_), (fun _ _ _ _ _ h_ => h_), (fun _ _ _ _ _ h_ => h_), (fun _ _ _ _ _ h_ => h_), trivial⟩ ?_ ?_
   ·skip
    refine ⟨fun a w vs105 hA hS hd => ?_, ?_⟩
    ·skip
     exact opG_of rfl (vv (op_move rfl (hA.ev rfl)) (And.intro rfl rfl))
    refine ⟨fun a w vs105 hA hS hd => ?_, ?_⟩
    ·skip
     exact opG_of rfl (vv (op_move rfl (hA.ev rfl)) (And.intro rfl rfl))
    refine ⟨fun a w vs105 hA hS hd => ?_, ?_⟩
    ·skip
     obtain ⟨e0, rs0, hy0, hp0⟩ := hd 0 (by decide)
     obtain ⟨hv0, hr0⟩ := hy0; subst hr0
     rw [hv0] at e0
     obtain ⟨e1, rs1, hy1, hp1⟩ := hd 1 (by decide)
     obtain ⟨hv1, hr1⟩ := hy1; subst hr1
     rw [hv1] at e1
     exact opG_of rfl (vv (op_indexS rfl un_23 ty_3 (tmp_ev (slot_ev e0 rfl)) (i := i2) (tmp_ev (slot_ev e1 rfl)) (SlAt.of_row (hS.ok_row 5 rfl)) (by decide) (by omega)) (And.intro rfl rfl))
    refine ⟨fun a w vs105 hA hS hd => ?_, ?_⟩
    ·skip
     obtain ⟨e2, rs2, hy2, hp2⟩ := hd 2 (by decide)
     obtain ⟨hv2, hr2⟩ := hy2; subst hr2
     rw [hv2] at e2
     exact opG_of rfl (vv (op_load1E rfl ty_3 (tmp_ev (slot_ev e2 rfl)) (SlAt.of_row (hS.ok_row 5 rfl)) (ints_at (by omega))) (And.intro rfl rfl))
    refine ⟨fun a w vs105 hA hS hd => ?_, ?_⟩
    ·skip
     exact opG_of rfl (vv (op_field rfl fd_62_0 (hA.ev rfl)) (And.intro rfl rfl))
    refine ⟨fun a w vs105 hA hS hd => ?_, ?_⟩
    ·skip
     obtain ⟨e4, rs4, hy4, hp4⟩ := hd 4 (by decide)
     obtain ⟨hv4, hr4⟩ := hy4; subst hr4
     rw [hv4] at e4
     exact opG_of rfl (vv (op_load1 rfl ty_3 (tmp_ev (slot_ev e4 rfl)) (hS.bk 1 rfl) rfl) (And.intro rfl rfl))
    refine ⟨fun a w vs105 hA hS hd => ?_, ?_⟩
    ·skip
     obtain ⟨e3, rs3, hy3, hp3⟩ := hd 3 (by decide)
     obtain ⟨hv3, hr3⟩ := hy3; subst hr3
     rw [hv3] at e3
     obtain ⟨e5, rs5, hy5, hp5⟩ := hd 5 (by decide)
     obtain ⟨hv5, hr5⟩ := hy5; subst hr5
     rw [hv5] at e5
     exact opG_of rfl (vv (op_sub rfl (tmp_ev (slot_ev e3 rfl)) (tmp_ev (slot_ev e5 rfl)) (by omega) (by omega)) (And.intro rfl rfl))
    refine ⟨fun a w vs105 hA hS hd => ?_, ?_⟩
    ·skip
     exact opG_of rfl (vv (op_move rfl (hA.ev rfl)) (And.intro rfl rfl))
    refine ⟨fun a w vs105 hA hS hd => ?_, ?_⟩
    ·skip
     exact opG_of rfl (vv (op_move rfl (hA.ev rfl)) (And.intro rfl rfl))
    refine ⟨fun a w vs105 hA hS hd => ?_, ?_⟩
    ·skip
     obtain ⟨e8, rs8, hy8, hp8⟩ := hd 8 (by decide)
     obtain ⟨hv8, hr8⟩ := hy8; subst hr8
     rw [hv8] at e8
     exact opG_of rfl (vv (op_mul rfl (evc _ _) (tmp_ev (slot_ev e8 rfl)) (by omega) (by omega)) (And.intro rfl rfl))
    refine ⟨fun a w vs105 hA hS hd => ?_, ?_⟩
    ·skip
     exact opG_of rfl (vv (op_move rfl (hA.ev rfl)) (And.intro rfl rfl))
    refine ⟨fun a w vs105 hA hS hd => ?_, ?_⟩
    ·skip
     obtain ⟨e9, rs9, hy9, hp9⟩ := hd 9 (by decide)
     obtain ⟨hv9, hr9⟩ := hy9; subst hr9
     rw [hv9] at e9
     obtain ⟨e10, rs10, hy10, hp10⟩ := hd 10 (by decide)
     obtain ⟨hv10, hr10⟩ := hy10; subst hr10
     rw [hv10] at e10
     exact opG_of rfl (vv (op_add rfl (tmp_ev (slot_ev e9 rfl)) (tmp_ev (slot_ev e10 rfl)) (by omega) (by omega)) (And.intro rfl rfl))
    refine ⟨fun a w vs105 hA hS hd => ?_, ?_⟩
    ·skip
     obtain ⟨e7, rs7, hy7, hp7⟩ := hd 7 (by decide)
     obtain ⟨hv7, hr7⟩ := hy7; subst hr7
     rw [hv7] at e7
     obtain ⟨e11, rs11, hy11, hp11⟩ := hd 11 (by decide)
     obtain ⟨hv11, hr11⟩ := hy11; subst hr11
     rw [hv11] at e11
     exact opG_of rfl (vx (op_call rfl en_61 (ev2 (tmp_ev (slot_ev e7 rfl)) (tmp_ev (slot_ev e11 rfl))) (word_ok _ ws _ ((5 * (k2 : Int)) + (i2 : Int)) (hS.sk 8 rfl) hww (by omega))) (And.intro rfl rfl))
    refine ⟨fun a w vs105 hA hS hd => ?_, ?_⟩
    ·skip
     exact opG_of rfl (vv (op_field rfl fd_62_0 (hA.ev rfl)) (And.intro rfl rfl))
    refine ⟨fun a w vs105 hA hS hd => ?_, ?_⟩
    ·skip
     obtain ⟨e13, rs13, hy13, hp13⟩ := hd 13 (by decide)
     obtain ⟨hv13, hr13⟩ := hy13; subst hr13
     rw [hv13] at e13
     exact opG_of rfl (vv (op_load1 rfl ty_3 (tmp_ev (slot_ev e13 rfl)) (hS.bk 1 rfl) rfl) (And.intro rfl rfl))
    refine ⟨fun a w vs105 hA hS hd => ?_, ?_⟩
    ·skip
     obtain ⟨e14, rs14, hy14, hp14⟩ := hd 14 (by decide)
     obtain ⟨hv14, hr14⟩ := hy14; subst hr14
     rw [hv14] at e14
     exact opG_of rfl (vv (op_mul rfl (evc _ _) (tmp_ev (slot_ev e14 rfl)) (by omega) (by omega)) (And.intro rfl rfl))
    refine ⟨fun a w vs105 hA hS hd => ?_, ?_⟩
    ·skip
     obtain ⟨e15, rs15, hy15, hp15⟩ := hd 15 (by decide)
     obtain ⟨hv15, hr15⟩ := hy15; subst hr15
     rw [hv15] at e15
     exact opG_of rfl (vv (op_add rfl (tmp_ev (slot_ev e15 rfl)) (evc _ _) (by omega) (by omega)) (And.intro rfl rfl))
    refine ⟨fun a w vs105 hA hS hd => ?_, ?_⟩
    ·skip
     obtain ⟨e12, rs12, hy12, hp12⟩ := hd 12 (by decide)
     obtain ⟨hv12, hr12⟩ := hy12; subst hr12
     rw [hv12] at e12
     obtain ⟨e16, rs16, hy16, hp16⟩ := hd 16 (by decide)
     obtain ⟨hv16, hr16⟩ := hy16; subst hr16
     rw [hv16] at e16
     exact opG_of rfl (vv (op_rem rfl (tmp_ev (slot_ev e12 rfl)) (tmp_ev (slot_ev e16 rfl)) (by omega)) (And.intro rfl rfl))
    trivial
   intro a106 w107 vs105 rsf111 hA108 hH110 hS109; clear hA104 hS92
   obtain ⟨hs_0, hy_0⟩ := hH110 0 (by decide)
   obtain ⟨hv_0, hr_0⟩ := hy_0
   obtain ⟨hs_1, hy_1⟩ := hH110 1 (by decide)
   obtain ⟨hv_1, hr_1⟩ := hy_1
   obtain ⟨hs_2, hy_2⟩ := hH110 2 (by decide)
   obtain ⟨hv_2, hr_2⟩ := hy_2
   obtain ⟨hs_3, hy_3⟩ := hH110 3 (by decide)
   obtain ⟨hv_3, hr_3⟩ := hy_3
   obtain ⟨hs_4, hy_4⟩ := hH110 4 (by decide)
   obtain ⟨hv_4, hr_4⟩ := hy_4
   obtain ⟨hs_5, hy_5⟩ := hH110 5 (by decide)
   obtain ⟨hv_5, hr_5⟩ := hy_5
   obtain ⟨hs_6, hy_6⟩ := hH110 6 (by decide)
   obtain ⟨hv_6, hr_6⟩ := hy_6
   obtain ⟨hs_7, hy_7⟩ := hH110 7 (by decide)
   obtain ⟨hv_7, hr_7⟩ := hy_7
   obtain ⟨hs_8, hy_8⟩ := hH110 8 (by decide)
   obtain ⟨hv_8, hr_8⟩ := hy_8
   obtain ⟨hs_9, hy_9⟩ := hH110 9 (by decide)
   obtain ⟨hv_9, hr_9⟩ := hy_9
   obtain ⟨hs_10, hy_10⟩ := hH110 10 (by decide)
   obtain ⟨hv_10, hr_10⟩ := hy_10
   obtain ⟨hs_11, hy_11⟩ := hH110 11 (by decide)
   obtain ⟨hv_11, hr_11⟩ := hy_11
   obtain ⟨hs_12, hy_12⟩ := hH110 12 (by decide)
   obtain ⟨hv_12, hr_12⟩ := hy_12
   obtain ⟨hs_13, hy_13⟩ := hH110 13 (by decide)
   obtain ⟨hv_13, hr_13⟩ := hy_13
   obtain ⟨hs_14, hy_14⟩ := hH110 14 (by decide)
   obtain ⟨hv_14, hr_14⟩ := hy_14
   obtain ⟨hs_15, hy_15⟩ := hH110 15 (by decide)
   obtain ⟨hv_15, hr_15⟩ := hy_15
   obtain ⟨hs_16, hy_16⟩ := hH110 16 (by decide)
   obtain ⟨hv_16, hr_16⟩ := hy_16
   obtain ⟨hs_17, hy_17⟩ := hH110 17 (by decide)
   obtain ⟨hv_17, hr_17⟩ := hy_17
   have hS112 : Sep NoB w w107 [(row vr_ 3 1 ((madeRow d ws (trueF d ws d.samples.length) x shift k2 i2).length) (ints (madeRow d ws (trueF d ws d.samples.length) x shift k2 i2))), (blk b78 62 [(Value.int .i64 (d.tols.getD k2 0)), vr_]), (lstR lv_ ((List.range k2).map fun q => madeRow d ws (trueF d ws d.samples.length) x shift q d.samples.length)), (row vb_ 62 2 ((d.tols.take k2).length) (vpairs ((d.tols.take k2).zip lv_))), (blk b29 26 [rl, rs, (Value.int .i64 d.spread), vb_]), (row v21 3 1 ((trueF d ws d.samples.length).length) (ints (trueF d ws d.samples.length))), (blk b9 26 [(Value.slice none 0 0), (Value.slice none 0 0), (Value.int .i64 0), (Value.slice none 0 0)]), (blk b4 26 [rl, rs, (Value.int .i64 d.spread), rb]), (sl wv 1 ws.length (ws.map (Value.int .u16))), (rndR false rl rs rb rlv d)] := by rw [show catR rsf111 0 18 = ([] : List Res) by (try simp only [catR, hr_0, hr_1, hr_2, hr_3, hr_4, hr_5, hr_6, hr_7, hr_8, hr_9, hr_10, hr_11, hr_12, hr_13, hr_14, hr_15, hr_16, hr_17]); (try rfl)] at hS109; exact hS109
   rw [hv_6] at hs_6
   have hA113 : Fr 97 [] [(47, (Value.int .i64 (((trueF d ws d.samples.length).getD i2 0) - (d.tols.getD k2 0)))), (13, (Value.int .i64 (i2 : Int))), (12, (bptr b78 0)), (11, (Value.int .i64 (k2 : Int))), (10, (bptr b29 0)), (9, v21), (8, (bptr b9 0)), (4, (bptr b4 0)), (1, wv), (2, (Value.int .u8 (x : Int))), (3, (Value.int .i64 shift))] a106 := hA108.add (slot_ev hs_6 rfl); clear hA108
   rw [hv_17] at hs_17
   have hA114 : Fr 97 [] [(58, (Value.int .i64 (((wordF ws ((5 * (k2 : Int)) + (i2 : Int)))).tmod ((2 * (d.tols.getD k2 0)) + 1)))), (47, (Value.int .i64 (((trueF d ws d.samples.length).getD i2 0) - (d.tols.getD k2 0)))), (13, (Value.int .i64 (i2 : Int))), (12, (bptr b78 0)), (11, (Value.int .i64 (k2 : Int))), (10, (bptr b29 0)), (9, v21), (8, (bptr b9 0)), (4, (bptr b4 0)), (1, wv), (2, (Value.int .u8 (x : Int))), (3, (Value.int .i64 shift))] a106 := hA113.add (slot_ev hs_17 rfl); clear hA113
   clear hH110 hS109 hs_0 hs_1 hs_2 hs_3 hs_4 hs_5 hs_6 hs_7 hs_8 hs_9 hs_10 hs_11 hs_12 hs_13 hs_14 hs_15 hs_16 hs_17
   clear hr_0
   clear hv_0
   clear hr_1
   clear hv_1
   clear hr_2
   clear hv_2
   clear hr_3
   clear hv_3
   clear hr_4
   clear hv_4
   clear hr_5
   clear hv_5
   clear hr_6
   clear hv_6
   clear hr_7
   clear hv_7
   clear hr_8
   clear hv_8
   clear hr_9
   clear hv_9
   clear hr_10
   clear hv_10
   clear hr_11
   clear hv_11
   clear hr_12
   clear hv_12
   clear hr_13
   clear hv_13
   clear hr_14
   clear hv_14
   clear hr_15
   clear hv_15
   clear hr_16
   clear hv_16
   clear hr_17
   clear hv_17
   refine st hA114 (op_add rfl (hA114.ev rfl) (hA114.ev rfl) (by omega) (by omega)) rfl rfl (by decide) fun a115 hA116 => ?_; clear hA114 a106
   refine st hA116 (op_assign rfl (hA116.ev rfl)) rfl rfl (by decide) fun a117 hA118 => ?_; clear hA116 a115
   refine wl_nil ?_
   refine then_n ?_
   refine c_seq ?_
   refine c_seq ?_
   refine c_region ?_
   refine st hA118 (op_move rfl (hA118.ev rfl)) rfl rfl (by decide) fun a119 hA120 => ?_; clear hA118 a117
   refine st hA120 (op_move rfl (hA120.ev rfl)) rfl rfl (by decide) fun a121 hA122 => ?_; clear hA120 a119
   refine st hA122 (op_conv un_3 un_71 rfl (hA122.ev rfl) (v := (k2 : Int)) (wrap_u64 (by omega) (by omega))) rfl rfl (by decide) fun a123 hA124 => ?_; clear hA122 a121
   refine st hA124 (op_shr8 rfl (m := x) (hA124.ev rfl) (k := k2) (hA124.ev rfl) (by omega)) rfl rfl (by decide) fun a125 hA126 => ?_; clear hA124 a123
   refine st hA126 (op_rem rfl (hA126.ev rfl) (evc _ _) (by omega)) rfl rfl (by decide) fun a127 hA128 => ?_; clear hA126 a125
   refine st hA128 (op_eql rfl (hA128.ev rfl) (evc _ _)) rfl rfl (by decide) fun a129 hA130 => ?_; clear hA128 a127
   refine wl_nil ?_
   refine then_n ?_
   by_cases hb131 : ((((x >>> k2 : Nat) : Int)).tmod 2) = 1
   ·skip
    rw [decide_eq_true hb131] at hA130
    refine c_true hA130 rfl ?_
    have hA132 := hA130.as [(14, (Value.int .i64 ((((trueF d ws d.samples.length).getD i2 0) - (d.tols.getD k2 0)) + (((wordF ws ((5 * (k2 : Int)) + (i2 : Int)))).tmod ((2 * (d.tols.getD k2 0)) + 1))))), (13, (Value.int .i64 (i2 : Int))), (12, (bptr b78 0)), (11, (Value.int .i64 (k2 : Int))), (10, (bptr b29 0)), (9, v21), (8, (bptr b9 0)), (4, (bptr b4 0)), (1, wv), (2, (Value.int .u8 (x : Int))), (3, (Value.int .i64 shift))] rfl; clear hA130
    refine c_region ?_
    refine st hA132 (op_move rfl (hA132.ev rfl)) rfl rfl (by decide) fun a133 hA134 => ?_; clear hA132 a129
    refine st hA134 (op_move rfl (hA134.ev rfl)) rfl rfl (by decide) fun a135 hA136 => ?_; clear hA134 a133
    refine st hA136 (op_add rfl (hA136.ev rfl) (hA136.ev rfl) (by omega) (by omega)) rfl rfl (by decide) fun a137 hA138 => ?_; clear hA136 a135
    refine st hA138 (op_assign rfl (hA138.ev rfl)) rfl rfl (by decide) fun a139 hA140 => ?_; clear hA138 a137
    refine wl_nil ?_
    refine then_n ?_
    refine c_seq ?_
    refine c_seq ?_
    refine c_region ?_
    refine st hA140 (op_field rfl fd_26_3 (hA140.ev rfl)) rfl rfl (by decide) fun a141 hA142 => ?_; clear hA140 a139
    refine st hA142 (op_load1 rfl ty_24 (hA142.ev rfl) (hS112.bk 7 rfl) rfl) rfl rfl (by decide) fun a143 hA144 => ?_; clear hA142 a141
    refine st hA144 (op_move rfl (hA144.ev rfl)) rfl rfl (by decide) fun a145 hA146 => ?_; clear hA144 a143
    refine st hA146 (op_indexS rfl un_24 ty_62 (hA146.ev rfl) (i := k2) (hA146.ev rfl) (rnd_at (hS112.ok 9 _ rfl)).labs (by decide) (by omega)) rfl rfl (by decide) fun a147 hA148 => ?_; clear hA146 a145
    refine st hA148 (op_fieldS rfl fd_62_1 (hA148.ev rfl) (rnd_at (hS112.ok 9 _ rfl)).labs (by rw [((rnd_at (hS112.ok 9 _ rfl)).labs).1]; omega)) rfl rfl (by decide) fun a149 hA150 => ?_; clear hA148 a147
    refine st hA150 (op_load1E rfl ty_23 (hA150.ev rfl) (rnd_at (hS112.ok 9 _ rfl)).labs (labs_at1 (rnd_at (hS112.ok 9 _ rfl)).lvl (by omega))) rfl rfl (by decide) fun a151 hA152 => ?_; clear hA150 a149
    refine st hA152 (op_move rfl (hA152.ev rfl)) rfl rfl (by decide) fun a153 hA154 => ?_; clear hA152 a151
    refine st hA154 (op_indexS rfl un_23 ty_3 (hA154.ev rfl) (i := i2) (hA154.ev rfl) ((rnd_at (hS112.ok 9 _ rfl)).rds k2 (by rw [(rnd_at (hS112.ok 9 _ rfl)).rdl]; omega)) (by decide) (by omega)) rfl rfl (by decide) fun a155 hA156 => ?_; clear hA154 a153
    refine st hA156 (op_load1E rfl ty_3 (hA156.ev rfl) ((rnd_at (hS112.ok 9 _ rfl)).rds k2 (by rw [(rnd_at (hS112.ok 9 _ rfl)).rdl]; omega)) (ints_at (by omega))) rfl rfl (by decide) fun a157 hA158 => ?_; clear hA156 a155
    refine st hA158 (op_lss rfl (hA158.ev rfl) (evc _ _)) rfl rfl (by decide) fun a159 hA160 => ?_; clear hA158 a157
    refine st hA160 (op_move rfl (hA160.ev rfl)) rfl rfl (by decide) fun a161 hA162 => ?_; clear hA160 a159
    by_cases hb163 : ((d.rds.getD k2 []).getD i2 0) < 0
    ·skip
     rw [decide_eq_true hb163] at hA162
     refine skp hA162 rfl rfl rfl rfl rfl (by decide) fun a164 hA165 => ?_; clear hA162 a161
     refine skp hA165 rfl rfl rfl rfl rfl (by decide) fun a166 hA167 => ?_; clear hA165 a164
     refine skp hA167 rfl rfl rfl rfl rfl (by decide) fun a168 hA169 => ?_; clear hA167 a166
     refine st hA169 (op_pick_t rfl (hA169.ev rfl) (evc _ _)) rfl rfl (by decide) fun a170 hA171 => ?_; clear hA169 a168
     refine wl_nil ?_
     refine then_n ?_
     refine c_true hA171 rfl ?_
     have hA172 := hA171.as [(13, (Value.int .i64 (i2 : Int))), (12, (bptr b78 0)), (11, (Value.int .i64 (k2 : Int))), (10, (bptr b29 0)), (9, v21), (8, (bptr b9 0)), (4, (bptr b4 0)), (1, wv), (2, (Value.int .u8 (x : Int))), (3, (Value.int .i64 shift))] rfl; clear hA171
     refine c_region ?_
     refine st hA172 (op_assign rfl (evc _ _)) rfl rfl (by decide) fun a173 hA174 => ?_; clear hA172 a170
     refine wl_nil ?_
     refine then_n ?_
     refine c_region ?_
     refine st hA174 (op_field rfl fd_62_1 (hA174.ev rfl)) rfl rfl (by decide) fun a175 hA176 => ?_; clear hA174 a173
     refine st hA176 (op_load1 rfl ty_23 (hA176.ev rfl) (hS112.bk 1 rfl) rfl) rfl rfl (by decide) fun a177 hA178 => ?_; clear hA176 a175
     refine st hA178 (op_move rfl (hA178.ev rfl)) rfl rfl (by decide) fun a179 hA180 => ?_; clear hA178 a177
     refine stw hA180 (op_buildSlice hS112 rfl (pv1 (hA180.ev rfl)) un_23 ty_3 ze_3 (by decide) (cs := [(Value.int .i64 (-1))]) (bs_3_1_0i _)) rfl rfl (by decide) ?_
     rintro a181 _ w183 ⟨b184, rfl, hS185⟩ hA182; clear hA180 hS112 a179
     refine stw hA182 (op_append hS185 rfl un_23 el_3 (hA182.ev rfl) (hA182.ev rfl) (i := 1) rfl (SlAt.of_blk (hS185.bk 0 rfl) rfl (Nat.le_of_ble_eq_true rfl)) rfl (by simp only [maxLen]; omega) (by omega)) rfl rfl (by decide) ?_
     intro a186 v189 w188 hS190 hA187
     have hS191 := hS190.row_say (i := 1) rfl (n' := ((madeRow d ws (trueF d ws d.samples.length) x shift k2 i2) ++ [-1]).length) (xs' := (ints ((madeRow d ws (trueF d ws d.samples.length) x shift k2 i2) ++ [-1]))) (by simp) (by simp [ints]); clear hS190 hA182 hS185 a181
     refine st hA187 (op_field rfl fd_62_1 (hA187.ev rfl)) rfl rfl (by decide) fun a192 hA193 => ?_; clear hA187 a186
     refine sts hA193 (op_store hS191 rfl ty_23 (hA193.ev rfl) (hA193.ev rfl) (i := 2) rfl (vs := [v189]) (isSl_cells (SlAt.isSl (SlAt.of_row (hS191.ok_row 1 rfl)))) rfl (all_c (SlAt.one (SlAt.of_row (hS191.ok_row 1 rfl))) all_n) (Nat.le_of_ble_eq_true rfl)) rfl rfl ?_
     intro _ w194 hS195 hA196; clear hA193
     have hS197 : Sep NoB w w194 [(blk b184 3 [(Value.int .i64 (-1))]), (row v189 3 1 (((madeRow d ws (trueF d ws d.samples.length) x shift k2 i2) ++ [-1]).length) (ints ((madeRow d ws (trueF d ws d.samples.length) x shift k2 i2) ++ [-1]))), (blk b78 62 [(Value.int .i64 (d.tols.getD k2 0)), v189]), (lstR lv_ ((List.range k2).map fun q => madeRow d ws (trueF d ws d.samples.length) x shift q d.samples.length)), (row vb_ 62 2 ((d.tols.take k2).length) (vpairs ((d.tols.take k2).zip lv_))), (blk b29 26 [rl, rs, (Value.int .i64 d.spread), vb_]), (row v21 3 1 ((trueF d ws d.samples.length).length) (ints (trueF d ws d.samples.length))), (blk b9 26 [(Value.slice none 0 0), (Value.slice none 0 0), (Value.int .i64 0), (Value.slice none 0 0)]), (blk b4 26 [rl, rs, (Value.int .i64 d.spread), rb]), (sl wv 1 ws.length (ws.map (Value.int .u16))), (rndR false rl rs rb rlv d)] := hS195; clear hS195 hS191
     refine wl_nil ?_
     refine blk_n ?_
     refine then_n ?_
     have hA198 := hA196.as [(13, (Value.int .i64 (i2 : Int))), (12, (bptr b78 0)), (11, (Value.int .i64 (k2 : Int))), (10, (bptr b29 0)), (9, v21), (8, (bptr b9 0)), (4, (bptr b4 0)), (1, wv), (2, (Value.int .u8 (x : Int))), (3, (Value.int .i64 shift))] rfl; clear hA196
     refine c_region ?_
     refine st hA198 (op_move rfl (hA198.ev rfl)) rfl rfl (by decide) fun a199 hA200 => ?_; clear hA198 a192
     refine st hA200 (op_add rfl (hA200.ev rfl) (evc _ _) (by omega) (by omega)) rfl rfl (by decide) fun a201 hA202 => ?_; clear hA200 a199
     refine st hA202 (op_assign rfl (hA202.ev rfl)) rfl rfl (by decide) fun a203 hA204 => ?_; clear hA202 a201
     refine wl_nil ?_
     have hS205 : Sep NoB w w194 [(row v189 3 1 (((madeRow d ws (trueF d ws d.samples.length) x shift k2 i2) ++ [-1]).length) (ints ((madeRow d ws (trueF d ws d.samples.length) x shift k2 i2) ++ [-1]))), (blk b78 62 [(Value.int .i64 (d.tols.getD k2 0)), v189]), (lstR lv_ ((List.range k2).map fun q => madeRow d ws (trueF d ws d.samples.length) x shift q d.samples.length)), (row vb_ 62 2 ((d.tols.take k2).length) (vpairs ((d.tols.take k2).zip lv_))), (blk b29 26 [rl, rs, (Value.int .i64 d.spread), vb_]), (row v21 3 1 ((trueF d ws d.samples.length).length) (ints (trueF d ws d.samples.length))), (blk b9 26 [(Value.slice none 0 0), (Value.slice none 0 0), (Value.int .i64 0), (Value.slice none 0 0)]), (blk b4 26 [rl, rs, (Value.int .i64 d.spread), rb]), (sl wv 1 ws.length (ws.map (Value.int .u16))), (rndR false rl rs rb rlv d)] := hS197.keep [1, 2, 3, 4, 5, 6, 7, 8, 9, 10] (by decide) _ rfl rfl; clear hS197
     exact then_n ⟨i2 + 1, ⟨v189, hA204.as _ rfl, (hS205.row_say (i := 0) rfl (by rw [madeRow_succ]; first | rw [made_no1 (by assumption)] | rw [made_b (by assumption) (by assumption) _ rfl, if_pos (by omega)] | rw [made_b (by assumption) (by assumption) _ rfl, if_neg (by omega)] | rw [made_n (by assumption) (by assumption) _ rfl, if_pos (by omega)] | rw [made_n (by assumption) (by assumption) _ rfl, if_neg (by omega)]) (by rw [madeRow_succ]; first | rw [made_no1 (by assumption)] | rw [made_b (by assumption) (by assumption) _ rfl, if_pos (by omega)] | rw [made_b (by assumption) (by assumption) _ rfl, if_neg (by omega)] | rw [made_n (by assumption) (by assumption) _ rfl, if_pos (by omega)] | rw [made_n (by assumption) (by assumption) _ rfl, if_neg (by omega)])), by omega⟩, by omega⟩
    ·skip
     rw [decide_eq_false hb163] at hA162
     refine stg hA162 (op_move rfl (hA162.ev rfl)) rfl rfl rfl rfl (by decide) fun a206 hA207 => ?_; clear hA162 a161
     refine stwg hA207 (op_call rfl en_33 (ev3 (hA207.ev rfl) (evc _ _) (evc _ _)) (In_ok _ _ _ _)) rfl rfl rfl rfl (by decide) ?_
     rintro a208 _ _ ⟨rfl, rfl⟩ hA209; clear hA207 a206
     refine stg hA209 (op_not rfl (hA209.ev rfl)) rfl rfl rfl rfl (by decide) fun a211 hA212 => ?_; clear hA209 a208
     refine st hA212 (op_pick_f rfl (hA212.ev rfl) (hA212.ev rfl)) rfl rfl (by decide) fun a213 hA214 => ?_; clear hA212 a211
     refine wl_nil ?_
     refine then_n ?_
     rcases Bool.eq_false_or_eq_true ((decide (0 ≤ (((((trueF d ws d.samples.length).getD i2 0) - (d.tols.getD k2 0)) + (((wordF ws ((5 * (k2 : Int)) + (i2 : Int)))).tmod ((2 * (d.tols.getD k2 0)) + 1))) + shift)) && decide ((((((trueF d ws d.samples.length).getD i2 0) - (d.tols.getD k2 0)) + (((wordF ws ((5 * (k2 : Int)) + (i2 : Int)))).tmod ((2 * (d.tols.getD k2 0)) + 1))) + shift) ≤ 1000))) with hb215 | hb215
     ·skip
      rw [hb215] at hA214
      have hq216 := hb215; simp only [Bool.and_eq_true, Bool.and_eq_false_iff, decide_eq_true_eq, decide_eq_false_iff_not] at hq216
      refine c_false hA214 rfl ?_
      refine c_skip ?_
      refine then_n ?_
      have hA217 := hA214.as [(14, (Value.int .i64 (((((trueF d ws d.samples.length).getD i2 0) - (d.tols.getD k2 0)) + (((wordF ws ((5 * (k2 : Int)) + (i2 : Int)))).tmod ((2 * (d.tols.getD k2 0)) + 1))) + shift))), (13, (Value.int .i64 (i2 : Int))), (12, (bptr b78 0)), (11, (Value.int .i64 (k2 : Int))), (10, (bptr b29 0)), (9, v21), (8, (bptr b9 0)), (4, (bptr b4 0)), (1, wv), (2, (Value.int .u8 (x : Int))), (3, (Value.int .i64 shift))] rfl; clear hA214
      refine c_region ?_
      refine st hA217 (op_field rfl fd_62_1 (hA217.ev rfl)) rfl rfl (by decide) fun a218 hA219 => ?_; clear hA217 a213
      refine st hA219 (op_load1 rfl ty_23 (hA219.ev rfl) (hS112.bk 1 rfl) rfl) rfl rfl (by decide) fun a220 hA221 => ?_; clear hA219 a218
      refine st hA221 (op_move rfl (hA221.ev rfl)) rfl rfl (by decide) fun a222 hA223 => ?_; clear hA221 a220
      refine stw hA223 (op_buildSlice hS112 rfl (pv1 (hA223.ev rfl)) un_23 ty_3 ze_3 (by decide) (cs := [(Value.int .i64 (((((trueF d ws d.samples.length).getD i2 0) - (d.tols.getD k2 0)) + (((wordF ws ((5 * (k2 : Int)) + (i2 : Int)))).tmod ((2 * (d.tols.getD k2 0)) + 1))) + shift))]) (bs_3_1_0i _)) rfl rfl (by decide) ?_
      rintro a224 _ w226 ⟨b227, rfl, hS228⟩ hA225; clear hA223 hS112 a222
      refine stw hA225 (op_append hS228 rfl un_23 el_3 (hA225.ev rfl) (hA225.ev rfl) (i := 1) rfl (SlAt.of_blk (hS228.bk 0 rfl) rfl (Nat.le_of_ble_eq_true rfl)) rfl (by simp only [maxLen]; omega) (by omega)) rfl rfl (by decide) ?_
      intro a229 v232 w231 hS233 hA230
      have hS234 := hS233.row_say (i := 1) rfl (n' := ((madeRow d ws (trueF d ws d.samples.length) x shift k2 i2) ++ [((((trueF d ws d.samples.length).getD i2 0) - (d.tols.getD k2 0)) + (((wordF ws ((5 * (k2 : Int)) + (i2 : Int)))).tmod ((2 * (d.tols.getD k2 0)) + 1))) + shift]).length) (xs' := (ints ((madeRow d ws (trueF d ws d.samples.length) x shift k2 i2) ++ [((((trueF d ws d.samples.length).getD i2 0) - (d.tols.getD k2 0)) + (((wordF ws ((5 * (k2 : Int)) + (i2 : Int)))).tmod ((2 * (d.tols.getD k2 0)) + 1))) + shift]))) (by simp) (by simp [ints]); clear hS233 hA225 hS228 a224
      refine st hA230 (op_field rfl fd_62_1 (hA230.ev rfl)) rfl rfl (by decide) fun a235 hA236 => ?_; clear hA230 a229
      refine sts hA236 (op_store hS234 rfl ty_23 (hA236.ev rfl) (hA236.ev rfl) (i := 2) rfl (vs := [v232]) (isSl_cells (SlAt.isSl (SlAt.of_row (hS234.ok_row 1 rfl)))) rfl (all_c (SlAt.one (SlAt.of_row (hS234.ok_row 1 rfl))) all_n) (Nat.le_of_ble_eq_true rfl)) rfl rfl ?_
      intro _ w237 hS238 hA239; clear hA236
      have hS240 : Sep NoB w w237 [(blk b227 3 [(Value.int .i64 (((((trueF d ws d.samples.length).getD i2 0) - (d.tols.getD k2 0)) + (((wordF ws ((5 * (k2 : Int)) + (i2 : Int)))).tmod ((2 * (d.tols.getD k2 0)) + 1))) + shift))]), (row v232 3 1 (((madeRow d ws (trueF d ws d.samples.length) x shift k2 i2) ++ [((((trueF d ws d.samples.length).getD i2 0) - (d.tols.getD k2 0)) + (((wordF ws ((5 * (k2 : Int)) + (i2 : Int)))).tmod ((2 * (d.tols.getD k2 0)) + 1))) + shift]).length) (ints ((madeRow d ws (trueF d ws d.samples.length) x shift k2 i2) ++ [((((trueF d ws d.samples.length).getD i2 0) - (d.tols.getD k2 0)) + (((wordF ws ((5 * (k2 : Int)) + (i2 : Int)))).tmod ((2 * (d.tols.getD k2 0)) + 1))) + shift]))), (blk b78 62 [(Value.int .i64 (d.tols.getD k2 0)), v232]), (lstR lv_ ((List.range k2).map fun q => madeRow d ws (trueF d ws d.samples.length) x shift q d.samples.length)), (row vb_ 62 2 ((d.tols.take k2).length) (vpairs ((d.tols.take k2).zip lv_))), (blk b29 26 [rl, rs, (Value.int .i64 d.spread), vb_]), (row v21 3 1 ((trueF d ws d.samples.length).length) (ints (trueF d ws d.samples.length))), (blk b9 26 [(Value.slice none 0 0), (Value.slice none 0 0), (Value.int .i64 0), (Value.slice none 0 0)]), (blk b4 26 [rl, rs, (Value.int .i64 d.spread), rb]), (sl wv 1 ws.length (ws.map (Value.int .u16))), (rndR false rl rs rb rlv d)] := hS238; clear hS238 hS234
      refine wl_nil ?_
      refine blk_n ?_
      refine then_n ?_
      have hA241 := hA239.as [(13, (Value.int .i64 (i2 : Int))), (12, (bptr b78 0)), (11, (Value.int .i64 (k2 : Int))), (10, (bptr b29 0)), (9, v21), (8, (bptr b9 0)), (4, (bptr b4 0)), (1, wv), (2, (Value.int .u8 (x : Int))), (3, (Value.int .i64 shift))] rfl; clear hA239
      refine c_region ?_
      refine st hA241 (op_move rfl (hA241.ev rfl)) rfl rfl (by decide) fun a242 hA243 => ?_; clear hA241 a235
      refine st hA243 (op_add rfl (hA243.ev rfl) (evc _ _) (by omega) (by omega)) rfl rfl (by decide) fun a244 hA245 => ?_; clear hA243 a242
      refine st hA245 (op_assign rfl (hA245.ev rfl)) rfl rfl (by decide) fun a246 hA247 => ?_; clear hA245 a244
      refine wl_nil ?_
      have hS248 : Sep NoB w w237 [(row v232 3 1 (((madeRow d ws (trueF d ws d.samples.length) x shift k2 i2) ++ [((((trueF d ws d.samples.length).getD i2 0) - (d.tols.getD k2 0)) + (((wordF ws ((5 * (k2 : Int)) + (i2 : Int)))).tmod ((2 * (d.tols.getD k2 0)) + 1))) + shift]).length) (ints ((madeRow d ws (trueF d ws d.samples.length) x shift k2 i2) ++ [((((trueF d ws d.samples.length).getD i2 0) - (d.tols.getD k2 0)) + (((wordF ws ((5 * (k2 : Int)) + (i2 : Int)))).tmod ((2 * (d.tols.getD k2 0)) + 1))) + shift]))), (blk b78 62 [(Value.int .i64 (d.tols.getD k2 0)), v232]), (lstR lv_ ((List.range k2).map fun q => madeRow d ws (trueF d ws d.samples.length) x shift q d.samples.length)), (row vb_ 62 2 ((d.tols.take k2).length) (vpairs ((d.tols.take k2).zip lv_))), (blk b29 26 [rl, rs, (Value.int .i64 d.spread), vb_]), (row v21 3 1 ((trueF d ws d.samples.length).length) (ints (trueF d ws d.samples.length))), (blk b9 26 [(Value.slice none 0 0), (Value.slice none 0 0), (Value.int .i64 0), (Value.slice none 0 0)]), (blk b4 26 [rl, rs, (Value.int .i64 d.spread), rb]), (sl wv 1 ws.length (ws.map (Value.int .u16))), (rndR false rl rs rb rlv d)] := hS240.keep [1, 2, 3, 4, 5, 6, 7, 8, 9, 10] (by decide) _ rfl rfl; clear hS240
      exact then_n ⟨i2 + 1, ⟨v232, hA247.as _ rfl, (hS248.row_say (i := 0) rfl (by rw [madeRow_succ]; first | rw [made_no1 (by assumption)] | rw [made_b (by assumption) (by assumption) _ rfl, if_pos (by omega)] | rw [made_b (by assumption) (by assumption) _ rfl, if_neg (by omega)] | rw [made_n (by assumption) (by assumption) _ rfl, if_pos (by omega)] | rw [made_n (by assumption) (by assumption) _ rfl, if_neg (by omega)]) (by rw [madeRow_succ]; first | rw [made_no1 (by assumption)] | rw [made_b (by assumption) (by assumption) _ rfl, if_pos (by omega)] | rw [made_b (by assumption) (by assumption) _ rfl, if_neg (by omega)] | rw [made_n (by assumption) (by assumption) _ rfl, if_pos (by omega)] | rw [made_n (by assumption) (by assumption) _ rfl, if_neg (by omega)])), by omega⟩, by omega⟩
     ·skip
      rw [hb215] at hA214
      have hq249 := hb215; simp only [Bool.and_eq_true, Bool.and_eq_false_iff, decide_eq_true_eq, decide_eq_false_iff_not] at hq249
      refine c_true hA214 rfl ?_
      have hA250 := hA214.as [(13, (Value.int .i64 (i2 : Int))), (12, (bptr b78 0)), (11, (Value.int .i64 (k2 : Int))), (10, (bptr b29 0)), (9, v21), (8, (bptr b9 0)), (4, (bptr b4 0)), (1, wv), (2, (Value.int .u8 (x : Int))), (3, (Value.int .i64 shift))] rfl; clear hA214
      refine c_region ?_
      refine st hA250 (op_assign rfl (evc _ _)) rfl rfl (by decide) fun a251 hA252 => ?_; clear hA250 a213
      refine wl_nil ?_
      refine then_n ?_
      refine c_region ?_
      refine st hA252 (op_field rfl fd_62_1 (hA252.ev rfl)) rfl rfl (by decide) fun a253 hA254 => ?_; clear hA252 a251
      refine st hA254 (op_load1 rfl ty_23 (hA254.ev rfl) (hS112.bk 1 rfl) rfl) rfl rfl (by decide) fun a255 hA256 => ?_; clear hA254 a253
      refine st hA256 (op_move rfl (hA256.ev rfl)) rfl rfl (by decide) fun a257 hA258 => ?_; clear hA256 a255
      refine stw hA258 (op_buildSlice hS112 rfl (pv1 (hA258.ev rfl)) un_23 ty_3 ze_3 (by decide) (cs := [(Value.int .i64 (-1))]) (bs_3_1_0i _)) rfl rfl (by decide) ?_
      rintro a259 _ w261 ⟨b262, rfl, hS263⟩ hA260; clear hA258 hS112 a257
      refine stw hA260 (op_append hS263 rfl un_23 el_3 (hA260.ev rfl) (hA260.ev rfl) (i := 1) rfl (SlAt.of_blk (hS263.bk 0 rfl) rfl (Nat.le_of_ble_eq_true rfl)) rfl (by simp only [maxLen]; omega) (by omega)) rfl rfl (by decide) ?_
      intro a264 v267 w266 hS268 hA265
      have hS269 := hS268.row_say (i := 1) rfl (n' := ((madeRow d ws (trueF d ws d.samples.length) x shift k2 i2) ++ [-1]).length) (xs' := (ints ((madeRow d ws (trueF d ws d.samples.length) x shift k2 i2) ++ [-1]))) (by simp) (by simp [ints]); clear hS268 hA260 hS263 a259
      refine st hA265 (op_field rfl fd_62_1 (hA265.ev rfl)) rfl rfl (by decide) fun a270 hA271 => ?_; clear hA265 a264
      refine sts hA271 (op_store hS269 rfl ty_23 (hA271.ev rfl) (hA271.ev rfl) (i := 2) rfl (vs := [v267]) (isSl_cells (SlAt.isSl (SlAt.of_row (hS269.ok_row 1 rfl)))) rfl (all_c (SlAt.one (SlAt.of_row (hS269.ok_row 1 rfl))) all_n) (Nat.le_of_ble_eq_true rfl)) rfl rfl ?_
      intro _ w272 hS273 hA274; clear hA271
      have hS275 : Sep NoB w w272 [(blk b262 3 [(Value.int .i64 (-1))]), (row v267 3 1 (((madeRow d ws (trueF d ws d.samples.length) x shift k2 i2) ++ [-1]).length) (ints ((madeRow d ws (trueF d ws d.samples.length) x shift k2 i2) ++ [-1]))), (blk b78 62 [(Value.int .i64 (d.tols.getD k2 0)), v267]), (lstR lv_ ((List.range k2).map fun q => madeRow d ws (trueF d ws d.samples.length) x shift q d.samples.length)), (row vb_ 62 2 ((d.tols.take k2).length) (vpairs ((d.tols.take k2).zip lv_))), (blk b29 26 [rl, rs, (Value.int .i64 d.spread), vb_]), (row v21 3 1 ((trueF d ws d.samples.length).length) (ints (trueF d ws d.samples.length))), (blk b9 26 [(Value.slice none 0 0), (Value.slice none 0 0), (Value.int .i64 0), (Value.slice none 0 0)]), (blk b4 26 [rl, rs, (Value.int .i64 d.spread), rb]), (sl wv 1 ws.length (ws.map (Value.int .u16))), (rndR false rl rs rb rlv d)] := hS273; clear hS273 hS269
      refine wl_nil ?_
      refine blk_n ?_
      refine then_n ?_
      have hA276 := hA274.as [(13, (Value.int .i64 (i2 : Int))), (12, (bptr b78 0)), (11, (Value.int .i64 (k2 : Int))), (10, (bptr b29 0)), (9, v21), (8, (bptr b9 0)), (4, (bptr b4 0)), (1, wv), (2, (Value.int .u8 (x : Int))), (3, (Value.int .i64 shift))] rfl; clear hA274
      refine c_region ?_
      refine st hA276 (op_move rfl (hA276.ev rfl)) rfl rfl (by decide) fun a277 hA278 => ?_; clear hA276 a270
      refine st hA278 (op_add rfl (hA278.ev rfl) (evc _ _) (by omega) (by omega)) rfl rfl (by decide) fun a279 hA280 => ?_; clear hA278 a277
      refine st hA280 (op_assign rfl (hA280.ev rfl)) rfl rfl (by decide) fun a281 hA282 => ?_; clear hA280 a279
      refine wl_nil ?_
      have hS283 : Sep NoB w w272 [(row v267 3 1 (((madeRow d ws (trueF d ws d.samples.length) x shift k2 i2) ++ [-1]).length) (ints ((madeRow d ws (trueF d ws d.samples.length) x shift k2 i2) ++ [-1]))), (blk b78 62 [(Value.int .i64 (d.tols.getD k2 0)), v267]), (lstR lv_ ((List.range k2).map fun q => madeRow d ws (trueF d ws d.samples.length) x shift q d.samples.length)), (row vb_ 62 2 ((d.tols.take k2).length) (vpairs ((d.tols.take k2).zip lv_))), (blk b29 26 [rl, rs, (Value.int .i64 d.spread), vb_]), (row v21 3 1 ((trueF d ws d.samples.length).length) (ints (trueF d ws d.samples.length))), (blk b9 26 [(Value.slice none 0 0), (Value.slice none 0 0), (Value.int .i64 0), (Value.slice none 0 0)]), (blk b4 26 [rl, rs, (Value.int .i64 d.spread), rb]), (sl wv 1 ws.length (ws.map (Value.int .u16))), (rndR false rl rs rb rlv d)] := hS275.keep [1, 2, 3, 4, 5, 6, 7, 8, 9, 10] (by decide) _ rfl rfl; clear hS275
      exact then_n ⟨i2 + 1, ⟨v267, hA282.as _ rfl, (hS283.row_say (i := 0) rfl (by rw [madeRow_succ]; first | rw [made_no1 (by assumption)] | rw [made_b (by assumption) (by assumption) _ rfl, if_pos (by omega)] | rw [made_b (by assumption) (by assumption) _ rfl, if_neg (by omega)] | rw [made_n (by assumption) (by assumption) _ rfl, if_pos (by omega)] | rw [made_n (by assumption) (by assumption) _ rfl, if_neg (by omega)]) (by rw [madeRow_succ]; first | rw [made_no1 (by assumption)] | rw [made_b (by assumption) (by assumption) _ rfl, if_pos (by omega)] | rw [made_b (by assumption) (by assumption) _ rfl, if_neg (by omega)] | rw [made_n (by assumption) (by assumption) _ rfl, if_pos (by omega)] | rw [made_n (by assumption) (by assumption) _ rfl, if_neg (by omega)])), by omega⟩, by omega⟩
   ·skip
    rw [decide_eq_false hb131] at hA130
    refine c_false hA130 rfl ?_
    refine c_skip ?_
    refine then_n ?_
    refine c_seq ?_
    refine c_seq ?_
    have hA284 := hA130.as [(14, (Value.int .i64 ((((trueF d ws d.samples.length).getD i2 0) - (d.tols.getD k2 0)) + (((wordF ws ((5 * (k2 : Int)) + (i2 : Int)))).tmod ((2 * (d.tols.getD k2 0)) + 1))))), (13, (Value.int .i64 (i2 : Int))), (12, (bptr b78 0)), (11, (Value.int .i64 (k2 : Int))), (10, (bptr b29 0)), (9, v21), (8, (bptr b9 0)), (4, (bptr b4 0)), (1, wv), (2, (Value.int .u8 (x : Int))), (3, (Value.int .i64 shift))] rfl; clear hA130
    refine c_region ?_
    refine st hA284 (op_field rfl fd_26_3 (hA284.ev rfl)) rfl rfl (by decide) fun a285 hA286 => ?_; clear hA284 a129
    refine st hA286 (op_load1 rfl ty_24 (hA286.ev rfl) (hS112.bk 7 rfl) rfl) rfl rfl (by decide) fun a287 hA288 => ?_; clear hA286 a285
    refine st hA288 (op_move rfl (hA288.ev rfl)) rfl rfl (by decide) fun a289 hA290 => ?_; clear hA288 a287
    refine st hA290 (op_indexS rfl un_24 ty_62 (hA290.ev rfl) (i := k2) (hA290.ev rfl) (rnd_at (hS112.ok 9 _ rfl)).labs (by decide) (by omega)) rfl rfl (by decide) fun a291 hA292 => ?_; clear hA290 a289
    refine st hA292 (op_fieldS rfl fd_62_1 (hA292.ev rfl) (rnd_at (hS112.ok 9 _ rfl)).labs (by rw [((rnd_at (hS112.ok 9 _ rfl)).labs).1]; omega)) rfl rfl (by decide) fun a293 hA294 => ?_; clear hA292 a291
    refine st hA294 (op_load1E rfl ty_23 (hA294.ev rfl) (rnd_at (hS112.ok 9 _ rfl)).labs (labs_at1 (rnd_at (hS112.ok 9 _ rfl)).lvl (by omega))) rfl rfl (by decide) fun a295 hA296 => ?_; clear hA294 a293
    refine st hA296 (op_move rfl (hA296.ev rfl)) rfl rfl (by decide) fun a297 hA298 => ?_; clear hA296 a295
    refine st hA298 (op_indexS rfl un_23 ty_3 (hA298.ev rfl) (i := i2) (hA298.ev rfl) ((rnd_at (hS112.ok 9 _ rfl)).rds k2 (by rw [(rnd_at (hS112.ok 9 _ rfl)).rdl]; omega)) (by decide) (by omega)) rfl rfl (by decide) fun a299 hA300 => ?_; clear hA298 a297
    refine st hA300 (op_load1E rfl ty_3 (hA300.ev rfl) ((rnd_at (hS112.ok 9 _ rfl)).rds k2 (by rw [(rnd_at (hS112.ok 9 _ rfl)).rdl]; omega)) (ints_at (by omega))) rfl rfl (by decide) fun a301 hA302 => ?_; clear hA300 a299
    refine st hA302 (op_lss rfl (hA302.ev rfl) (evc _ _)) rfl rfl (by decide) fun a303 hA304 => ?_; clear hA302 a301
    refine st hA304 (op_move rfl (hA304.ev rfl)) rfl rfl (by decide) fun a305 hA306 => ?_; clear hA304 a303
    by_cases hb307 : ((d.rds.getD k2 []).getD i2 0) < 0
    ·skip
     rw [decide_eq_true hb307] at hA306
     refine skp hA306 rfl rfl rfl rfl rfl (by decide) fun a308 hA309 => ?_; clear hA306 a305
     refine skp hA309 rfl rfl rfl rfl rfl (by decide) fun a310 hA311 => ?_; clear hA309 a308
     refine skp hA311 rfl rfl rfl rfl rfl (by decide) fun a312 hA313 => ?_; clear hA311 a310
     refine st hA313 (op_pick_t rfl (hA313.ev rfl) (evc _ _)) rfl rfl (by decide) fun a314 hA315 => ?_; clear hA313 a312
     refine wl_nil ?_
     refine then_n ?_
     refine c_true hA315 rfl ?_
     have hA316 := hA315.as [(13, (Value.int .i64 (i2 : Int))), (12, (bptr b78 0)), (11, (Value.int .i64 (k2 : Int))), (10, (bptr b29 0)), (9, v21), (8, (bptr b9 0)), (4, (bptr b4 0)), (1, wv), (2, (Value.int .u8 (x : Int))), (3, (Value.int .i64 shift))] rfl; clear hA315
     refine c_region ?_
     refine st hA316 (op_assign rfl (evc _ _)) rfl rfl (by decide) fun a317 hA318 => ?_; clear hA316 a314
     refine wl_nil ?_
     refine then_n ?_
     refine c_region ?_
     refine st hA318 (op_field rfl fd_62_1 (hA318.ev rfl)) rfl rfl (by decide) fun a319 hA320 => ?_; clear hA318 a317
     refine st hA320 (op_load1 rfl ty_23 (hA320.ev rfl) (hS112.bk 1 rfl) rfl) rfl rfl (by decide) fun a321 hA322 => ?_; clear hA320 a319
     refine st hA322 (op_move rfl (hA322.ev rfl)) rfl rfl (by decide) fun a323 hA324 => ?_; clear hA322 a321
     refine stw hA324 (op_buildSlice hS112 rfl (pv1 (hA324.ev rfl)) un_23 ty_3 ze_3 (by decide) (cs := [(Value.int .i64 (-1))]) (bs_3_1_0i _)) rfl rfl (by decide) ?_
     rintro a325 _ w327 ⟨b328, rfl, hS329⟩ hA326; clear hA324 hS112 a323
     refine stw hA326 (op_append hS329 rfl un_23 el_3 (hA326.ev rfl) (hA326.ev rfl) (i := 1) rfl (SlAt.of_blk (hS329.bk 0 rfl) rfl (Nat.le_of_ble_eq_true rfl)) rfl (by simp only [maxLen]; omega) (by omega)) rfl rfl (by decide) ?_
     intro a330 v333 w332 hS334 hA331
     have hS335 := hS334.row_say (i := 1) rfl (n' := ((madeRow d ws (trueF d ws d.samples.length) x shift k2 i2) ++ [-1]).length) (xs' := (ints ((madeRow d ws (trueF d ws d.samples.length) x shift k2 i2) ++ [-1]))) (by simp) (by simp [ints]); clear hS334 hA326 hS329 a325
     refine st hA331 (op_field rfl fd_62_1 (hA331.ev rfl)) rfl rfl (by decide) fun a336 hA337 => ?_; clear hA331 a330
     refine sts hA337 (op_store hS335 rfl ty_23 (hA337.ev rfl) (hA337.ev rfl) (i := 2) rfl (vs := [v333]) (isSl_cells (SlAt.isSl (SlAt.of_row (hS335.ok_row 1 rfl)))) rfl (all_c (SlAt.one (SlAt.of_row (hS335.ok_row 1 rfl))) all_n) (Nat.le_of_ble_eq_true rfl)) rfl rfl ?_
     intro _ w338 hS339 hA340; clear hA337
     have hS341 : Sep NoB w w338 [(blk b328 3 [(Value.int .i64 (-1))]), (row v333 3 1 (((madeRow d ws (trueF d ws d.samples.length) x shift k2 i2) ++ [-1]).length) (ints ((madeRow d ws (trueF d ws d.samples.length) x shift k2 i2) ++ [-1]))), (blk b78 62 [(Value.int .i64 (d.tols.getD k2 0)), v333]), (lstR lv_ ((List.range k2).map fun q => madeRow d ws (trueF d ws d.samples.length) x shift q d.samples.length)), (row vb_ 62 2 ((d.tols.take k2).length) (vpairs ((d.tols.take k2).zip lv_))), (blk b29 26 [rl, rs, (Value.int .i64 d.spread), vb_]), (row v21 3 1 ((trueF d ws d.samples.length).length) (ints (trueF d ws d.samples.length))), (blk b9 26 [(Value.slice none 0 0), (Value.slice none 0 0), (Value.int .i64 0), (Value.slice none 0 0)]), (blk b4 26 [rl, rs, (Value.int .i64 d.spread), rb]), (sl wv 1 ws.length (ws.map (Value.int .u16))), (rndR false rl rs rb rlv d)] := hS339; clear hS339 hS335
     refine wl_nil ?_
     refine blk_n ?_
     refine then_n ?_
     have hA342 := hA340.as [(13, (Value.int .i64 (i2 : Int))), (12, (bptr b78 0)), (11, (Value.int .i64 (k2 : Int))), (10, (bptr b29 0)), (9, v21), (8, (bptr b9 0)), (4, (bptr b4 0)), (1, wv), (2, (Value.int .u8 (x : Int))), (3, (Value.int .i64 shift))] rfl; clear hA340
     refine c_region ?_
     refine st hA342 (op_move rfl (hA342.ev rfl)) rfl rfl (by decide) fun a343 hA344 => ?_; clear hA342 a336
     refine st hA344 (op_add rfl (hA344.ev rfl) (evc _ _) (by omega) (by omega)) rfl rfl (by decide) fun a345 hA346 => ?_; clear hA344 a343
     refine st hA346 (op_assign rfl (hA346.ev rfl)) rfl rfl (by decide) fun a347 hA348 => ?_; clear hA346 a345
     refine wl_nil ?_
     have hS349 : Sep NoB w w338 [(row v333 3 1 (((madeRow d ws (trueF d ws d.samples.length) x shift k2 i2) ++ [-1]).length) (ints ((madeRow d ws (trueF d ws d.samples.length) x shift k2 i2) ++ [-1]))), (blk b78 62 [(Value.int .i64 (d.tols.getD k2 0)), v333]), (lstR lv_ ((List.range k2).map fun q => madeRow d ws (trueF d ws d.samples.length) x shift q d.samples.length)), (row vb_ 62 2 ((d.tols.take k2).length) (vpairs ((d.tols.take k2).zip lv_))), (blk b29 26 [rl, rs, (Value.int .i64 d.spread), vb_]), (row v21 3 1 ((trueF d ws d.samples.length).length) (ints (trueF d ws d.samples.length))), (blk b9 26 [(Value.slice none 0 0), (Value.slice none 0 0), (Value.int .i64 0), (Value.slice none 0 0)]), (blk b4 26 [rl, rs, (Value.int .i64 d.spread), rb]), (sl wv 1 ws.length (ws.map (Value.int .u16))), (rndR false rl rs rb rlv d)] := hS341.keep [1, 2, 3, 4, 5, 6, 7, 8, 9, 10] (by decide) _ rfl rfl; clear hS341
     exact then_n ⟨i2 + 1, ⟨v333, hA348.as _ rfl, (hS349.row_say (i := 0) rfl (by rw [madeRow_succ]; first | rw [made_no1 (by assumption)] | rw [made_b (by assumption) (by assumption) _ rfl, if_pos (by omega)] | rw [made_b (by assumption) (by assumption) _ rfl, if_neg (by omega)] | rw [made_n (by assumption) (by assumption) _ rfl, if_pos (by omega)] | rw [made_n (by assumption) (by assumption) _ rfl, if_neg (by omega)]) (by rw [madeRow_succ]; first | rw [made_no1 (by assumption)] | rw [made_b (by assumption) (by assumption) _ rfl, if_pos (by omega)] | rw [made_b (by assumption) (by assumption) _ rfl, if_neg (by omega)] | rw [made_n (by assumption) (by assumption) _ rfl, if_pos (by omega)] | rw [made_n (by assumption) (by assumption) _ rfl, if_neg (by omega)])), by omega⟩, by omega⟩
    ·skip
     rw [decide_eq_false hb307] at hA306
     refine stg hA306 (op_move rfl (hA306.ev rfl)) rfl rfl rfl rfl (by decide) fun a350 hA351 => ?_; clear hA306 a305
     refine stwg hA351 (op_call rfl en_33 (ev3 (hA351.ev rfl) (evc _ _) (evc _ _)) (In_ok _ _ _ _)) rfl rfl rfl rfl (by decide) ?_
     rintro a352 _ _ ⟨rfl, rfl⟩ hA353; clear hA351 a350
     refine stg hA353 (op_not rfl (hA353.ev rfl)) rfl rfl rfl rfl (by decide) fun a355 hA356 => ?_; clear hA353 a352
     refine st hA356 (op_pick_f rfl (hA356.ev rfl) (hA356.ev rfl)) rfl rfl (by decide) fun a357 hA358 => ?_; clear hA356 a355
     refine wl_nil ?_
     refine then_n ?_
     rcases Bool.eq_false_or_eq_true ((decide (0 ≤ ((((trueF d ws d.samples.length).getD i2 0) - (d.tols.getD k2 0)) + (((wordF ws ((5 * (k2 : Int)) + (i2 : Int)))).tmod ((2 * (d.tols.getD k2 0)) + 1)))) && decide (((((trueF d ws d.samples.length).getD i2 0) - (d.tols.getD k2 0)) + (((wordF ws ((5 * (k2 : Int)) + (i2 : Int)))).tmod ((2 * (d.tols.getD k2 0)) + 1))) ≤ 1000))) with hb359 | hb359
     ·skip
      rw [hb359] at hA358
      have hq360 := hb359; simp only [Bool.and_eq_true, Bool.and_eq_false_iff, decide_eq_true_eq, decide_eq_false_iff_not] at hq360
      refine c_false hA358 rfl ?_
      refine c_skip ?_
      refine then_n ?_
      have hA361 := hA358.as [(14, (Value.int .i64 ((((trueF d ws d.samples.length).getD i2 0) - (d.tols.getD k2 0)) + (((wordF ws ((5 * (k2 : Int)) + (i2 : Int)))).tmod ((2 * (d.tols.getD k2 0)) + 1))))), (13, (Value.int .i64 (i2 : Int))), (12, (bptr b78 0)), (11, (Value.int .i64 (k2 : Int))), (10, (bptr b29 0)), (9, v21), (8, (bptr b9 0)), (4, (bptr b4 0)), (1, wv), (2, (Value.int .u8 (x : Int))), (3, (Value.int .i64 shift))] rfl; clear hA358
      refine c_region ?_
      refine st hA361 (op_field rfl fd_62_1 (hA361.ev rfl)) rfl rfl (by decide) fun a362 hA363 => ?_; clear hA361 a357
      refine st hA363 (op_load1 rfl ty_23 (hA363.ev rfl) (hS112.bk 1 rfl) rfl) rfl rfl (by decide) fun a364 hA365 => ?_; clear hA363 a362
      refine st hA365 (op_move rfl (hA365.ev rfl)) rfl rfl (by decide) fun a366 hA367 => ?_; clear hA365 a364
      refine stw hA367 (op_buildSlice hS112 rfl (pv1 (hA367.ev rfl)) un_23 ty_3 ze_3 (by decide) (cs := [(Value.int .i64 ((((trueF d ws d.samples.length).getD i2 0) - (d.tols.getD k2 0)) + (((wordF ws ((5 * (k2 : Int)) + (i2 : Int)))).tmod ((2 * (d.tols.getD k2 0)) + 1))))]) (bs_3_1_0i _)) rfl rfl (by decide) ?_
      rintro a368 _ w370 ⟨b371, rfl, hS372⟩ hA369; clear hA367 hS112 a366
      refine stw hA369 (op_append hS372 rfl un_23 el_3 (hA369.ev rfl) (hA369.ev rfl) (i := 1) rfl (SlAt.of_blk (hS372.bk 0 rfl) rfl (Nat.le_of_ble_eq_true rfl)) rfl (by simp only [maxLen]; omega) (by omega)) rfl rfl (by decide) ?_
      intro a373 v376 w375 hS377 hA374
      have hS378 := hS377.row_say (i := 1) rfl (n' := ((madeRow d ws (trueF d ws d.samples.length) x shift k2 i2) ++ [(((trueF d ws d.samples.length).getD i2 0) - (d.tols.getD k2 0)) + (((wordF ws ((5 * (k2 : Int)) + (i2 : Int)))).tmod ((2 * (d.tols.getD k2 0)) + 1))]).length) (xs' := (ints ((madeRow d ws (trueF d ws d.samples.length) x shift k2 i2) ++ [(((trueF d ws d.samples.length).getD i2 0) - (d.tols.getD k2 0)) + (((wordF ws ((5 * (k2 : Int)) + (i2 : Int)))).tmod ((2 * (d.tols.getD k2 0)) + 1))]))) (by simp) (by simp [ints]); clear hS377 hA369 hS372 a368
      refine st hA374 (op_field rfl fd_62_1 (hA374.ev rfl)) rfl rfl (by decide) fun a379 hA380 => ?_; clear hA374 a373
      refine sts hA380 (op_store hS378 rfl ty_23 (hA380.ev rfl) (hA380.ev rfl) (i := 2) rfl (vs := [v376]) (isSl_cells (SlAt.isSl (SlAt.of_row (hS378.ok_row 1 rfl)))) rfl (all_c (SlAt.one (SlAt.of_row (hS378.ok_row 1 rfl))) all_n) (Nat.le_of_ble_eq_true rfl)) rfl rfl ?_
      intro _ w381 hS382 hA383; clear hA380
      have hS384 : Sep NoB w w381 [(blk b371 3 [(Value.int .i64 ((((trueF d ws d.samples.length).getD i2 0) - (d.tols.getD k2 0)) + (((wordF ws ((5 * (k2 : Int)) + (i2 : Int)))).tmod ((2 * (d.tols.getD k2 0)) + 1))))]), (row v376 3 1 (((madeRow d ws (trueF d ws d.samples.length) x shift k2 i2) ++ [(((trueF d ws d.samples.length).getD i2 0) - (d.tols.getD k2 0)) + (((wordF ws ((5 * (k2 : Int)) + (i2 : Int)))).tmod ((2 * (d.tols.getD k2 0)) + 1))]).length) (ints ((madeRow d ws (trueF d ws d.samples.length) x shift k2 i2) ++ [(((trueF d ws d.samples.length).getD i2 0) - (d.tols.getD k2 0)) + (((wordF ws ((5 * (k2 : Int)) + (i2 : Int)))).tmod ((2 * (d.tols.getD k2 0)) + 1))]))), (blk b78 62 [(Value.int .i64 (d.tols.getD k2 0)), v376]), (lstR lv_ ((List.range k2).map fun q => madeRow d ws (trueF d ws d.samples.length) x shift q d.samples.length)), (row vb_ 62 2 ((d.tols.take k2).length) (vpairs ((d.tols.take k2).zip lv_))), (blk b29 26 [rl, rs, (Value.int .i64 d.spread), vb_]), (row v21 3 1 ((trueF d ws d.samples.length).length) (ints (trueF d ws d.samples.length))), (blk b9 26 [(Value.slice none 0 0), (Value.slice none 0 0), (Value.int .i64 0), (Value.slice none 0 0)]), (blk b4 26 [rl, rs, (Value.int .i64 d.spread), rb]), (sl wv 1 ws.length (ws.map (Value.int .u16))), (rndR false rl rs rb rlv d)] := hS382; clear hS382 hS378
      refine wl_nil ?_
      refine blk_n ?_
      refine then_n ?_
      have hA385 := hA383.as [(13, (Value.int .i64 (i2 : Int))), (12, (bptr b78 0)), (11, (Value.int .i64 (k2 : Int))), (10, (bptr b29 0)), (9, v21), (8, (bptr b9 0)), (4, (bptr b4 0)), (1, wv), (2, (Value.int .u8 (x : Int))), (3, (Value.int .i64 shift))] rfl; clear hA383
      refine c_region ?_
      refine st hA385 (op_move rfl (hA385.ev rfl)) rfl rfl (by decide) fun a386 hA387 => ?_; clear hA385 a379
      refine st hA387 (op_add rfl (hA387.ev rfl) (evc _ _) (by omega) (by omega)) rfl rfl (by decide) fun a388 hA389 => ?_; clear hA387 a386
      refine st hA389 (op_assign rfl (hA389.ev rfl)) rfl rfl (by decide) fun a390 hA391 => ?_; clear hA389 a388
      refine wl_nil ?_
      have hS392 : Sep NoB w w381 [(row v376 3 1 (((madeRow d ws (trueF d ws d.samples.length) x shift k2 i2) ++ [(((trueF d ws d.samples.length).getD i2 0) - (d.tols.getD k2 0)) + (((wordF ws ((5 * (k2 : Int)) + (i2 : Int)))).tmod ((2 * (d.tols.getD k2 0)) + 1))]).length) (ints ((madeRow d ws (trueF d ws d.samples.length) x shift k2 i2) ++ [(((trueF d ws d.samples.length).getD i2 0) - (d.tols.getD k2 0)) + (((wordF ws ((5 * (k2 : Int)) + (i2 : Int)))).tmod ((2 * (d.tols.getD k2 0)) + 1))]))), (blk b78 62 [(Value.int .i64 (d.tols.getD k2 0)), v376]), (lstR lv_ ((List.range k2).map fun q => madeRow d ws (trueF d ws d.samples.length) x shift q d.samples.length)), (row vb_ 62 2 ((d.tols.take k2).length) (vpairs ((d.tols.take k2).zip lv_))), (blk b29 26 [rl, rs, (Value.int .i64 d.spread), vb_]), (row v21 3 1 ((trueF d ws d.samples.length).length) (ints (trueF d ws d.samples.length))), (blk b9 26 [(Value.slice none 0 0), (Value.slice none 0 0), (Value.int .i64 0), (Value.slice none 0 0)]), (blk b4 26 [rl, rs, (Value.int .i64 d.spread), rb]), (sl wv 1 ws.length (ws.map (Value.int .u16))), (rndR false rl rs rb rlv d)] := hS384.keep [1, 2, 3, 4, 5, 6, 7, 8, 9, 10] (by decide) _ rfl rfl; clear hS384
      exact then_n ⟨i2 + 1, ⟨v376, hA391.as _ rfl, (hS392.row_say (i := 0) rfl (by rw [madeRow_succ]; first | rw [made_no1 (by assumption)] | rw [made_b (by assumption) (by assumption) _ rfl, if_pos (by omega)] | rw [made_b (by assumption) (by assumption) _ rfl, if_neg (by omega)] | rw [made_n (by assumption) (by assumption) _ rfl, if_pos (by omega)] | rw [made_n (by assumption) (by assumption) _ rfl, if_neg (by omega)]) (by rw [madeRow_succ]; first | rw [made_no1 (by assumption)] | rw [made_b (by assumption) (by assumption) _ rfl, if_pos (by omega)] | rw [made_b (by assumption) (by assumption) _ rfl, if_neg (by omega)] | rw [made_n (by assumption) (by assumption) _ rfl, if_pos (by omega)] | rw [made_n (by assumption) (by assumption) _ rfl, if_neg (by omega)])), by omega⟩, by omega⟩
     ·skip
      rw [hb359] at hA358
      have hq393 := hb359; simp only [Bool.and_eq_true, Bool.and_eq_false_iff, decide_eq_true_eq, decide_eq_false_iff_not] at hq393
      refine c_true hA358 rfl ?_
      have hA394 := hA358.as [(13, (Value.int .i64 (i2 : Int))), (12, (bptr b78 0)), (11, (Value.int .i64 (k2 : Int))), (10, (bptr b29 0)), (9, v21), (8, (bptr b9 0)), (4, (bptr b4 0)), (1, wv), (2, (Value.int .u8 (x : Int))), (3, (Value.int .i64 shift))] rfl; clear hA358
      refine c_region ?_
      refine st hA394 (op_assign rfl (evc _ _)) rfl rfl (by decide) fun a395 hA396 => ?_; clear hA394 a357
      refine wl_nil ?_
      refine then_n ?_
      refine c_region ?_
      refine st hA396 (op_field rfl fd_62_1 (hA396.ev rfl)) rfl rfl (by decide) fun a397 hA398 => ?_; clear hA396 a395
      refine st hA398 (op_load1 rfl ty_23 (hA398.ev rfl) (hS112.bk 1 rfl) rfl) rfl rfl (by decide) fun a399 hA400 => ?_; clear hA398 a397
      refine st hA400 (op_move rfl (hA400.ev rfl)) rfl rfl (by decide) fun a401 hA402 => ?_; clear hA400 a399
      refine stw hA402 (op_buildSlice hS112 rfl (pv1 (hA402.ev rfl)) un_23 ty_3 ze_3 (by decide) (cs := [(Value.int .i64 (-1))]) (bs_3_1_0i _)) rfl rfl (by decide) ?_
      rintro a403 _ w405 ⟨b406, rfl, hS407⟩ hA404; clear hA402 hS112 a401
      refine stw hA404 (op_append hS407 rfl un_23 el_3 (hA404.ev rfl) (hA404.ev rfl) (i := 1) rfl (SlAt.of_blk (hS407.bk 0 rfl) rfl (Nat.le_of_ble_eq_true rfl)) rfl (by simp only [maxLen]; omega) (by omega)) rfl rfl (by decide) ?_
      intro a408 v411 w410 hS412 hA409
      have hS413 := hS412.row_say (i := 1) rfl (n' := ((madeRow d ws (trueF d ws d.samples.length) x shift k2 i2) ++ [-1]).length) (xs' := (ints ((madeRow d ws (trueF d ws d.samples.length) x shift k2 i2) ++ [-1]))) (by simp) (by simp [ints]); clear hS412 hA404 hS407 a403
      refine st hA409 (op_field rfl fd_62_1 (hA409.ev rfl)) rfl rfl (by decide) fun a414 hA415 => ?_; clear hA409 a408
      refine sts hA415 (op_store hS413 rfl ty_23 (hA415.ev rfl) (hA415.ev rfl) (i := 2) rfl (vs := [v411]) (isSl_cells (SlAt.isSl (SlAt.of_row (hS413.ok_row 1 rfl)))) rfl (all_c (SlAt.one (SlAt.of_row (hS413.ok_row 1 rfl))) all_n) (Nat.le_of_ble_eq_true rfl)) rfl rfl ?_
      intro _ w416 hS417 hA418; clear hA415
      have hS419 : Sep NoB w w416 [(blk b406 3 [(Value.int .i64 (-1))]), (row v411 3 1 (((madeRow d ws (trueF d ws d.samples.length) x shift k2 i2) ++ [-1]).length) (ints ((madeRow d ws (trueF d ws d.samples.length) x shift k2 i2) ++ [-1]))), (blk b78 62 [(Value.int .i64 (d.tols.getD k2 0)), v411]), (lstR lv_ ((List.range k2).map fun q => madeRow d ws (trueF d ws d.samples.length) x shift q d.samples.length)), (row vb_ 62 2 ((d.tols.take k2).length) (vpairs ((d.tols.take k2).zip lv_))), (blk b29 26 [rl, rs, (Value.int .i64 d.spread), vb_]), (row v21 3 1 ((trueF d ws d.samples.length).length) (ints (trueF d ws d.samples.length))), (blk b9 26 [(Value.slice none 0 0), (Value.slice none 0 0), (Value.int .i64 0), (Value.slice none 0 0)]), (blk b4 26 [rl, rs, (Value.int .i64 d.spread), rb]), (sl wv 1 ws.length (ws.map (Value.int .u16))), (rndR false rl rs rb rlv d)] := hS417; clear hS417 hS413
      refine wl_nil ?_
      refine blk_n ?_
      refine then_n ?_
      have hA420 := hA418.as [(13, (Value.int .i64 (i2 : Int))), (12, (bptr b78 0)), (11, (Value.int .i64 (k2 : Int))), (10, (bptr b29 0)), (9, v21), (8, (bptr b9 0)), (4, (bptr b4 0)), (1, wv), (2, (Value.int .u8 (x : Int))), (3, (Value.int .i64 shift))] rfl; clear hA418
      refine c_region ?_
      refine st hA420 (op_move rfl (hA420.ev rfl)) rfl rfl (by decide) fun a421 hA422 => ?_; clear hA420 a414
      refine st hA422 (op_add rfl (hA422.ev rfl) (evc _ _) (by omega) (by omega)) rfl rfl (by decide) fun a423 hA424 => ?_; clear hA422 a421
      refine st hA424 (op_assign rfl (hA424.ev rfl)) rfl rfl (by decide) fun a425 hA426 => ?_; clear hA424 a423
      refine wl_nil ?_
      have hS427 : Sep NoB w w416 [(row v411 3 1 (((madeRow d ws (trueF d ws d.samples.length) x shift k2 i2) ++ [-1]).length) (ints ((madeRow d ws (trueF d ws d.samples.length) x shift k2 i2) ++ [-1]))), (blk b78 62 [(Value.int .i64 (d.tols.getD k2 0)), v411]), (lstR lv_ ((List.range k2).map fun q => madeRow d ws (trueF d ws d.samples.length) x shift q d.samples.length)), (row vb_ 62 2 ((d.tols.take k2).length) (vpairs ((d.tols.take k2).zip lv_))), (blk b29 26 [rl, rs, (Value.int .i64 d.spread), vb_]), (row v21 3 1 ((trueF d ws d.samples.length).length) (ints (trueF d ws d.samples.length))), (blk b9 26 [(Value.slice none 0 0), (Value.slice none 0 0), (Value.int .i64 0), (Value.slice none 0 0)]), (blk b4 26 [rl, rs, (Value.int .i64 d.spread), rb]), (sl wv 1 ws.length (ws.map (Value.int .u16))), (rndR false rl rs rb rlv d)] := hS419.keep [1, 2, 3, 4, 5, 6, 7, 8, 9, 10] (by decide) _ rfl rfl; clear hS419
      exact then_n ⟨i2 + 1, ⟨v411, hA426.as _ rfl, (hS427.row_say (i := 0) rfl (by rw [madeRow_succ]; first | rw [made_no1 (by assumption)] | rw [made_b (by assumption) (by assumption) _ rfl, if_pos (by omega)] | rw [made_b (by assumption) (by assumption) _ rfl, if_neg (by omega)] | rw [made_n (by assumption) (by assumption) _ rfl, if_pos (by omega)] | rw [made_n (by assumption) (by assumption) _ rfl, if_neg (by omega)]) (by rw [madeRow_succ]; first | rw [made_no1 (by assumption)] | rw [made_b (by assumption) (by assumption) _ rfl, if_pos (by omega)] | rw [made_b (by assumption) (by assumption) _ rfl, if_neg (by omega)] | rw [made_n (by assumption) (by assumption) _ rfl, if_pos (by omega)] | rw [made_n (by assumption) (by assumption) _ rfl, if_neg (by omega)])), by omega⟩, by omega⟩
  ·skip
   rw [decide_eq_false hb103] at hA102
   refine c_false hA102 rfl ?_
   refine c_exit ?_
   refine then_exit ?_
   refine then_exit ?_
   refine blk_hit ?_
   refine then_n ?_
   have hA428 := hA102.as [(12, (bptr b78 0)), (11, (Value.int .i64 (k2 : Int))), (10, (bptr b29 0)), (9, v21), (8, (bptr b9 0)), (4, (bptr b4 0)), (1, wv), (2, (Value.int .u8 (x : Int))), (3, (Value.int .i64 shift))] rfl; clear hA102
   refine c_region ?_
   refine st hA428 (op_field rfl fd_26_3 (hA428.ev rfl)) rfl rfl (by decide) fun a429 hA430 => ?_; clear hA428 a101
   refine st hA430 (op_load1 rfl ty_24 (hA430.ev rfl) (hS92.bk 4 rfl) rfl) rfl rfl (by decide) fun a431 hA432 => ?_; clear hA430 a429
   refine st hA432 (op_loadA rfl ty_62 (hA432.ev rfl) (hS92.bk 1 rfl) (l := [(Value.int .i64 (d.tols.getD k2 0)), vr_]) rfl rfl) rfl rfl (by decide) fun a433 hA434 => ?_; clear hA432 a431
   refine stw hA434 (op_buildSlice hS92 rfl (pv1 (hA434.ev rfl)) un_24 ty_62 ze_62 (by decide) (cs := [(Value.int .i64 (d.tols.getD k2 0)), vr_]) (bs_62_1_0iva _ _)) rfl rfl (by decide) ?_
   rintro a435 _ w437 ⟨b438, rfl, hS439⟩ hA436; clear hA434 hS92 a433
   refine stw hA436 (op_append hS439 rfl un_24 el_62 (hA436.ev rfl) (hA436.ev rfl) (i := 4) rfl (SlAt.of_blk (hS439.bk 0 rfl) rfl (Nat.le_of_ble_eq_true rfl)) (all_c rfl (all_c (SlAt.one (SlAt.of_row (hS439.ok_row 1 rfl))) all_n)) (by simp only [maxLen]; omega) (by omega)) rfl rfl (by decide) ?_
   intro a440 v443 w442 hS444 hA441
   have hS445 := hS444.row_say (i := 4) rfl (n' := ((d.tols.take k2).length + 1)) (xs' := (vpairs (((d.tols.take k2).zip lv_) ++ [(d.tols.getD k2 0, vr_)]))) rfl (by simp [vpairs]); clear hS444 hA436 hS439 a435
   refine st hA441 (op_field rfl fd_26_3 (hA441.ev rfl)) rfl rfl (by decide) fun a446 hA447 => ?_; clear hA441 a440
   refine sts hA447 (op_store hS445 rfl ty_24 (hA447.ev rfl) (hA447.ev rfl) (i := 5) rfl (vs := [v443]) (isSl_cells (SlAt.isSl (SlAt.of_row (hS445.ok_row 4 rfl)))) rfl (all_c (SlAt.one (SlAt.of_row (hS445.ok_row 4 rfl))) all_n) (Nat.le_of_ble_eq_true rfl)) rfl rfl ?_
   intro _ w448 hS449 hA450; clear hA447
   have hS451 : Sep NoB w w448 [(blk b438 62 [(Value.int .i64 (d.tols.getD k2 0)), vr_]), (row vr_ 3 1 ((madeRow d ws (trueF d ws d.samples.length) x shift k2 i2).length) (ints (madeRow d ws (trueF d ws d.samples.length) x shift k2 i2))), (blk b78 62 [(Value.int .i64 (d.tols.getD k2 0)), vr_]), (lstR lv_ ((List.range k2).map fun q => madeRow d ws (trueF d ws d.samples.length) x shift q d.samples.length)), (row v443 62 2 ((d.tols.take k2).length + 1) (vpairs (((d.tols.take k2).zip lv_) ++ [(d.tols.getD k2 0, vr_)]))), (blk b29 26 [rl, rs, (Value.int .i64 d.spread), v443]), (row v21 3 1 ((trueF d ws d.samples.length).length) (ints (trueF d ws d.samples.length))), (blk b9 26 [(Value.slice none 0 0), (Value.slice none 0 0), (Value.int .i64 0), (Value.slice none 0 0)]), (blk b4 26 [rl, rs, (Value.int .i64 d.spread), rb]), (sl wv 1 ws.length (ws.map (Value.int .u16))), (rndR false rl rs rb rlv d)] := hS449; clear hS449 hS445
   refine wl_nil ?_
   refine blk_n ?_
   refine then_n ?_
   have hA452 := hA450.as [(11, (Value.int .i64 (k2 : Int))), (10, (bptr b29 0)), (9, v21), (8, (bptr b9 0)), (4, (bptr b4 0)), (1, wv), (2, (Value.int .u8 (x : Int))), (3, (Value.int .i64 shift))] rfl; clear hA450
   refine c_region ?_
   refine st hA452 (op_move rfl (hA452.ev rfl)) rfl rfl (by decide) fun a453 hA454 => ?_; clear hA452 a446
   refine st hA454 (op_add rfl (hA454.ev rfl) (evc _ _) (by omega) (by omega)) rfl rfl (by decide) fun a455 hA456 => ?_; clear hA454 a453
   refine st hA456 (op_assign rfl (hA456.ev rfl)) rfl rfl (by decide) fun a457 hA458 => ?_; clear hA456 a455
   refine wl_nil ?_
   have hS459 : Sep NoB w w448 [(row vr_ 3 1 ((madeRow d ws (trueF d ws d.samples.length) x shift k2 i2).length) (ints (madeRow d ws (trueF d ws d.samples.length) x shift k2 i2))), (lstR lv_ ((List.range k2).map fun q => madeRow d ws (trueF d ws d.samples.length) x shift q d.samples.length)), (blk b438 62 [(Value.int .i64 (d.tols.getD k2 0)), vr_]), (blk b78 62 [(Value.int .i64 (d.tols.getD k2 0)), vr_]), (row v443 62 2 ((d.tols.take k2).length + 1) (vpairs (((d.tols.take k2).zip lv_) ++ [(d.tols.getD k2 0, vr_)]))), (blk b29 26 [rl, rs, (Value.int .i64 d.spread), v443]), (row v21 3 1 ((trueF d ws d.samples.length).length) (ints (trueF d ws d.samples.length))), (blk b9 26 [(Value.slice none 0 0), (Value.slice none 0 0), (Value.int .i64 0), (Value.slice none 0 0)]), (blk b4 26 [rl, rs, (Value.int .i64 d.spread), rb]), (sl wv 1 ws.length (ws.map (Value.int .u16))), (rndR false rl rs rb rlv d)] := hS451.keep [1, 3, 0, 2, 4, 5, 6, 7, 8, 9, 10] (by decide) _ rfl rfl; clear hS451
   have hS460 := hS459.lst_snoc; clear hS459
   have hS461 : Sep NoB w w448 [(lstR (lv_ ++ [vr_]) (((List.range k2).map fun q => madeRow d ws (trueF d ws d.samples.length) x shift q d.samples.length) ++ [(madeRow d ws (trueF d ws d.samples.length) x shift k2 i2)])), (row v443 62 2 ((d.tols.take k2).length + 1) (vpairs (((d.tols.take k2).zip lv_) ++ [(d.tols.getD k2 0, vr_)]))), (blk b29 26 [rl, rs, (Value.int .i64 d.spread), v443]), (row v21 3 1 ((trueF d ws d.samples.length).length) (ints (trueF d ws d.samples.length))), (blk b9 26 [(Value.slice none 0 0), (Value.slice none 0 0), (Value.int .i64 0), (Value.slice none 0 0)]), (blk b4 26 [rl, rs, (Value.int .i64 d.spread), rb]), (sl wv 1 ws.length (ws.map (Value.int .u16))), (rndR false rl rs rb rlv d)] := hS460.keep [0, 3, 4, 5, 6, 7, 8, 9] (by decide) _ rfl rfl; clear hS460
   exact then_n ⟨k2 + 1, ⟨v443, (lv_ ++ [vr_]), hA458.as _ rfl, ((hS461.row_say (i := 1) rfl (by rw [take_snocL d.tols _ 0 (by omega)]; simp) (by rw [take_snocL d.tols _ 0 (by omega), zip_snoc (by omega)])).lst_say (i := 0) rfl (by rw [map_range_succ, show d.samples.length = i2 by omega])), by omega⟩, by omega⟩
 ·skip
  rw [decide_eq_false hb60] at hA59
  refine c_false hA59 rfl ?_
  refine c_exit ?_
  refine then_exit ?_
  refine then_exit ?_
  refine blk_hit ?_
  refine then_n ?_
  refine c_seq ?_
  have hA462 := hA59.as [(10, (bptr b29 0)), (8, (bptr b9 0))] rfl; clear hA59
  refine c_region ?_
  refine st hA462 (op_loadA rfl ty_26 (hA462.ev rfl) (hS49.bk 2 rfl) (l := [rl, rs, (Value.int .i64 d.spread), vb_]) rfl rfl) rfl rfl (by decide) fun a463 hA464 => ?_; clear hA462 a58
  refine sts hA464 (op_store hS49 rfl ty_26 (hA464.ev rfl) (hA464.ev rfl) (i := 4) rfl (vs := [rl, rs, (Value.int .i64 d.spread), vb_]) rfl rfl (all_c (SlAt.one (rnd_at (hS49.ok 7 _ rfl)).lots) (all_c (SlAt.one (rnd_at (hS49.ok 7 _ rfl)).samples) (all_c rfl (all_c (SlAt.one (SlAt.of_row (hS49.ok_row 1 rfl))) all_n)))) (Nat.le_of_ble_eq_true rfl)) rfl rfl ?_
  intro _ w465 hS466 hA467; clear hA464
  have hS468 : Sep NoB w w465 [(lstR lv_ ((List.range k2).map fun q => madeRow d ws (trueF d ws d.samples.length) x shift q d.samples.length)), (row vb_ 62 2 ((d.tols.take k2).length) (vpairs ((d.tols.take k2).zip lv_))), (blk b29 26 [rl, rs, (Value.int .i64 d.spread), vb_]), (row v21 3 1 ((trueF d ws d.samples.length).length) (ints (trueF d ws d.samples.length))), (blk b9 26 [rl, rs, (Value.int .i64 d.spread), vb_]), (blk b4 26 [rl, rs, (Value.int .i64 d.spread), rb]), (sl wv 1 ws.length (ws.map (Value.int .u16))), (rndR false rl rs rb rlv d)] := hS466; clear hS466 hS49
  refine wl_nil ?_
  refine then_n ?_
  refine c_ret ?_
  refine fin_run hA467 (.inl rfl) (run_results1 hA467 rfl (.cellA rfl ty_26 (hS468.bk 4 rfl) (l := [rl, rs, (Value.int .i64 d.spread), vb_]) rfl rfl)) ?_
  have hS469 : Sep NoB w w465 [(row vb_ 62 2 ((d.tols.take k2).length) (vpairs ((d.tols.take k2).zip lv_))), (lstR lv_ ((List.range k2).map fun q => madeRow d ws (trueF d ws d.samples.length) x shift q d.samples.length))] := hS468.keep [1, 0] (by decide) _ rfl rfl; clear hS468
  obtain rfl : k2 = d.tols.length := by omega
  have ht1 : d.tols.take d.tols.length = d.tols := List.take_length
  rw [ht1] at hS469
  exact ⟨_, _, rfl, hS469⟩

end Go.Proofs.Ytfhmigoddaaljaa
