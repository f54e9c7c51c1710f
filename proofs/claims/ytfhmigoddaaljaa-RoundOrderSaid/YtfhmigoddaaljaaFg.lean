/-
  Walks through the functions of the seat, printed by a program of ours (gowalk), a theorem a function: what the call returns and what it leaves in memory.
-/
import Derived.Test.YtfhmigoddaaljaaFk
import Derived.Test.YtfhmigoddaaljaaPlain
set_option linter.unusedSimpArgs false
set_option linter.unusedVariables false
namespace Go.Proofs.Ytfhmigoddaaljaa
open Go.RowKit Go.Shelf Go.Eng
theorem ready_ok (rl rs rb : Value) (rlv : List Value) (d : RD) (w : World) (hR : RoundAt w rl rs rb rlv d) :
  Calls Try.prog 35 #[(Value.agg #[rl, rs, (Value.int .i64 d.spread), rb])] w (Ret fun v w' => v = .bool (readyB d) ∧ Ext NoB w w') := by
 refine calls_enter Try.func35 rfl fun a0 hA0 => ?_
 replace hA0 : Fr 10 [] [(0, (Value.agg #[rl, rs, (Value.int .i64 d.spread), rb]))] a0 := hA0
 have hS0 : Sep NoB w w [(rndR false rl rs rb rlv d)] := sep_ro ⟨rfl, hR, trivial⟩
 refine c_seq ?_
 refine c_region ?_
 refine stw hA0 (op_box hS0 rfl (hA0.ev rfl) (cs := [rl, rs, (Value.int .i64 d.spread), rb]) rfl) rfl rfl (by decide) ?_
 rintro a1 _ w3 ⟨b4, rfl, hS5⟩ hA2; clear hA0 hS0 a0
 refine st hA2 (op_assign rfl (evc _ _)) rfl rfl (by decide) fun a6 hA7 => ?_; clear hA2 a1
 refine wl_nil ?_
 refine then_n ?_
 refine c_seq ?_
 refine c_region ?_
 refine st hA7 (op_loadA rfl ty_26 (hA7.ev rfl) (hS5.bk 0 rfl) (l := [rl, rs, (Value.int .i64 d.spread), rb]) rfl rfl) rfl rfl (by decide) fun a8 hA9 => ?_; clear hA7 a6
 refine stw hA9 (op_call rfl en_42 (ev1 (hA9.ev rfl)) (Thin_ok rl rs rb rlv d _ (rnd_at (hS5.ok 1 _ rfl)))) rfl rfl (by decide) ?_
 rintro a10 _ w12 ⟨rfl, hE13⟩ hA11; have hS14 := hS5.step hE13; clear hE13 hA9 hS5 a8
 refine st hA11 (op_move rfl (hA11.ev rfl)) rfl rfl (by decide) fun a15 hA16 => ?_; clear hA11 a10
 rcases Bool.eq_false_or_eq_true ((thinB d)) with hb17 | hb17
 ·skip
  rw [hb17] at hA16
  refine stg hA16 (op_loadA rfl ty_26 (hA16.ev rfl) (hS14.bk 0 rfl) (l := [rl, rs, (Value.int .i64 d.spread), rb]) rfl rfl) rfl rfl rfl rfl (by decide) fun a18 hA19 => ?_; clear hA16 a15
  refine stwg hA19 (op_call rfl en_28 (ev1 (hA19.ev rfl)) (Fault_ok rl rs rb rlv d _ (rnd_at (hS14.ok 1 _ rfl)))) rfl rfl rfl rfl (by decide) ?_
  rintro a20 _ w22 ⟨rfl, hE23⟩ hA21; have hS24 := hS14.step hE23; clear hE23 hA19 hS14 a18
  refine stg hA21 (op_eql rfl (hA21.ev rfl) (evc _ _)) rfl rfl rfl rfl (by decide) fun a25 hA26 => ?_; clear hA21 a20
  refine st hA26 (op_pick_t rfl (hA26.ev rfl) (hA26.ev rfl)) rfl rfl (by decide) fun a27 hA28 => ?_; clear hA26 a25
  refine st hA28 (op_assign rfl (hA28.ev rfl)) rfl rfl (by decide) fun a29 hA30 => ?_; clear hA28 a27
  refine wl_nil ?_
  refine then_n ?_
  refine c_ret ?_
  refine fin_run hA30 (.inl rfl) (run_results1 hA30 rfl (.tmp rfl)) ?_
  exact ⟨congrArg Value.bool (by unfold readyB; first | (rw [‹thinB d = false›]; rfl) | (rw [‹thinB d = true›, Bool.true_and])), hS24.ext⟩
 ·skip
  rw [hb17] at hA16
  refine skp hA16 rfl rfl rfl rfl rfl (by decide) fun a31 hA32 => ?_; clear hA16 a15
  refine skp hA32 rfl rfl rfl rfl rfl (by decide) fun a33 hA34 => ?_; clear hA32 a31
  refine skp hA34 rfl rfl rfl rfl rfl (by decide) fun a35 hA36 => ?_; clear hA34 a33
  refine st hA36 (op_pick_f rfl (hA36.ev rfl) (evc _ _)) rfl rfl (by decide) fun a37 hA38 => ?_; clear hA36 a35
  refine st hA38 (op_assign rfl (hA38.ev rfl)) rfl rfl (by decide) fun a39 hA40 => ?_; clear hA38 a37
  refine wl_nil ?_
  refine then_n ?_
  refine c_ret ?_
  refine fin_run hA40 (.inl rfl) (run_results1 hA40 rfl (.tmp rfl)) ?_
  exact ⟨congrArg Value.bool (by unfold readyB; first | (rw [‹thinB d = false›]; rfl) | (rw [‹thinB d = true›, Bool.true_and])), hS14.ext⟩

theorem chosen_ok (rl rs rb : Value) (rlv : List Value) (d : RD) (w : World) (hR : RoundAt w rl rs rb rlv d) (x : Nat) (hnb : d.tols.length ≤ 8) :
  Calls Try.prog 36 #[(Value.agg #[rl, rs, (Value.int .i64 d.spread), rb]), (Value.int .u8 (x : Int))] w (Ret fun v w' => Ext NoB w w' ∧ w'.ownsRow w.heap.size 3 1 v (chosenF d.tols.length x).length (ints (chosenF d.tols.length x))) := by
 refine calls_enter Try.func36 rfl fun a0 hA0 => ?_
 replace hA0 : Fr 25 [] [(0, (Value.agg #[rl, rs, (Value.int .i64 d.spread), rb])), (1, (Value.int .u8 (x : Int)))] a0 := hA0
 have hS0 : Sep NoB w w [(rndR false rl rs rb rlv d)] := sep_ro ⟨rfl, hR, trivial⟩
 refine c_seq ?_
 refine c_region ?_
 refine stw hA0 (op_box hS0 rfl (hA0.ev rfl) (cs := [rl, rs, (Value.int .i64 d.spread), rb]) rfl) rfl rfl (by decide) ?_
 rintro a1 _ w3 ⟨b4, rfl, hS5⟩ hA2; clear hA0 hS0 a0
 refine st hA2 (op_assign rfl (evc _ _)) rfl rfl (by decide) fun a6 hA7 => ?_; clear hA2 a1
 refine wl_nil ?_
 refine then_n ?_
 refine c_seq ?_
 refine c_region ?_
 refine st hA7 (op_assign rfl (evc _ _)) rfl rfl (by decide) fun a8 hA9 => ?_; clear hA7 a6
 have hS10 := hS5.nil_row 3 1; clear hS5
 refine wl_nil ?_
 refine then_n ?_
 refine c_seq ?_
 refine c_seq ?_
 refine c_region ?_
 refine st hA9 (op_assign rfl (evc _ _)) rfl rfl (by decide) fun a11 hA12 => ?_; clear hA9 a8
 refine wl_nil ?_
 refine then_n ?_
 refine c_block ?_
 have hA13 := hA12.as [(6, (Value.int .i64 0)), (5, (Value.slice none 0 0)), (2, (bptr b4 0)), (1, (Value.int .u8 (x : Int)))] rfl; clear hA12
 refine c_loop (G := Nat) (fun (k : Nat) a_ w_ => ∃ v5_ : Value, Fr 25 [] [(6, (Value.int .i64 (k : Int))), (5, v5_), (2, (bptr b4 0)), (1, (Value.int .u8 (x : Int)))] a_ ∧ Sep NoB w w_ [(row v5_ 3 1 ((chosenF k x).length) (ints (chosenF k x))), (blk b4 26 [rl, rs, (Value.int .i64 d.spread), rb]), (rndR false rl rs rb rlv d)] ∧ (k ≤ d.tols.length)) (fun k => d.tols.length - k) 0 ⟨(Value.slice none 0 0), hA13.as _ rfl, hS10, by omega⟩ ?_
 clear hA13 hS10 a11
 rintro k a14 w16 ⟨v5_, hA15, hS17, hk⟩
 have hcl := chosenF_len k x
 refine c_seq ?_
 refine c_seq ?_
 refine c_region ?_
 refine st hA15 (op_move rfl (hA15.ev rfl)) rfl rfl (by decide) fun a18 hA19 => ?_; clear hA15 a14
 refine st hA19 (op_field rfl fd_26_3 (hA19.ev rfl)) rfl rfl (by decide) fun a20 hA21 => ?_; clear hA19 a18
 refine st hA21 (op_load1 rfl ty_24 (hA21.ev rfl) (hS17.bk 1 rfl) rfl) rfl rfl (by decide) fun a22 hA23 => ?_; clear hA21 a20
 refine st hA23 (op_lenS rfl un_24 (hA23.ev rfl) (rnd_at (hS17.ok 2 _ rfl)).labs) rfl rfl (by decide) fun a24 hA25 => ?_; clear hA23 a22
 refine st hA25 (op_lss rfl (hA25.ev rfl) (hA25.ev rfl)) rfl rfl (by decide) fun a26 hA27 => ?_; clear hA25 a24
 refine wl_nil ?_
 refine then_n ?_
 by_cases hb28 : (k : Int) < (d.tols.length : Int)
 ·skip
  rw [decide_eq_true hb28] at hA27
  refine c_true hA27 rfl ?_
  refine c_skip ?_
  refine then_n ?_
  refine c_seq ?_
  refine c_block ?_
  refine c_seq ?_
  refine c_region ?_
  refine st hA27 (op_move rfl (hA27.ev rfl)) rfl rfl (by decide) fun a29 hA30 => ?_; clear hA27 a26
  refine st hA30 (op_move rfl (hA30.ev rfl)) rfl rfl (by decide) fun a31 hA32 => ?_; clear hA30 a29
  refine st hA32 (op_conv un_3 un_71 rfl (hA32.ev rfl) (v := (k : Int)) (wrap_u64 (by omega) (by omega))) rfl rfl (by decide) fun a33 hA34 => ?_; clear hA32 a31
  refine st hA34 (op_shr8 rfl (m := x) (hA34.ev rfl) (k := k) (hA34.ev rfl) (by omega)) rfl rfl (by decide) fun a35 hA36 => ?_; clear hA34 a33
  refine st hA36 (op_rem rfl (hA36.ev rfl) (evc _ _) (by omega)) rfl rfl (by decide) fun a37 hA38 => ?_; clear hA36 a35
  refine st hA38 (op_eql rfl (hA38.ev rfl) (evc _ _)) rfl rfl (by decide) fun a39 hA40 => ?_; clear hA38 a37
  refine wl_nil ?_
  refine then_n ?_
  by_cases hb41 : ((((x >>> k : Nat) : Int)).tmod 2) = 1
  ·skip
   rw [decide_eq_true hb41] at hA40
   refine c_true hA40 rfl ?_
   have hA42 := hA40.as [(6, (Value.int .i64 (k : Int))), (5, v5_), (2, (bptr b4 0)), (1, (Value.int .u8 (x : Int)))] rfl; clear hA40
   refine c_region ?_
   refine st hA42 (op_move rfl (hA42.ev rfl)) rfl rfl (by decide) fun a43 hA44 => ?_; clear hA42 a39
   refine st hA44 (op_move rfl (hA44.ev rfl)) rfl rfl (by decide) fun a45 hA46 => ?_; clear hA44 a43
   refine stw hA46 (op_buildSlice hS17 rfl (pv1 (hA46.ev rfl)) un_23 ty_3 ze_3 (by decide) (cs := [(Value.int .i64 (k : Int))]) (bs_3_1_0i _)) rfl rfl (by decide) ?_
   rintro a47 _ w49 ⟨b50, rfl, hS51⟩ hA48; clear hA46 hS17 a45
   refine stw hA48 (op_append hS51 rfl un_23 el_3 (hA48.ev rfl) (hA48.ev rfl) (i := 1) rfl (SlAt.of_blk (hS51.bk 0 rfl) rfl (Nat.le_of_ble_eq_true rfl)) rfl (by simp only [maxLen]; omega) (by omega)) rfl rfl (by decide) ?_
   intro a52 v55 w54 hS56 hA53
   have hS57 := hS56.row_say (i := 1) rfl (n' := ((chosenF k x) ++ [(k : Int)]).length) (xs' := (ints ((chosenF k x) ++ [(k : Int)]))) (by simp) (by simp [ints]); clear hS56 hA48 hS51 a47
   refine st hA53 (op_assign rfl (hA53.ev rfl)) rfl rfl (by decide) fun a58 hA59 => ?_; clear hA53 a52
   refine wl_nil ?_
   refine blk_n ?_
   refine then_n ?_
   refine c_region ?_
   refine st hA59 (op_move rfl (hA59.ev rfl)) rfl rfl (by decide) fun a60 hA61 => ?_; clear hA59 a58
   refine st hA61 (op_add rfl (hA61.ev rfl) (evc _ _) (by omega) (by omega)) rfl rfl (by decide) fun a62 hA63 => ?_; clear hA61 a60
   refine st hA63 (op_assign rfl (hA63.ev rfl)) rfl rfl (by decide) fun a64 hA65 => ?_; clear hA63 a62
   refine wl_nil ?_
   have hS66 : Sep NoB w w54 [(row v55 3 1 (((chosenF k x) ++ [(k : Int)]).length) (ints ((chosenF k x) ++ [(k : Int)]))), (blk b4 26 [rl, rs, (Value.int .i64 d.spread), rb]), (rndR false rl rs rb rlv d)] := hS57.keep [1, 2, 3] (by decide) _ rfl rfl; clear hS57
   exact then_n ⟨k + 1, ⟨v55, hA65.as _ rfl, (hS66.row_say (i := 0) rfl (by rw [chosenF_yes (by assumption)]) (by rw [chosenF_yes (by assumption)])), by omega⟩, by omega⟩
  ·skip
   rw [decide_eq_false hb41] at hA40
   refine c_false hA40 rfl ?_
   refine c_skip ?_
   refine blk_n ?_
   refine then_n ?_
   have hA67 := hA40.as [(6, (Value.int .i64 (k : Int))), (5, v5_), (2, (bptr b4 0)), (1, (Value.int .u8 (x : Int)))] rfl; clear hA40
   refine c_region ?_
   refine st hA67 (op_move rfl (hA67.ev rfl)) rfl rfl (by decide) fun a68 hA69 => ?_; clear hA67 a39
   refine st hA69 (op_add rfl (hA69.ev rfl) (evc _ _) (by omega) (by omega)) rfl rfl (by decide) fun a70 hA71 => ?_; clear hA69 a68
   refine st hA71 (op_assign rfl (hA71.ev rfl)) rfl rfl (by decide) fun a72 hA73 => ?_; clear hA71 a70
   refine wl_nil ?_
   exact then_n ⟨k + 1, ⟨v5_, hA73.as _ rfl, (hS17.row_say (i := 0) rfl (by rw [chosenF_no (by assumption)]) (by rw [chosenF_no (by assumption)])), by omega⟩, by omega⟩
 ·skip
  rw [decide_eq_false hb28] at hA27
  refine c_false hA27 rfl ?_
  refine c_exit ?_
  refine then_exit ?_
  refine then_exit ?_
  refine blk_hit ?_
  refine then_n ?_
  refine c_seq ?_
  have hA74 := hA27.as [(5, v5_)] rfl; clear hA27
  refine c_region ?_
  refine st hA74 (op_move rfl (hA74.ev rfl)) rfl rfl (by decide) fun a75 hA76 => ?_; clear hA74 a26
  refine st hA76 (op_assign rfl (hA76.ev rfl)) rfl rfl (by decide) fun a77 hA78 => ?_; clear hA76 a75
  refine wl_nil ?_
  refine then_n ?_
  refine c_ret ?_
  refine fin_run hA78 (.inl rfl) (run_results1 hA78 rfl (.tmp rfl)) ?_
  obtain rfl : k = d.tols.length := by omega
  exact ⟨hS17.ext, hS17.row_new (i := 0) rfl⟩

end Go.Proofs.Ytfhmigoddaaljaa
