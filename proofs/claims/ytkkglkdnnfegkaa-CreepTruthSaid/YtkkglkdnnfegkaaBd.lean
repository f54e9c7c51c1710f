/-
  Walks through the functions of the seat, printed by a program of ours (gowalk), a theorem a function: what the call returns and what it leaves in memory.
-/
import Derived.Test.YtkkglkdnnfegkaaBc
import Derived.Test.YtkkglkdnnfegkaaEngb
import Derived.Test.YtkkglkdnnfegkaaEnga
set_option linter.unusedSimpArgs false
set_option linter.unusedVariables false
namespace Go.Proofs.Ytkkglkdnnfegkaa
open Go.RowKit Go.Shelf Go.Eng
set_option maxHeartbeats 1000000 in
theorem own_ok (w : World) (R : List (Int × Int)) (vr : Value) (hm : SlAt w vr 2 R.length (pairs R)) (l : List Int) (xl : Value) (hxl : SlAt w xl 1 l.length (ints l)) (hR3 : R.length ≤ 3) :
  Calls Try.prog 67 #[(Value.agg #[vr]), xl] w (Ret fun v w' => ∃ arr, arr.length = 3 ∧ (areB R l = true → arr = padF l) ∧ v = .tuple #[.agg (ints arr).toArray, .bool (areB R l)] ∧ Ext NoB w w') := by
 refine calls_enter Try.func67 rfl fun a0 hA0 => ?_
 replace hA0 : Fr 56 [] [(0, (Value.agg #[vr])), (1, xl)] a0 := hA0
 have hS0 : Sep NoB w w [(sl xl 1 l.length (ints l)), (sl vr 2 R.length (pairs R))] := sep_ro ⟨rfl, hxl, rfl, hm, trivial⟩
 refine c_seq ?_
 refine c_region ?_
 refine stw hA0 (op_box hS0 rfl (hA0.ev rfl) (cs := [vr]) rfl) rfl rfl (by decide) ?_
 rintro a1 _ w3 ⟨b4, rfl, hS5⟩ hA2; clear hA0 hS0 a0
 refine stw hA2 (op_alloc hS5 rfl ze_104 (cs := (ints ([0, 0, 0]))) rfl) rfl rfl (by decide) ?_
 rintro a6 _ w8 ⟨b9, rfl, hS10⟩ hA7; clear hA2 hS5 a1
 refine st hA7 (op_assign rfl (evc _ _)) rfl rfl (by decide) fun a11 hA12 => ?_; clear hA7 a6
 refine wl_nil ?_
 refine then_n ?_
 refine c_seq ?_
 refine c_seq ?_
 refine c_region ?_
 refine st hA12 (op_move rfl (hA12.ev rfl)) rfl rfl (by decide) fun a13 hA14 => ?_; clear hA12 a11
 refine st hA14 (op_lenS rfl un_40 (hA14.ev rfl) (hS10.sk 2 rfl)) rfl rfl (by decide) fun a15 hA16 => ?_; clear hA14 a13
 refine st hA16 (op_field rfl fd_33_0 (hA16.ev rfl)) rfl rfl (by decide) fun a17 hA18 => ?_; clear hA16 a15
 refine st hA18 (op_load1 rfl ty_28 (hA18.ev rfl) (hS10.bk 1 rfl) rfl) rfl rfl (by decide) fun a19 hA20 => ?_; clear hA18 a17
 refine st hA20 (op_lenS rfl un_28 (hA20.ev rfl) (hS10.sk 3 rfl)) rfl rfl (by decide) fun a21 hA22 => ?_; clear hA20 a19
 refine st hA22 (op_neq rfl (hA22.ev rfl) (hA22.ev rfl)) rfl rfl (by decide) fun a23 hA24 => ?_; clear hA22 a21
 refine wl_nil ?_
 refine then_n ?_
 by_cases hb25 : (l.length : Int) = (R.length : Int)
 ·skip
  rw [decide_eq_true hb25] at hA24
  refine c_false hA24 rfl ?_
  refine c_skip ?_
  refine then_n ?_
  refine c_seq ?_
  refine c_seq ?_
  have hA26 := hA24.as [(4, (bptr b9 0)), (2, (bptr b4 0)), (1, xl)] rfl; clear hA24
  refine c_region ?_
  refine st hA26 (op_move rfl (hA26.ev rfl)) rfl rfl (by decide) fun a27 hA28 => ?_; clear hA26 a23
  refine st hA28 (op_lenS rfl un_40 (hA28.ev rfl) (hS10.sk 2 rfl)) rfl rfl (by decide) fun a29 hA30 => ?_; clear hA28 a27
  refine st hA30 (op_move rfl (evc _ _)) rfl rfl (by decide) fun a31 hA32 => ?_; clear hA30 a29
  refine wl_nil ?_
  refine then_n ?_
  refine c_block ?_
  have hA33 := hA32.as [(17, (Value.int .i64 0)), (16, (Value.int .i64 (l.length : Int))), (15, xl), (4, (bptr b9 0)), (2, (bptr b4 0)), (1, xl)] rfl; clear hA32
  refine c_loop (G := Nat) (fun (k : Nat) a_ w_ => Fr 56 [] [(17, (Value.int .i64 (k : Int))), (16, (Value.int .i64 (l.length : Int))), (15, xl), (4, (bptr b9 0)), (2, (bptr b4 0)), (1, xl)] a_ ∧ Sep NoB w w_ [(blk b9 104 (ints (padU l k))), (blk b4 33 [vr]), (sl xl 1 l.length (ints l)), (sl vr 2 R.length (pairs R))] ∧ (k ≤ l.length) ∧ (l.length = R.length) ∧ (∀ i, i < k → rateAt R l i = true)) (fun k => l.length - k) 0 ⟨hA33.as _ rfl, hS10, by omega, by omega, (fun _ h => absurd h (Nat.not_lt_zero _))⟩ ?_
  clear hA33 hS10 a31
  rintro k a34 w36 ⟨hA35, hS37, hkk, hln, hra_⟩
  refine c_seq ?_
  refine c_region ?_
  refine st hA35 (op_lss rfl (hA35.ev rfl) (hA35.ev rfl)) rfl rfl (by decide) fun a38 hA39 => ?_; clear hA35 a34
  refine wl_nil ?_
  refine then_n ?_
  refine c_seq ?_
  by_cases hb40 : (k : Int) < (l.length : Int)
  ·skip
   rw [decide_eq_true hb40] at hA39
   refine c_true hA39 rfl ?_
   refine c_skip ?_
   refine then_n ?_
   refine c_seq ?_
   refine c_block ?_
   refine c_seq ?_
   refine c_region ?_
   refine st hA39 (op_move rfl (hA39.ev rfl)) rfl rfl (by decide) fun a41 hA42 => ?_; clear hA39 a38
   refine st hA42 (op_indexS rfl un_40 ty_3 (hA42.ev rfl) (i := k) (hA42.ev rfl) (hS37.sk 2 rfl) (by decide) (by omega)) rfl rfl (by decide) fun a43 hA44 => ?_; clear hA42 a41
   refine st hA44 (op_load1E rfl ty_3 (hA44.ev rfl) (hS37.sk 2 rfl) (ints_at (by omega))) rfl rfl (by decide) fun a45 hA46 => ?_; clear hA44 a43
   refine st hA46 (op_assign rfl (hA46.ev rfl)) rfl rfl (by decide) fun a47 hA48 => ?_; clear hA46 a45
   refine st hA48 (op_assign rfl (hA48.ev rfl)) rfl rfl (by decide) fun a49 hA50 => ?_; clear hA48 a47
   refine wl_nil ?_
   refine then_n ?_
   refine c_seq ?_
   refine c_seq ?_
   have hA51 := hA50.as [(7, (Value.int .i64 (l.getD k 0))), (6, (Value.int .i64 (k : Int))), (17, (Value.int .i64 (k : Int))), (16, (Value.int .i64 (l.length : Int))), (15, xl), (4, (bptr b9 0)), (2, (bptr b4 0)), (1, xl)] rfl; clear hA50
   rcases Bool.eq_false_or_eq_true ((decide (((R.getD k (0, 0)).1) ≤ (l.getD k 0)) && decide ((l.getD k 0) ≤ ((R.getD k (0, 0)).2)))) with hb53 | hb53
   ·skip
    have hq54 := hb53; simp only [Bool.and_eq_true, Bool.and_eq_false_iff, decide_eq_true_eq, decide_eq_false_iff_not] at hq54
    have hA55 := hA51.as [(7, (Value.int .i64 (l.getD k 0))), (6, (Value.int .i64 (k : Int))), (17, (Value.int .i64 (k : Int))), (16, (Value.int .i64 (l.length : Int))), (15, xl), (4, (bptr b9 0)), (2, (bptr b4 0)), (1, xl)] rfl; clear hA51
    by_cases hb57 : 0 < (k : Int)
    ·skip
     have hA58 := hA55.as [(7, (Value.int .i64 (l.getD k 0))), (6, (Value.int .i64 (k : Int))), (17, (Value.int .i64 (k : Int))), (16, (Value.int .i64 (l.length : Int))), (15, xl), (4, (bptr b9 0)), (2, (bptr b4 0)), (1, xl)] rfl; clear hA55
     refine c_drawn mixed hA58 hS37 25 [[], [], [1], [], [2, 3], [4], [5], [], [7], [], [8, 9], [10], [11], [0, 6, 12], [13], [14], [15], [15, 16], [15, 17], [18], [18], [18], [18, 21], [18, 20, 22], [18, 23]] [(Yd.val (Value.int .i64 (l.getD k 0))), (Yd.val (bptr b4 0)), (Yd.val vr), (Yd.val (Value.int .i64 (k : Int))), (Yd.val (eptr vr (k * 2))), (Yd.val (eptr vr (k * 2 + 0))), (Yd.val (Value.int .i64 ((R.getD k (0, 0)).1))), (Yd.val (bptr b4 0)), (Yd.val vr), (Yd.val (Value.int .i64 (k : Int))), (Yd.val (eptr vr (k * 2))), (Yd.val (eptr vr (k * 2 + 1))), (Yd.val (Value.int .i64 ((R.getD k (0, 0)).2))), (Yd.val (Value.bool true)), (Yd.val (Value.bool (!true))), (Yd.val (Value.bool (!true))), (Yd.val (Value.int .i64 (k : Int))), (Yd.val (Value.bool true)), (Yd.val (Value.bool true)), (Yd.val (Value.int .i64 (l.getD k 0))), (Yd.val xl), (Yd.val (Value.int .i64 (k : Int))), (Yd.val (Value.int .i64 ((k : Int) - 1))), (Yd.val (eptr xl (((k : Int) - 1).toNat * 1))), (Yd.val (Value.int .i64 (l.getD (((k : Int) - 1).toNat) 0)))] (by decide +kernel) rfl rfl ?_ ?_
     ·skip
      refine ⟨fun a w hA hS hd => by exact opG_of rfl (dv (op_move rfl (hA.ev rfl)) hS rfl), ?_⟩
      refine ⟨fun a w hA hS hd => by exact opG_of rfl (dv (op_field rfl fd_33_0 (hA.ev rfl)) hS rfl), ?_⟩
      refine ⟨fun a w hA hS hd => by have e1 := has_ev (hd 1 (by decide)) rfl (fun _ h => h); exact opG_of rfl (dv (op_load1 rfl ty_28 (tmp_ev e1) (hS.bk 1 rfl) rfl) hS rfl), ?_⟩
      refine ⟨fun a w hA hS hd => by exact opG_of rfl (dv (op_move rfl (hA.ev rfl)) hS rfl), ?_⟩
      refine ⟨fun a w hA hS hd => by have e2 := has_ev (hd 2 (by decide)) rfl (fun _ h => h); have e3 := has_ev (hd 3 (by decide)) rfl (fun _ h => h); exact opG_of rfl (dv (op_indexS rfl un_28 ty_42 (tmp_ev e2) (i := k) (tmp_ev e3) (hS.sk 3 rfl) (by decide) (by omega)) hS rfl), ?_⟩
      refine ⟨fun a w hA hS hd => by have e4 := has_ev (hd 4 (by decide)) rfl (fun _ h => h); exact opG_of rfl (dv (op_fieldS rfl fd_42_0 (tmp_ev e4) (hS.sk 3 rfl) (by rw [((hS.sk 3 rfl)).1]; omega)) hS rfl), ?_⟩
      refine ⟨fun a w hA hS hd => by have e5 := has_ev (hd 5 (by decide)) rfl (fun _ h => h); exact opG_of rfl (dv (op_load1E rfl ty_3 (tmp_ev e5) (hS.sk 3 rfl) (pairs_at0 (by omega))) hS rfl), ?_⟩
      refine ⟨fun a w hA hS hd => by exact opG_of rfl (dv (op_field rfl fd_33_0 (hA.ev rfl)) hS rfl), ?_⟩
      refine ⟨fun a w hA hS hd => by have e7 := has_ev (hd 7 (by decide)) rfl (fun _ h => h); exact opG_of rfl (dv (op_load1 rfl ty_28 (tmp_ev e7) (hS.bk 1 rfl) rfl) hS rfl), ?_⟩
      refine ⟨fun a w hA hS hd => by exact opG_of rfl (dv (op_move rfl (hA.ev rfl)) hS rfl), ?_⟩
      refine ⟨fun a w hA hS hd => by have e8 := has_ev (hd 8 (by decide)) rfl (fun _ h => h); have e9 := has_ev (hd 9 (by decide)) rfl (fun _ h => h); exact opG_of rfl (dv (op_indexS rfl un_28 ty_42 (tmp_ev e8) (i := k) (tmp_ev e9) (hS.sk 3 rfl) (by decide) (by omega)) hS rfl), ?_⟩
      refine ⟨fun a w hA hS hd => by have e10 := has_ev (hd 10 (by decide)) rfl (fun _ h => h); exact opG_of rfl (dv (op_fieldS rfl fd_42_1 (tmp_ev e10) (hS.sk 3 rfl) (by rw [((hS.sk 3 rfl)).1]; omega)) hS rfl), ?_⟩
      refine ⟨fun a w hA hS hd => by have e11 := has_ev (hd 11 (by decide)) rfl (fun _ h => h); exact opG_of rfl (dv (op_load1E rfl ty_3 (tmp_ev e11) (hS.sk 3 rfl) (pairs_at1 (by omega))) hS rfl), ?_⟩
      refine ⟨fun a w hA hS hd => by have e0 := has_ev (hd 0 (by decide)) rfl (fun _ h => h); have e6 := has_ev (hd 6 (by decide)) rfl (fun _ h => h); have e12 := has_ev (hd 12 (by decide)) rfl (fun _ h => h); exact opG_of rfl (dv (op_call rfl en_56 (ev3 (tmp_ev e0) (tmp_ev e6) (tmp_ev e12)) (within_ok _ _ _ _)) hS (by show Value.bool _ = _; simp only [hb53, decide_true, decide_false, Bool.not_true, Bool.not_false])), ?_⟩
      refine ⟨fun a w hA hS hd => by have e13 := has_ev (hd 13 (by decide)) rfl (fun _ h => h); exact opG_of rfl (dv (op_not rfl (tmp_ev e13)) hS rfl), ?_⟩
      refine ⟨fun a w hA hS hd => by have e14 := has_ev (hd 14 (by decide)) rfl (fun _ h => h); exact opG_of rfl (dv (op_move rfl (tmp_ev e14)) hS rfl), ?_⟩
      refine ⟨fun a w hA hS hd => by have e15 := has_ev (hd 15 (by decide)) rfl (fun _ h => h); exact opG_yes rfl rfl e15 (dv (op_move rfl (hA.ev rfl)) hS rfl), ?_⟩
      refine ⟨fun a w hA hS hd => by have e15 := has_ev (hd 15 (by decide)) rfl (fun _ h => h); have e16 := has_ev (hd 16 (by decide)) rfl (fun _ h => h); exact opG_yes rfl rfl e15 (dv (op_gtr rfl (tmp_ev e16) (evc _ _)) hS (by show Value.bool _ = _; simp only [decide_eq_true hb57, decide_true, decide_false, Bool.not_true, Bool.not_false])), ?_⟩
      refine ⟨fun a w hA hS hd => by have e15 := has_ev (hd 15 (by decide)) rfl (fun _ h => h); have e17 := has_ev (hd 17 (by decide)) rfl (fun _ h => h); exact opG_yes rfl rfl e15 (dv (op_move rfl (tmp_ev e17)) hS rfl), ?_⟩
      refine ⟨fun a w hA hS hd => by have e18 := has_ev (hd 18 (by decide)) rfl (fun _ h => h); exact opG_yes rfl rfl e18 (dv (op_move rfl (hA.ev rfl)) hS rfl), ?_⟩
      refine ⟨fun a w hA hS hd => by have e18 := has_ev (hd 18 (by decide)) rfl (fun _ h => h); exact opG_yes rfl rfl e18 (dv (op_move rfl (hA.ev rfl)) hS rfl), ?_⟩
      refine ⟨fun a w hA hS hd => by have e18 := has_ev (hd 18 (by decide)) rfl (fun _ h => h); exact opG_yes rfl rfl e18 (dv (op_move rfl (hA.ev rfl)) hS rfl), ?_⟩
      refine ⟨fun a w hA hS hd => by have e18 := has_ev (hd 18 (by decide)) rfl (fun _ h => h); have e21 := has_ev (hd 21 (by decide)) rfl (fun _ h => h); exact opG_yes rfl rfl e18 (dv (op_sub rfl (tmp_ev e21) (evc _ _) (by omega) (by omega)) hS rfl), ?_⟩
      refine ⟨fun a w hA hS hd => by have e18 := has_ev (hd 18 (by decide)) rfl (fun _ h => h); have e20 := has_ev (hd 20 (by decide)) rfl (fun _ h => h); have e22 := has_ev (hd 22 (by decide)) rfl (fun _ h => h); exact opG_yes rfl rfl e18 (dv (op_indexS rfl un_40 ty_3 (tmp_ev e20) (i := ((k : Int) - 1).toNat) ((tmp_ev e22).trans (int_nat (by omega))) (hS.sk 2 rfl) (by decide) (by omega)) hS rfl), ?_⟩
      refine ⟨fun a w hA hS hd => by have e18 := has_ev (hd 18 (by decide)) rfl (fun _ h => h); have e23 := has_ev (hd 23 (by decide)) rfl (fun _ h => h); exact opG_yes rfl rfl e18 (dv (op_load1E rfl ty_3 (tmp_ev e23) (hS.sk 2 rfl) (ints_at (by omega))) hS rfl), ?_⟩
      trivial
     intro a60 w61 hA62 hS63 hH64; clear hA58 hS37
     have hA65 := hA62.add (has_ev (hH64 15 (by decide)) rfl (fun _ h => h)); clear hA62
     have hA66 := hA65.add (has_ev (hH64 18 (by decide)) rfl (fun _ h => h)); clear hA65
     have hA67 := hA66.add (has_ev (hH64 19 (by decide)) rfl (fun _ h => h)); clear hA66
     have hA68 := hA67.add (has_ev (hH64 24 (by decide)) rfl (fun _ h => h)); clear hA67
     clear hH64
     refine stg hA68 (op_lss rfl (hA68.ev rfl) (hA68.ev rfl)) rfl rfl rfl rfl (by decide) fun a69 hA70 => ?_; clear hA68 a60
     refine stg hA70 (op_pick_t rfl (hA70.ev rfl) (hA70.ev rfl)) rfl rfl rfl rfl (by decide) fun a71 hA72 => ?_; clear hA70 a69
     refine st hA72 (op_pick_f rfl (hA72.ev rfl) (hA72.ev rfl)) rfl rfl (by decide) fun a73 hA74 => ?_; clear hA72 a71
     refine wl_nil ?_
     refine then_n ?_
     by_cases hb75 : (l.getD k 0) < (l.getD (((k : Int) - 1).toNat) 0)
     ·skip
      rw [decide_eq_true hb75] at hA74
      refine c_true hA74 rfl ?_
      refine c_seq ?_
      have hA76 := hA74.as [(4, (bptr b9 0))] rfl; clear hA74
      refine c_region ?_
      refine st hA76 (op_loadA rfl ty_104 (hA76.ev rfl) (hS63.bk 0 rfl) (l := (ints (padU l k))) (drop_take_all _ _ (by rw [ints, List.length_map, padU_len])) (by rw [ints, List.length_map, padU_len])) rfl rfl (by decide) fun a77 hA78 => ?_; clear hA76 a73
      refine sts hA78 (op_store hS63 rfl ty_104 (hA78.ev rfl) (hA78.ev rfl) (i := 0) rfl (vs := (ints (padU l k))) rfl (by rw [ints, List.length_map, padU_len]) (ints_one _) (by rw [ints, List.length_map, padU_len]; omega)) rfl rfl ?_
      intro _ w79 hS80 hA82; have hS81 := hS80.blk_say (i := 0) rfl (cs' := (ints (padU l k))) (setFrom_all _ _ (by rfl)); clear hS80 hA78 hS63
      refine st hA82 (op_assign rfl (evc _ _)) rfl rfl (by decide) fun a83 hA84 => ?_; clear hA82 a77
      refine wl_nil ?_
      refine then_n ?_
      refine c_ret ?_
      refine then_ret ?_
      refine blk_ret ?_
      refine then_ret ?_
      refine then_ret ?_
      refine blk_ret ?_
      refine then_ret ?_
      refine fin_run hA84 (.inl rfl) (run_results2 hA84 rfl (.cellA rfl ty_104 (hS81.bk 0 rfl) (l := (ints (padU l k))) (drop_take_all _ _ (by rw [ints, List.length_map, padU_len])) (by rw [ints, List.length_map, padU_len])) (.tmp rfl)) ?_
      have hz : areB R l = false := by first | exact areB_len (by omega) | exact areB_no (k := k) (by omega) (rateAt_n1 (by omega)) | exact areB_no (k := k) (by omega) (rateAt_n2 (by omega) (by assumption))
      exact ⟨(padU l k), (by first | rfl | exact padU_len _ _), (fun h => absurd (hz.symm.trans h) (by decide)), by rw [hz], hS81.ext⟩
     ·skip
      rw [decide_eq_false hb75] at hA74
      refine c_false hA74 rfl ?_
      refine c_skip ?_
      refine then_n ?_
      have hA85 := hA74.as [(7, (Value.int .i64 (l.getD k 0))), (6, (Value.int .i64 (k : Int))), (17, (Value.int .i64 (k : Int))), (16, (Value.int .i64 (l.length : Int))), (15, xl), (4, (bptr b9 0)), (2, (bptr b4 0)), (1, xl)] rfl; clear hA74
      refine c_region ?_
      refine st hA85 (op_move rfl (hA85.ev rfl)) rfl rfl (by decide) fun a86 hA87 => ?_; clear hA85 a73
      refine st hA87 (op_move rfl (hA87.ev rfl)) rfl rfl (by decide) fun a88 hA89 => ?_; clear hA87 a86
      refine st hA89 (op_indexA rfl un_104 ty_3 (hA89.ev rfl) (i := k) (hA89.ev rfl) (by omega)) rfl rfl (by decide) fun a90 hA91 => ?_; clear hA89 a88
      refine sts hA91 (op_store hS63 rfl ty_3 (hA91.ev rfl) (hA91.ev rfl) (i := 0) rfl (vs := [(Value.int .i64 (l.getD k 0))]) rfl rfl rfl (by rw [ints, List.length_map, padU_len]; omega)) rfl rfl ?_
      intro _ w92 hS93 hA95; have hS94 := hS93.blk_say (i := 0) rfl (cs' := (ints (padU l (k + 1)))) (by rw [setFrom_one, Nat.mul_one, Nat.zero_add, ints_set, padU_succ (by omega)]); clear hS93 hA91 hS63
      refine wl_nil ?_
      refine blk_n ?_
      refine then_n ?_
      refine c_region ?_
      refine st hA95 (op_add rfl (hA95.ev rfl) (evc _ _) (by omega) (by omega)) rfl rfl (by decide) fun a96 hA97 => ?_; clear hA95 a90
      refine st hA97 (op_move rfl (hA97.ev rfl)) rfl rfl (by decide) fun a98 hA99 => ?_; clear hA97 a96
      refine wl_nil ?_
      exact then_n ⟨k + 1, ⟨hA99.as _ rfl, hS94, by omega, hln, (fun i hi => by rcases Nat.lt_succ_iff_lt_or_eq.1 hi with h | h; exact hra_ i h; subst h; exact rateAt_y1 (by omega) (by first | exact .inr (.inr (by assumption)) | exact .inr (.inl (by omega))))⟩, by omega⟩
    ·skip
     have hA100 := hA55.as [(7, (Value.int .i64 (l.getD k 0))), (6, (Value.int .i64 (k : Int))), (17, (Value.int .i64 (k : Int))), (16, (Value.int .i64 (l.length : Int))), (15, xl), (4, (bptr b9 0)), (2, (bptr b4 0)), (1, xl)] rfl; clear hA55
     refine c_drawn mixed hA100 hS37 25 [[], [], [1], [], [2, 3], [4], [5], [], [7], [], [8, 9], [10], [11], [0, 6, 12], [13], [14], [15], [15, 16], [15, 17], [18], [18], [18], [18, 21], [18, 20, 22], [18, 23]] [(Yd.val (Value.int .i64 (l.getD k 0))), (Yd.val (bptr b4 0)), (Yd.val vr), (Yd.val (Value.int .i64 (k : Int))), (Yd.val (eptr vr (k * 2))), (Yd.val (eptr vr (k * 2 + 0))), (Yd.val (Value.int .i64 ((R.getD k (0, 0)).1))), (Yd.val (bptr b4 0)), (Yd.val vr), (Yd.val (Value.int .i64 (k : Int))), (Yd.val (eptr vr (k * 2))), (Yd.val (eptr vr (k * 2 + 1))), (Yd.val (Value.int .i64 ((R.getD k (0, 0)).2))), (Yd.val (Value.bool true)), (Yd.val (Value.bool (!true))), (Yd.val (Value.bool (!true))), (Yd.val (Value.int .i64 (k : Int))), (Yd.val (Value.bool false)), (Yd.val (Value.bool false)), (Yd.val undef), (Yd.val undef), (Yd.val undef), (Yd.val undef), (Yd.val undef), (Yd.val undef)] (by decide +kernel) rfl rfl ?_ ?_
     ·skip
      refine ⟨fun a w hA hS hd => by exact opG_of rfl (dv (op_move rfl (hA.ev rfl)) hS rfl), ?_⟩
      refine ⟨fun a w hA hS hd => by exact opG_of rfl (dv (op_field rfl fd_33_0 (hA.ev rfl)) hS rfl), ?_⟩
      refine ⟨fun a w hA hS hd => by have e1 := has_ev (hd 1 (by decide)) rfl (fun _ h => h); exact opG_of rfl (dv (op_load1 rfl ty_28 (tmp_ev e1) (hS.bk 1 rfl) rfl) hS rfl), ?_⟩
      refine ⟨fun a w hA hS hd => by exact opG_of rfl (dv (op_move rfl (hA.ev rfl)) hS rfl), ?_⟩
      refine ⟨fun a w hA hS hd => by have e2 := has_ev (hd 2 (by decide)) rfl (fun _ h => h); have e3 := has_ev (hd 3 (by decide)) rfl (fun _ h => h); exact opG_of rfl (dv (op_indexS rfl un_28 ty_42 (tmp_ev e2) (i := k) (tmp_ev e3) (hS.sk 3 rfl) (by decide) (by omega)) hS rfl), ?_⟩
      refine ⟨fun a w hA hS hd => by have e4 := has_ev (hd 4 (by decide)) rfl (fun _ h => h); exact opG_of rfl (dv (op_fieldS rfl fd_42_0 (tmp_ev e4) (hS.sk 3 rfl) (by rw [((hS.sk 3 rfl)).1]; omega)) hS rfl), ?_⟩
      refine ⟨fun a w hA hS hd => by have e5 := has_ev (hd 5 (by decide)) rfl (fun _ h => h); exact opG_of rfl (dv (op_load1E rfl ty_3 (tmp_ev e5) (hS.sk 3 rfl) (pairs_at0 (by omega))) hS rfl), ?_⟩
      refine ⟨fun a w hA hS hd => by exact opG_of rfl (dv (op_field rfl fd_33_0 (hA.ev rfl)) hS rfl), ?_⟩
      refine ⟨fun a w hA hS hd => by have e7 := has_ev (hd 7 (by decide)) rfl (fun _ h => h); exact opG_of rfl (dv (op_load1 rfl ty_28 (tmp_ev e7) (hS.bk 1 rfl) rfl) hS rfl), ?_⟩
      refine ⟨fun a w hA hS hd => by exact opG_of rfl (dv (op_move rfl (hA.ev rfl)) hS rfl), ?_⟩
      refine ⟨fun a w hA hS hd => by have e8 := has_ev (hd 8 (by decide)) rfl (fun _ h => h); have e9 := has_ev (hd 9 (by decide)) rfl (fun _ h => h); exact opG_of rfl (dv (op_indexS rfl un_28 ty_42 (tmp_ev e8) (i := k) (tmp_ev e9) (hS.sk 3 rfl) (by decide) (by omega)) hS rfl), ?_⟩
      refine ⟨fun a w hA hS hd => by have e10 := has_ev (hd 10 (by decide)) rfl (fun _ h => h); exact opG_of rfl (dv (op_fieldS rfl fd_42_1 (tmp_ev e10) (hS.sk 3 rfl) (by rw [((hS.sk 3 rfl)).1]; omega)) hS rfl), ?_⟩
      refine ⟨fun a w hA hS hd => by have e11 := has_ev (hd 11 (by decide)) rfl (fun _ h => h); exact opG_of rfl (dv (op_load1E rfl ty_3 (tmp_ev e11) (hS.sk 3 rfl) (pairs_at1 (by omega))) hS rfl), ?_⟩
      refine ⟨fun a w hA hS hd => by have e0 := has_ev (hd 0 (by decide)) rfl (fun _ h => h); have e6 := has_ev (hd 6 (by decide)) rfl (fun _ h => h); have e12 := has_ev (hd 12 (by decide)) rfl (fun _ h => h); exact opG_of rfl (dv (op_call rfl en_56 (ev3 (tmp_ev e0) (tmp_ev e6) (tmp_ev e12)) (within_ok _ _ _ _)) hS (by show Value.bool _ = _; simp only [hb53, decide_true, decide_false, Bool.not_true, Bool.not_false])), ?_⟩
      refine ⟨fun a w hA hS hd => by have e13 := has_ev (hd 13 (by decide)) rfl (fun _ h => h); exact opG_of rfl (dv (op_not rfl (tmp_ev e13)) hS rfl), ?_⟩
      refine ⟨fun a w hA hS hd => by have e14 := has_ev (hd 14 (by decide)) rfl (fun _ h => h); exact opG_of rfl (dv (op_move rfl (tmp_ev e14)) hS rfl), ?_⟩
      refine ⟨fun a w hA hS hd => by have e15 := has_ev (hd 15 (by decide)) rfl (fun _ h => h); exact opG_yes rfl rfl e15 (dv (op_move rfl (hA.ev rfl)) hS rfl), ?_⟩
      refine ⟨fun a w hA hS hd => by have e15 := has_ev (hd 15 (by decide)) rfl (fun _ h => h); have e16 := has_ev (hd 16 (by decide)) rfl (fun _ h => h); exact opG_yes rfl rfl e15 (dv (op_gtr rfl (tmp_ev e16) (evc _ _)) hS (by show Value.bool _ = _; simp only [decide_eq_false hb57, decide_true, decide_false, Bool.not_true, Bool.not_false])), ?_⟩
      refine ⟨fun a w hA hS hd => by have e15 := has_ev (hd 15 (by decide)) rfl (fun _ h => h); have e17 := has_ev (hd 17 (by decide)) rfl (fun _ h => h); exact opG_yes rfl rfl e15 (dv (op_move rfl (tmp_ev e17)) hS rfl), ?_⟩
      refine ⟨fun a w hA hS hd => by have e18 := has_ev (hd 18 (by decide)) rfl (fun _ h => h); exact opG_no rfl rfl e18 rfl (dskip hS rfl), ?_⟩
      refine ⟨fun a w hA hS hd => by have e18 := has_ev (hd 18 (by decide)) rfl (fun _ h => h); exact opG_no rfl rfl e18 rfl (dskip hS rfl), ?_⟩
      refine ⟨fun a w hA hS hd => by have e18 := has_ev (hd 18 (by decide)) rfl (fun _ h => h); exact opG_no rfl rfl e18 rfl (dskip hS rfl), ?_⟩
      refine ⟨fun a w hA hS hd => by have e18 := has_ev (hd 18 (by decide)) rfl (fun _ h => h); have e21 := has_ev (hd 21 (by decide)) rfl (fun _ h => h); exact opG_no rfl rfl e18 rfl (dskip hS rfl), ?_⟩
      refine ⟨fun a w hA hS hd => by have e18 := has_ev (hd 18 (by decide)) rfl (fun _ h => h); have e20 := has_ev (hd 20 (by decide)) rfl (fun _ h => h); have e22 := has_ev (hd 22 (by decide)) rfl (fun _ h => h); exact opG_no rfl rfl e18 rfl (dskip hS rfl), ?_⟩
      refine ⟨fun a w hA hS hd => by have e18 := has_ev (hd 18 (by decide)) rfl (fun _ h => h); have e23 := has_ev (hd 23 (by decide)) rfl (fun _ h => h); exact opG_no rfl rfl e18 rfl (dskip hS rfl), ?_⟩
      trivial
     intro a102 w103 hA104 hS105 hH106; clear hA100 hS37
     have hA107 := hA104.add (has_ev (hH106 15 (by decide)) rfl (fun _ h => h)); clear hA104
     have hA108 := hA107.add (has_ev (hH106 18 (by decide)) rfl (fun _ h => h)); clear hA107
     have hA109 := hA108.add (has_ev (hH106 19 (by decide)) rfl (fun _ h => h)); clear hA108
     have hA110 := hA109.add (has_ev (hH106 24 (by decide)) rfl (fun _ h => h)); clear hA109
     clear hH106
     refine skp hA110 rfl rfl rfl rfl rfl (by decide) fun a111 hA112 => ?_; clear hA110 a102
     refine stg hA112 (op_pick_f rfl (hA112.ev rfl) (evc _ _)) rfl rfl rfl rfl (by decide) fun a113 hA114 => ?_; clear hA112 a111
     refine st hA114 (op_pick_f rfl (hA114.ev rfl) (hA114.ev rfl)) rfl rfl (by decide) fun a115 hA116 => ?_; clear hA114 a113
     refine wl_nil ?_
     refine then_n ?_
     refine c_false hA116 rfl ?_
     refine c_skip ?_
     refine then_n ?_
     have hA117 := hA116.as [(7, (Value.int .i64 (l.getD k 0))), (6, (Value.int .i64 (k : Int))), (17, (Value.int .i64 (k : Int))), (16, (Value.int .i64 (l.length : Int))), (15, xl), (4, (bptr b9 0)), (2, (bptr b4 0)), (1, xl)] rfl; clear hA116
     refine c_region ?_
     refine st hA117 (op_move rfl (hA117.ev rfl)) rfl rfl (by decide) fun a118 hA119 => ?_; clear hA117 a115
     refine st hA119 (op_move rfl (hA119.ev rfl)) rfl rfl (by decide) fun a120 hA121 => ?_; clear hA119 a118
     refine st hA121 (op_indexA rfl un_104 ty_3 (hA121.ev rfl) (i := k) (hA121.ev rfl) (by omega)) rfl rfl (by decide) fun a122 hA123 => ?_; clear hA121 a120
     refine sts hA123 (op_store hS105 rfl ty_3 (hA123.ev rfl) (hA123.ev rfl) (i := 0) rfl (vs := [(Value.int .i64 (l.getD k 0))]) rfl rfl rfl (by rw [ints, List.length_map, padU_len]; omega)) rfl rfl ?_
     intro _ w124 hS125 hA127; have hS126 := hS125.blk_say (i := 0) rfl (cs' := (ints (padU l (k + 1)))) (by rw [setFrom_one, Nat.mul_one, Nat.zero_add, ints_set, padU_succ (by omega)]); clear hS125 hA123 hS105
     refine wl_nil ?_
     refine blk_n ?_
     refine then_n ?_
     refine c_region ?_
     refine st hA127 (op_add rfl (hA127.ev rfl) (evc _ _) (by omega) (by omega)) rfl rfl (by decide) fun a128 hA129 => ?_; clear hA127 a122
     refine st hA129 (op_move rfl (hA129.ev rfl)) rfl rfl (by decide) fun a130 hA131 => ?_; clear hA129 a128
     refine wl_nil ?_
     exact then_n ⟨k + 1, ⟨hA131.as _ rfl, hS126, by omega, hln, (fun i hi => by rcases Nat.lt_succ_iff_lt_or_eq.1 hi with h | h; exact hra_ i h; subst h; exact rateAt_y1 (by omega) (by first | exact .inr (.inr (by assumption)) | exact .inr (.inl (by omega))))⟩, by omega⟩
   ·skip
    have hq132 := hb53; simp only [Bool.and_eq_true, Bool.and_eq_false_iff, decide_eq_true_eq, decide_eq_false_iff_not] at hq132
    have hA133 := hA51.as [(7, (Value.int .i64 (l.getD k 0))), (6, (Value.int .i64 (k : Int))), (17, (Value.int .i64 (k : Int))), (16, (Value.int .i64 (l.length : Int))), (15, xl), (4, (bptr b9 0)), (2, (bptr b4 0)), (1, xl)] rfl; clear hA51
    refine c_drawn mixed hA133 hS37 25 [[], [], [1], [], [2, 3], [4], [5], [], [7], [], [8, 9], [10], [11], [0, 6, 12], [13], [14], [15], [15, 16], [15, 17], [18], [18], [18], [18, 21], [18, 20, 22], [18, 23]] [(Yd.val (Value.int .i64 (l.getD k 0))), (Yd.val (bptr b4 0)), (Yd.val vr), (Yd.val (Value.int .i64 (k : Int))), (Yd.val (eptr vr (k * 2))), (Yd.val (eptr vr (k * 2 + 0))), (Yd.val (Value.int .i64 ((R.getD k (0, 0)).1))), (Yd.val (bptr b4 0)), (Yd.val vr), (Yd.val (Value.int .i64 (k : Int))), (Yd.val (eptr vr (k * 2))), (Yd.val (eptr vr (k * 2 + 1))), (Yd.val (Value.int .i64 ((R.getD k (0, 0)).2))), (Yd.val (Value.bool false)), (Yd.val (Value.bool (!false))), (Yd.val (Value.bool (!false))), (Yd.val undef), (Yd.val undef), (Yd.val undef), (Yd.val undef), (Yd.val undef), (Yd.val undef), (Yd.val undef), (Yd.val undef), (Yd.val undef)] (by decide +kernel) rfl rfl ?_ ?_
    ·skip
     refine ⟨fun a w hA hS hd => by exact opG_of rfl (dv (op_move rfl (hA.ev rfl)) hS rfl), ?_⟩
     refine ⟨fun a w hA hS hd => by exact opG_of rfl (dv (op_field rfl fd_33_0 (hA.ev rfl)) hS rfl), ?_⟩
     refine ⟨fun a w hA hS hd => by have e1 := has_ev (hd 1 (by decide)) rfl (fun _ h => h); exact opG_of rfl (dv (op_load1 rfl ty_28 (tmp_ev e1) (hS.bk 1 rfl) rfl) hS rfl), ?_⟩
     refine ⟨fun a w hA hS hd => by exact opG_of rfl (dv (op_move rfl (hA.ev rfl)) hS rfl), ?_⟩
     refine ⟨fun a w hA hS hd => by have e2 := has_ev (hd 2 (by decide)) rfl (fun _ h => h); have e3 := has_ev (hd 3 (by decide)) rfl (fun _ h => h); exact opG_of rfl (dv (op_indexS rfl un_28 ty_42 (tmp_ev e2) (i := k) (tmp_ev e3) (hS.sk 3 rfl) (by decide) (by omega)) hS rfl), ?_⟩
     refine ⟨fun a w hA hS hd => by have e4 := has_ev (hd 4 (by decide)) rfl (fun _ h => h); exact opG_of rfl (dv (op_fieldS rfl fd_42_0 (tmp_ev e4) (hS.sk 3 rfl) (by rw [((hS.sk 3 rfl)).1]; omega)) hS rfl), ?_⟩
     refine ⟨fun a w hA hS hd => by have e5 := has_ev (hd 5 (by decide)) rfl (fun _ h => h); exact opG_of rfl (dv (op_load1E rfl ty_3 (tmp_ev e5) (hS.sk 3 rfl) (pairs_at0 (by omega))) hS rfl), ?_⟩
     refine ⟨fun a w hA hS hd => by exact opG_of rfl (dv (op_field rfl fd_33_0 (hA.ev rfl)) hS rfl), ?_⟩
     refine ⟨fun a w hA hS hd => by have e7 := has_ev (hd 7 (by decide)) rfl (fun _ h => h); exact opG_of rfl (dv (op_load1 rfl ty_28 (tmp_ev e7) (hS.bk 1 rfl) rfl) hS rfl), ?_⟩
     refine ⟨fun a w hA hS hd => by exact opG_of rfl (dv (op_move rfl (hA.ev rfl)) hS rfl), ?_⟩
     refine ⟨fun a w hA hS hd => by have e8 := has_ev (hd 8 (by decide)) rfl (fun _ h => h); have e9 := has_ev (hd 9 (by decide)) rfl (fun _ h => h); exact opG_of rfl (dv (op_indexS rfl un_28 ty_42 (tmp_ev e8) (i := k) (tmp_ev e9) (hS.sk 3 rfl) (by decide) (by omega)) hS rfl), ?_⟩
     refine ⟨fun a w hA hS hd => by have e10 := has_ev (hd 10 (by decide)) rfl (fun _ h => h); exact opG_of rfl (dv (op_fieldS rfl fd_42_1 (tmp_ev e10) (hS.sk 3 rfl) (by rw [((hS.sk 3 rfl)).1]; omega)) hS rfl), ?_⟩
     refine ⟨fun a w hA hS hd => by have e11 := has_ev (hd 11 (by decide)) rfl (fun _ h => h); exact opG_of rfl (dv (op_load1E rfl ty_3 (tmp_ev e11) (hS.sk 3 rfl) (pairs_at1 (by omega))) hS rfl), ?_⟩
     refine ⟨fun a w hA hS hd => by have e0 := has_ev (hd 0 (by decide)) rfl (fun _ h => h); have e6 := has_ev (hd 6 (by decide)) rfl (fun _ h => h); have e12 := has_ev (hd 12 (by decide)) rfl (fun _ h => h); exact opG_of rfl (dv (op_call rfl en_56 (ev3 (tmp_ev e0) (tmp_ev e6) (tmp_ev e12)) (within_ok _ _ _ _)) hS (by show Value.bool _ = _; simp only [hb53, decide_true, decide_false, Bool.not_true, Bool.not_false])), ?_⟩
     refine ⟨fun a w hA hS hd => by have e13 := has_ev (hd 13 (by decide)) rfl (fun _ h => h); exact opG_of rfl (dv (op_not rfl (tmp_ev e13)) hS rfl), ?_⟩
     refine ⟨fun a w hA hS hd => by have e14 := has_ev (hd 14 (by decide)) rfl (fun _ h => h); exact opG_of rfl (dv (op_move rfl (tmp_ev e14)) hS rfl), ?_⟩
     refine ⟨fun a w hA hS hd => by have e15 := has_ev (hd 15 (by decide)) rfl (fun _ h => h); exact opG_no rfl rfl e15 rfl (dskip hS rfl), ?_⟩
     refine ⟨fun a w hA hS hd => by have e15 := has_ev (hd 15 (by decide)) rfl (fun _ h => h); have e16 := has_ev (hd 16 (by decide)) rfl (fun _ h => h); exact opG_no rfl rfl e15 rfl (dskip hS rfl), ?_⟩
     refine ⟨fun a w hA hS hd => by have e15 := has_ev (hd 15 (by decide)) rfl (fun _ h => h); have e17 := has_ev (hd 17 (by decide)) rfl (fun _ h => h); exact opG_no rfl rfl e15 rfl (dskip hS rfl), ?_⟩
     refine ⟨fun a w hA hS hd => by have e18 := has_ev (hd 18 (by decide)) rfl (fun _ h => h); exact opG_noU rfl rfl e18 (dskip hS rfl), ?_⟩
     refine ⟨fun a w hA hS hd => by have e18 := has_ev (hd 18 (by decide)) rfl (fun _ h => h); exact opG_noU rfl rfl e18 (dskip hS rfl), ?_⟩
     refine ⟨fun a w hA hS hd => by have e18 := has_ev (hd 18 (by decide)) rfl (fun _ h => h); exact opG_noU rfl rfl e18 (dskip hS rfl), ?_⟩
     refine ⟨fun a w hA hS hd => by have e18 := has_ev (hd 18 (by decide)) rfl (fun _ h => h); have e21 := has_ev (hd 21 (by decide)) rfl (fun _ h => h); exact opG_noU rfl rfl e18 (dskip hS rfl), ?_⟩
     refine ⟨fun a w hA hS hd => by have e18 := has_ev (hd 18 (by decide)) rfl (fun _ h => h); have e20 := has_ev (hd 20 (by decide)) rfl (fun _ h => h); have e22 := has_ev (hd 22 (by decide)) rfl (fun _ h => h); exact opG_noU rfl rfl e18 (dskip hS rfl), ?_⟩
     refine ⟨fun a w hA hS hd => by have e18 := has_ev (hd 18 (by decide)) rfl (fun _ h => h); have e23 := has_ev (hd 23 (by decide)) rfl (fun _ h => h); exact opG_noU rfl rfl e18 (dskip hS rfl), ?_⟩
     trivial
    intro a135 w136 hA137 hS138 hH139; clear hA133 hS37
    have hA140 := hA137.add (has_ev (hH139 15 (by decide)) rfl (fun _ h => h)); clear hA137
    have hA141 := hA140.add (has_ev (hH139 18 (by decide)) rfl (fun _ h => h)); clear hA140
    have hA142 := hA141.add (has_ev (hH139 19 (by decide)) rfl (fun _ h => h)); clear hA141
    have hA143 := hA142.add (has_ev (hH139 24 (by decide)) rfl (fun _ h => h)); clear hA142
    clear hH139
    refine skpU hA143 rfl rfl rfl rfl (by decide) fun a144 hA145 => ?_; clear hA143 a135
    refine skp hA145 rfl rfl rfl rfl rfl (by decide) fun a146 hA147 => ?_; clear hA145 a144
    refine st hA147 (op_pick_t rfl (hA147.ev rfl) (evc _ _)) rfl rfl (by decide) fun a148 hA149 => ?_; clear hA147 a146
    refine wl_nil ?_
    refine then_n ?_
    refine c_true hA149 rfl ?_
    refine c_seq ?_
    have hA150 := hA149.as [(4, (bptr b9 0))] rfl; clear hA149
    refine c_region ?_
    refine st hA150 (op_loadA rfl ty_104 (hA150.ev rfl) (hS138.bk 0 rfl) (l := (ints (padU l k))) (drop_take_all _ _ (by rw [ints, List.length_map, padU_len])) (by rw [ints, List.length_map, padU_len])) rfl rfl (by decide) fun a151 hA152 => ?_; clear hA150 a148
    refine sts hA152 (op_store hS138 rfl ty_104 (hA152.ev rfl) (hA152.ev rfl) (i := 0) rfl (vs := (ints (padU l k))) rfl (by rw [ints, List.length_map, padU_len]) (ints_one _) (by rw [ints, List.length_map, padU_len]; omega)) rfl rfl ?_
    intro _ w153 hS154 hA156; have hS155 := hS154.blk_say (i := 0) rfl (cs' := (ints (padU l k))) (setFrom_all _ _ (by rfl)); clear hS154 hA152 hS138
    refine st hA156 (op_assign rfl (evc _ _)) rfl rfl (by decide) fun a157 hA158 => ?_; clear hA156 a151
    refine wl_nil ?_
    refine then_n ?_
    refine c_ret ?_
    refine then_ret ?_
    refine blk_ret ?_
    refine then_ret ?_
    refine then_ret ?_
    refine blk_ret ?_
    refine then_ret ?_
    refine fin_run hA158 (.inl rfl) (run_results2 hA158 rfl (.cellA rfl ty_104 (hS155.bk 0 rfl) (l := (ints (padU l k))) (drop_take_all _ _ (by rw [ints, List.length_map, padU_len])) (by rw [ints, List.length_map, padU_len])) (.tmp rfl)) ?_
    have hz : areB R l = false := by first | exact areB_len (by omega) | exact areB_no (k := k) (by omega) (rateAt_n1 (by omega)) | exact areB_no (k := k) (by omega) (rateAt_n2 (by omega) (by assumption))
    exact ⟨(padU l k), (by first | rfl | exact padU_len _ _), (fun h => absurd (hz.symm.trans h) (by decide)), by rw [hz], hS155.ext⟩
  ·skip
   rw [decide_eq_false hb40] at hA39
   refine c_false hA39 rfl ?_
   refine c_exit ?_
   refine then_exit ?_
   refine then_exit ?_
   refine blk_hit ?_
   refine then_n ?_
   refine c_seq ?_
   have hA159 := hA39.as [(4, (bptr b9 0))] rfl; clear hA39
   refine c_region ?_
   refine st hA159 (op_loadA rfl ty_104 (hA159.ev rfl) (hS37.bk 0 rfl) (l := (ints (padU l k))) (drop_take_all _ _ (by rw [ints, List.length_map, padU_len])) (by rw [ints, List.length_map, padU_len])) rfl rfl (by decide) fun a160 hA161 => ?_; clear hA159 a38
   refine sts hA161 (op_store hS37 rfl ty_104 (hA161.ev rfl) (hA161.ev rfl) (i := 0) rfl (vs := (ints (padU l k))) rfl (by rw [ints, List.length_map, padU_len]) (ints_one _) (by rw [ints, List.length_map, padU_len]; omega)) rfl rfl ?_
   intro _ w162 hS163 hA165; have hS164 := hS163.blk_say (i := 0) rfl (cs' := (ints (padU l k))) (setFrom_all _ _ (by rfl)); clear hS163 hA161 hS37
   refine st hA165 (op_assign rfl (evc _ _)) rfl rfl (by decide) fun a166 hA167 => ?_; clear hA165 a160
   refine wl_nil ?_
   refine then_n ?_
   refine c_ret ?_
   refine fin_run hA167 (.inl rfl) (run_results2 hA167 rfl (.cellA rfl ty_104 (hS164.bk 0 rfl) (l := (ints (padU l k))) (drop_take_all _ _ (by rw [ints, List.length_map, padU_len])) (by rw [ints, List.length_map, padU_len])) (.tmp rfl)) ?_
   have hz := areB_yes (R := R) (l := l) (by omega) (fun i hi => hra_ i (by omega))
   exact ⟨(padU l k), (by first | rfl | exact padU_len _ _), (fun _ => by rw [padF, show l.length = k by omega]), by rw [hz], hS164.ext⟩
 ·skip
  rw [decide_eq_false hb25] at hA24
  refine c_true hA24 rfl ?_
  refine c_seq ?_
  have hA168 := hA24.as [(4, (bptr b9 0))] rfl; clear hA24
  refine c_region ?_
  refine st hA168 (op_loadA rfl ty_104 (hA168.ev rfl) (hS10.bk 0 rfl) (l := (ints ([0, 0, 0]))) (drop_take_all _ _ rfl) rfl) rfl rfl (by decide) fun a169 hA170 => ?_; clear hA168 a23
  refine sts hA170 (op_store hS10 rfl ty_104 (hA170.ev rfl) (hA170.ev rfl) (i := 0) rfl (vs := (ints ([0, 0, 0]))) rfl rfl (ints_one _) (by first | (simp only [ints, List.length_map, List.length_set]; omega) | (have h2_ := (show (ints ([0, 0, 0])).length = 3 from rfl); omega))) rfl rfl ?_
  intro _ w171 hS172 hA174; have hS173 := hS172.blk_say (i := 0) rfl (cs' := (ints ([0, 0, 0]))) (setFrom_all _ _ (by first | (simp only [ints, List.length_map, List.length_set]; omega) | (have h1_ := (show (ints ([0, 0, 0])).length = 3 from rfl); have h2_ := (show (ints ([0, 0, 0])).length = 3 from rfl); omega))); clear hS172 hA170 hS10
  refine st hA174 (op_assign rfl (evc _ _)) rfl rfl (by decide) fun a175 hA176 => ?_; clear hA174 a169
  refine wl_nil ?_
  refine then_n ?_
  refine c_ret ?_
  refine then_ret ?_
  refine fin_run hA176 (.inl rfl) (run_results2 hA176 rfl (.cellA rfl ty_104 (hS173.bk 0 rfl) (l := (ints ([0, 0, 0]))) (drop_take_all _ _ rfl) rfl) (.tmp rfl)) ?_
  have hz : areB R l = false := by first | exact areB_len (by omega) | exact areB_no (k := k) (by omega) (rateAt_n1 (by omega)) | exact areB_no (k := k) (by omega) (rateAt_n2 (by omega) (by assumption))
  exact ⟨[0, 0, 0], (by first | rfl | exact padU_len _ _), (fun h => absurd (hz.symm.trans h) (by decide)), by rw [hz], hS173.ext⟩
end Go.Proofs.Ytkkglkdnnfegkaa

namespace Go.Proofs.Ytkkglkdnnfegkaa
open Go.RowKit Go.Shelf Go.Eng
theorem padF_len (l : List Int) : (ints (padF l)).length = 3 := by rw [ints, List.length_map]; exact padU_len l l.length
theorem allows_yes (R : List (Int × Int)) (rs : List RunD) (lv : List Value) (vr vu : Value) (w : World) (hm : SlAt w vr 2 R.length (pairs R)) (hx : RunsAt w vu lv rs) (hlen : R.length ≤ 1000000) (hrl : rs.length ≤ 1000000) (l : List Int) (xl : Value) (hxl : SlAt w xl 1 l.length (ints l)) (hlen2 : l.length ≤ 1000000) (he : enterF R rs = 0) (hb : areB R l = true) (hpr : RatesV (padF l)) :
  Calls Try.prog 38 #[(Value.agg #[vr]), vu, xl] w (Ret fun v w' => v = .tuple #[.bool (allowB rs (padF l)), .int .i64 0] ∧ Ext NoB w w') := by
 refine calls_enter Try.func38 rfl fun a0 hA0 => ?_
 replace hA0 : Fr 32 [] [(0, (Value.agg #[vr])), (1, vu), (2, xl)] a0 := hA0
 have hR := (check_mat (enter_mat he)).1
 have hV := enter_runs he
 have hS0 : Sep NoB w w [(sl vr 2 R.length (pairs R)), (sl vu 3 rs.length (vtrips (runV lv rs))), (segsR false lv rs), (sl xl 1 l.length (ints l))] := sep_ro ⟨rfl, hm, rfl, hx.runs, rfl, ⟨hx.len, hx.segs⟩, rfl, hxl, trivial⟩
 refine c_seq ?_
 refine c_region ?_
 refine stw hA0 (op_box hS0 rfl (hA0.ev rfl) (cs := [vr]) rfl) rfl rfl (by decide) ?_
 rintro a1 _ w3 ⟨b4, rfl, hS5⟩ hA2; clear hA0 hS0 a0
 refine st hA2 (op_assign rfl (evc _ _)) rfl rfl (by decide) fun a6 hA7 => ?_; clear hA2 a1
 refine st hA7 (op_assign rfl (evc _ _)) rfl rfl (by decide) fun a8 hA9 => ?_; clear hA7 a6
 refine wl_nil ?_
 refine then_n ?_
 refine c_seq ?_
 refine c_region ?_
 refine st hA9 (op_loadA rfl ty_33 (hA9.ev rfl) (hS5.bk 0 rfl) (l := [vr]) rfl rfl) rfl rfl (by decide) fun a10 hA11 => ?_; clear hA9 a8
 refine st hA11 (op_move rfl (hA11.ev rfl)) rfl rfl (by decide) fun a12 hA13 => ?_; clear hA11 a10
 refine stw hA13 (op_call rfl en_66 (ev2 (hA13.ev rfl) (hA13.ev rfl)) (enter_ok R rs lv vr vu _ (hm.step hS5.ext) (hx.step hS5.ext) (by omega) (by omega) he)) rfl rfl (by decide) ?_
 rintro a14 _ w16 ⟨bj19, bm20, rfl, hT17⟩ hA15; have hS18 := hS5.callS hT17 rfl; clear hT17 hA13 hS5 a12
 refine st hA15 (op_move rfl (hA15.ev rfl)) rfl rfl (by decide) fun a21 hA22 => ?_; clear hA15 a14
 refine st hA22 (op_extract rfl (hA22.ev rfl) rfl) rfl rfl (by decide) fun a23 hA24 => ?_; clear hA22 a21
 refine st hA24 (op_extract rfl (hA24.ev rfl) rfl) rfl rfl (by decide) fun a25 hA26 => ?_; clear hA24 a23
 refine st hA26 (op_assign rfl (hA26.ev rfl)) rfl rfl (by decide) fun a27 hA28 => ?_; clear hA26 a25
 refine st hA28 (op_assign rfl (hA28.ev rfl)) rfl rfl (by decide) fun a29 hA30 => ?_; clear hA28 a27
 refine wl_nil ?_
 refine then_n ?_
 refine c_seq ?_
 refine c_seq ?_
 have hA31 := hA30.as [(9, (Value.int .i64 0)), (8, (bptr bj19 0)), (3, (bptr b4 0)), (2, xl)] rfl; clear hA30
 refine c_region ?_
 refine st hA31 (op_move rfl (hA31.ev rfl)) rfl rfl (by decide) fun a32 hA33 => ?_; clear hA31 a29
 refine st hA33 (op_neq rfl (hA33.ev rfl) (evc _ _)) rfl rfl (by decide) fun a34 hA35 => ?_; clear hA33 a32
 refine wl_nil ?_
 refine then_n ?_
 refine c_false hA35 rfl ?_
 refine c_skip ?_
 refine then_n ?_
 refine c_seq ?_
 refine c_region ?_
 refine st hA35 (op_loadA rfl ty_33 (hA35.ev rfl) (hS18.bk 2 rfl) (l := [vr]) rfl rfl) rfl rfl (by decide) fun a36 hA37 => ?_; clear hA35 a34
 refine st hA37 (op_move rfl (hA37.ev rfl)) rfl rfl (by decide) fun a38 hA39 => ?_; clear hA37 a36
 refine stw hA39 (op_call rfl en_67 (ev2 (hA39.ev rfl) (hA39.ev rfl)) (own_ok _ R _ (hS18.sk 3 rfl) l _ (hS18.sk 6 rfl) hR.1)) rfl rfl (by decide) ?_
 rintro a40 _ w42 ⟨arr43, hal_, har44, rfl, hE45⟩ hA41; have hS46 := hS18.step hE45; clear hE45 hA39 hS18 a38
 obtain rfl := har44 hb; rw [hb] at hA41
 refine st hA41 (op_move rfl (hA41.ev rfl)) rfl rfl (by decide) fun a47 hA48 => ?_; clear hA41 a40
 refine st hA48 (op_extract rfl (hA48.ev rfl) rfl) rfl rfl (by decide) fun a49 hA50 => ?_; clear hA48 a47
 refine st hA50 (op_extract rfl (hA50.ev rfl) rfl) rfl rfl (by decide) fun a51 hA52 => ?_; clear hA50 a49
 refine stw hA52 (op_alloc hS46 rfl ze_104 (cs := [(Value.int .i64 0), (Value.int .i64 0), (Value.int .i64 0)]) rfl) rfl rfl (by decide) ?_
 rintro a53 _ w55 ⟨b56, rfl, hS57⟩ hA54; clear hA52 hS46 a51
 refine sts hA54 (op_store hS57 rfl ty_104 (hA54.ev rfl) (hA54.ev rfl) (i := 0) rfl (vs := (ints (padF l))) rfl (padF_len l) (ints_one _) (by decide)) rfl rfl ?_
 intro _ w58 hS59 hA61; have hS60 := hS59.blk_say (i := 0) rfl (cs' := (ints (padF l))) (setFrom_all _ _ (Eq.symm (padF_len l))); clear hS59 hA54 hS57
 refine st hA61 (op_assign rfl (hA61.ev rfl)) rfl rfl (by decide) fun a62 hA63 => ?_; clear hA61 a53
 refine wl_nil ?_
 refine then_n ?_
 refine c_seq ?_
 refine c_seq ?_
 have hA64 := hA63.as [(11, (Value.bool true)), (10, (bptr b56 0)), (8, (bptr bj19 0))] rfl; clear hA63
 refine c_region ?_
 refine st hA64 (op_move rfl (hA64.ev rfl)) rfl rfl (by decide) fun a65 hA66 => ?_; clear hA64 a62
 refine st hA66 (op_not rfl (hA66.ev rfl)) rfl rfl (by decide) fun a67 hA68 => ?_; clear hA66 a65
 refine wl_nil ?_
 refine then_n ?_
 refine c_false hA68 rfl ?_
 refine c_skip ?_
 refine then_n ?_
 refine c_seq ?_
 refine c_region ?_
 refine st hA68 (op_move rfl (hA68.ev rfl)) rfl rfl (by decide) fun a69 hA70 => ?_; clear hA68 a67
 refine st hA70 (op_loadA rfl ty_104 (hA70.ev rfl) (hS60.bk 0 rfl) (l := (ints (padF l))) (drop_take_all _ _ (padF_len l)) (padF_len l)) rfl rfl (by decide) fun a71 hA72 => ?_; clear hA70 a69
 refine stw hA72 (op_call rfl en_68 (ev2 (hA72.ev rfl) (hA72.ev rfl)) (allowed_ok _ _ (padF l) R rs lv vr vu R.length _ hR.1 hpr hV hx.len (hS60.lendM (i := 2) rfl [1, 4, 5, 6] ⟨rfl, by decide, hS60.bk 1 rfl, ⟨_, rfl, fun _ hz => hz⟩, rfl, by decide, hS60.sk 4 rfl, ⟨_, rfl, fun _ hz => hz⟩, rfl, by decide, hS60.sk 5 rfl, ⟨_, rfl, fun _ hz => hz⟩, rfl, by decide, hS60.ok 6 _ rfl, ⟨_, rfl, fun _ hz => hz⟩, trivial⟩))) rfl rfl (by decide) ?_
 rintro a73 _ w75 ⟨rfl, hE76, hM77⟩ hA74; have hS78 := hS60.updM (i := 2) rfl hE76 hM77; clear hE76 hM77 hA72 hS60 a71
 refine st hA74 (op_assign rfl (hA74.ev rfl)) rfl rfl (by decide) fun a79 hA80 => ?_; clear hA74 a73
 refine st hA80 (op_assign rfl (evc _ _)) rfl rfl (by decide) fun a81 hA82 => ?_; clear hA80 a79
 refine wl_nil ?_
 refine then_n ?_
 refine c_ret ?_
 refine fin_run hA82 (.inl rfl) (run_results2 hA82 rfl (.tmp rfl) (.tmp rfl)) ?_
 exact ⟨rfl, hS78.ext⟩
end Go.Proofs.Ytkkglkdnnfegkaa

namespace Go.Proofs.Ytkkglkdnnfegkaa
open Go.RowKit Go.Shelf Go.Eng
theorem clone_int (xs : List Int) (v : Value) (w : World) (hv : SlAt w v 1 xs.length (ints xs)) (hlen : xs.length ≤ 1000000) :
  Calls Try.prog 61 #[v] w (Ret fun v w' => Ext NoB w w' ∧ w'.ownsRow w.heap.size 3 1 v xs.length (ints xs)) := by
 refine calls_enter Try.func61 rfl fun a0 hA0 => ?_
 replace hA0 : Fr 8 [] [(0, v)] a0 := hA0
 have hS0 : Sep NoB w w [(sl v 1 xs.length (ints xs))] := sep_ro ⟨rfl, hv, trivial⟩
 refine c_seq ?_
 refine c_region ?_
 refine st hA0 (op_assign rfl (evc _ _)) rfl rfl (by decide) fun a1 hA2 => ?_; clear hA0 a0
 refine wl_nil ?_
 refine then_n ?_
 refine c_seq ?_
 refine c_seq ?_
 refine c_region ?_
 refine st hA2 (op_move rfl (hA2.ev rfl)) rfl rfl (by decide) fun a3 hA4 => ?_; clear hA2 a1
 refine stw hA4 (op_eqlNil un_40 rfl (hA4.ev rfl) (evc _ _) (hS0.sk 0 rfl) (by decide)) rfl rfl (by decide) ?_
 rintro a5 _ _ ⟨bn7, rfl, rfl, hn8⟩ hA6; clear hA4 a3
 refine wl_nil ?_
 refine then_n ?_
 rcases Bool.eq_false_or_eq_true (bn7) with hb9 | hb9
 ·skip
  rw [hb9] at hA6
  refine c_true hA6 rfl ?_
  refine c_seq ?_
  refine c_region ?_
  refine st hA6 (op_assign rfl (evc _ _)) rfl rfl (by decide) fun a10 hA11 => ?_; clear hA6 a5
  refine wl_nil ?_
  refine then_n ?_
  refine c_ret ?_
  refine then_ret ?_
  refine fin_run hA11 (.inl rfl) (run_results1 hA11 rfl (.tmp rfl)) ?_
  exact ⟨hS0.ext, by have hz := (hn8 (by assumption)); rw [hz.1, hz.2]; exact ⟨by simp, .inl ⟨rfl, rfl⟩⟩⟩
 ·skip
  rw [hb9] at hA6
  refine c_false hA6 rfl ?_
  refine c_skip ?_
  refine then_n ?_
  refine c_seq ?_
  refine c_region ?_
  refine stw hA6 (op_buildSlice hS0 rfl pv0 un_40 ty_3 ze_3 (by decide) (cs := []) bs_3_0_) rfl rfl (by decide) ?_
  rintro a12 _ w14 ⟨b15, rfl, hS16⟩ hA13; clear hA6 hS0 a5
  refine st hA13 (op_move rfl (hA13.ev rfl)) rfl rfl (by decide) fun a17 hA18 => ?_; clear hA13 a12
  have hS19 := hS16.blk_row (i := 0) (sz := 1) (n := 0) rfl rfl (by decide); clear hS16
  refine stw hA18 (op_append hS19 rfl un_40 el_3 (hA18.ev rfl) (hA18.ev rfl) (i := 0) rfl (hS19.sk 1 rfl) (ints_one _) (by simp only [maxLen]; omega) (by omega)) rfl rfl (by decide) ?_
  intro a20 v23 w22 hS24 hA21
  have hS25 := hS24.row_say (i := 0) rfl (n' := xs.length) (xs' := (ints xs)) (by simp) (by simp); clear hS24 hA18 hS19 a17
  refine st hA21 (op_assign rfl (hA21.ev rfl)) rfl rfl (by decide) fun a26 hA27 => ?_; clear hA21 a20
  refine wl_nil ?_
  refine then_n ?_
  refine c_ret ?_
  refine fin_run hA27 (.inl rfl) (run_results1 hA27 rfl (.tmp rfl)) ?_
  exact ⟨hS25.ext, hS25.row_new (i := 0) rfl⟩
end Go.Proofs.Ytkkglkdnnfegkaa

namespace Go.Proofs.Ytkkglkdnnfegkaa
open Go.RowKit Go.Shelf Go.Eng
def planB (R : List (Int × Int)) (plan : List Seg) : Bool := allSegB R.length plan && decide (plan.length ≤ 8)
def readyB (R : List (Int × Int)) (rs : List RunD) (plan : List Seg) : Bool := thinB R rs plan.length && decide (enterF R rs = 0) && planB R plan
theorem ready_is {R : List (Int × Int)} {rs : List RunD} {plan : List Seg} (h : readyB R rs plan = true) : ThinV R rs plan.length ∧ enterF R rs = 0 ∧ plan.length ≤ 8 ∧ allSegB R.length plan = true := by
 simp only [readyB, planB, Bool.and_eq_true, decide_eq_true_eq] at h
 exact ⟨thin_of h.1.1, h.1.2, h.2.2, h.2.1⟩
set_option maxHeartbeats 1000000 in
theorem IsPlan_ok (w : World) (R : List (Int × Int)) (vr : Value) (hm : SlAt w vr 2 R.length (pairs R)) (plan : List Seg) (vp : Value) (hp : SlAt w vp 3 plan.length (trips plan)) (hR6 : R.length ≤ 6) (hp12 : plan.length ≤ 12) :
  Calls Try.prog 33 #[(Value.agg #[vr]), vp] w (Ret fun v w' => v = .bool (planB R plan) ∧ Ext NoB w w') := by
 refine calls_enter Try.func33 rfl fun a0 hA0 => ?_
 replace hA0 : Fr 22 [] [(0, (Value.agg #[vr])), (1, vp)] a0 := hA0
 have hS0 : Sep NoB w w [(sl vr 2 R.length (pairs R)), (sl vp 3 plan.length (trips plan))] := sep_ro ⟨rfl, hm, rfl, hp, trivial⟩
 refine c_seq ?_
 refine c_region ?_
 refine stw hA0 (op_box hS0 rfl (hA0.ev rfl) (cs := [vr]) rfl) rfl rfl (by decide) ?_
 rintro a1 _ w3 ⟨b4, rfl, hS5⟩ hA2; clear hA0 hS0 a0
 refine st hA2 (op_assign rfl (evc _ _)) rfl rfl (by decide) fun a6 hA7 => ?_; clear hA2 a1
 refine wl_nil ?_
 refine then_n ?_
 refine c_seq ?_
 refine c_seq ?_
 refine c_region ?_
 refine st hA7 (op_assign rfl (evc _ _)) rfl rfl (by decide) fun a8 hA9 => ?_; clear hA7 a6
 refine wl_nil ?_
 refine then_n ?_
 refine c_block ?_
 have hA10 := hA9.as [(5, (Value.int .i64 0)), (2, (bptr b4 0)), (1, vp)] rfl; clear hA9
 refine c_loop (G := Nat) (fun (k : Nat) a_ w_ => Fr 22 [] [(5, (Value.int .i64 (k : Int))), (2, (bptr b4 0)), (1, vp)] a_ ∧ Sep NoB w w_ [(blk b4 24 [vr]), (sl vr 2 R.length (pairs R)), (sl vp 3 plan.length (trips plan))] ∧ (k ≤ plan.length) ∧ (∀ i, i < k → segB R.length (plan.getD i (0, 0, 0)) = true)) (fun k => plan.length - k) 0 ⟨hA10.as _ rfl, hS5, by omega, (fun _ h => absurd h (Nat.not_lt_zero _))⟩ ?_
 clear hA10 hS5 a8
 rintro k a11 w13 ⟨hA12, hS14, hkk, hsg⟩
 refine c_seq ?_
 refine c_seq ?_
 refine c_region ?_
 refine st hA12 (op_move rfl (hA12.ev rfl)) rfl rfl (by decide) fun a15 hA16 => ?_; clear hA12 a11
 refine st hA16 (op_move rfl (hA16.ev rfl)) rfl rfl (by decide) fun a17 hA18 => ?_; clear hA16 a15
 refine st hA18 (op_lenS rfl un_51 (hA18.ev rfl) (hS14.sk 2 rfl)) rfl rfl (by decide) fun a19 hA20 => ?_; clear hA18 a17
 refine st hA20 (op_lss rfl (hA20.ev rfl) (hA20.ev rfl)) rfl rfl (by decide) fun a21 hA22 => ?_; clear hA20 a19
 refine wl_nil ?_
 refine then_n ?_
 by_cases hb23 : (k : Int) < (plan.length : Int)
 ·skip
  rw [decide_eq_true hb23] at hA22
  refine c_true hA22 rfl ?_
  refine c_skip ?_
  refine then_n ?_
  refine c_seq ?_
  refine c_block ?_
  refine c_seq ?_
  have hA24 := hA22.as [(5, (Value.int .i64 (k : Int))), (2, (bptr b4 0)), (1, vp)] rfl; clear hA22
  refine c_drawn mixed hA24 hS14 5 [[], [], [], [1, 2], [3]] [(Yd.val (Value.agg #[vr])), (Yd.val vp), (Yd.val (Value.int .i64 (k : Int))), (Yd.val (eptr vp (k * 3))), (Yd.val (Value.agg #[(Value.int .i64 ((plan.getD k (0, 0, 0)).1)), (Value.int .i64 ((plan.getD k (0, 0, 0)).2.1)), (Value.int .i64 ((plan.getD k (0, 0, 0)).2.2))]))] (by decide +kernel) rfl rfl ?_ ?_
  ·skip
   refine ⟨fun a w hA hS hd => by exact opG_of rfl (dv (op_loadA rfl ty_24 (hA.ev rfl) (hS.bk 0 rfl) (l := [vr]) rfl rfl) hS rfl), ?_⟩
   refine ⟨fun a w hA hS hd => by exact opG_of rfl (dv (op_move rfl (hA.ev rfl)) hS rfl), ?_⟩
   refine ⟨fun a w hA hS hd => by exact opG_of rfl (dv (op_move rfl (hA.ev rfl)) hS rfl), ?_⟩
   refine ⟨fun a w hA hS hd => by have e1 := has_ev (hd 1 (by decide)) rfl (fun _ h => h); have e2 := has_ev (hd 2 (by decide)) rfl (fun _ h => h); exact opG_of rfl (dv (op_indexS rfl un_51 ty_56 (tmp_ev e1) (i := k) (tmp_ev e2) (hS.sk 2 rfl) (by decide) (by omega)) hS rfl), ?_⟩
   refine ⟨fun a w hA hS hd => by have e3 := has_ev (hd 3 (by decide)) rfl (fun _ h => h); exact opG_of rfl (dv (op_loadAE rfl ty_56 (tmp_ev e3) (hS.sk 2 rfl) (trips_all (by omega)) rfl (by decide)) hS rfl), ?_⟩
   trivial
  intro a26 w27 hA28 hS29 hH30; clear hA24 hS14
  have hA31 := hA28.add (has_ev (hH30 0 (by decide)) rfl (fun _ h => h)); clear hA28
  have hA32 := hA31.add (has_ev (hH30 4 (by decide)) rfl (fun _ h => h)); clear hA31
  clear hH30
  refine stw hA32 (op_call rfl en_62 (ev2 (hA32.ev rfl) (hA32.ev rfl)) (IsSegment_ok _ R _ (hS29.sk 1 rfl) _ _ _ (by omega))) rfl rfl (by decide) ?_
  rintro a33 _ w35 ⟨rfl, hE36⟩ hA34; have hS37 := hS29.step hE36; clear hE36 hA32 hS29 a26
  refine st hA34 (op_not rfl (hA34.ev rfl)) rfl rfl (by decide) fun a38 hA39 => ?_; clear hA34 a33
  refine wl_nil ?_
  refine then_n ?_
  rcases Bool.eq_false_or_eq_true ((segB R.length ((plan.getD k (0, 0, 0)).1, (plan.getD k (0, 0, 0)).2.1, (plan.getD k (0, 0, 0)).2.2))) with hb40 | hb40
  ·skip
   rw [hb40] at hA39
   refine c_false hA39 rfl ?_
   refine c_skip ?_
   refine blk_n ?_
   refine then_n ?_
   refine c_region ?_
   refine st hA39 (op_move rfl (hA39.ev rfl)) rfl rfl (by decide) fun a41 hA42 => ?_; clear hA39 a38
   refine st hA42 (op_add rfl (hA42.ev rfl) (evc _ _) (by omega) (by omega)) rfl rfl (by decide) fun a43 hA44 => ?_; clear hA42 a41
   refine st hA44 (op_assign rfl (hA44.ev rfl)) rfl rfl (by decide) fun a45 hA46 => ?_; clear hA44 a43
   refine wl_nil ?_
   exact then_n ⟨k + 1, ⟨hA46.as _ rfl, hS37, by omega, (fun i hi => by rcases Nat.lt_succ_iff_lt_or_eq.1 hi with h | h; exact hsg i h; subst h; assumption)⟩, by omega⟩
  ·skip
   rw [hb40] at hA39
   refine c_true hA39 rfl ?_
   refine c_seq ?_
   have hA47 := hA39.as [] rfl; clear hA39
   refine c_region ?_
   refine st hA47 (op_assign rfl (evc _ _)) rfl rfl (by decide) fun a48 hA49 => ?_; clear hA47 a38
   refine wl_nil ?_
   refine then_n ?_
   refine c_ret ?_
   refine blk_ret ?_
   refine then_ret ?_
   refine then_ret ?_
   refine blk_ret ?_
   refine then_ret ?_
   refine fin_run hA49 (.inl rfl) (run_results1 hA49 rfl (.tmp rfl)) ?_
   exact ⟨congrArg Value.bool (by unfold planB allSegB; first | (rw [all_yes (p := fun i => segB R.length (plan.getD i (0, 0, 0))) (fun i hi => hsg i (by omega)), Bool.true_and]; (rw [Bool.eq_iff_iff]; (try simp only [Bool.true_and, Bool.false_and, Bool.and_true, Bool.and_false, Bool.false_or, Bool.true_or, Bool.or_false, Bool.or_true, true_and, and_true, false_and, and_false, false_or, or_false, true_or, or_true, Bool.and_eq_true, Bool.or_eq_true, Bool.not_eq_true', decide_eq_true_eq, decide_eq_false_iff_not, Bool.false_eq_true, Bool.true_eq_false, Bool.not_true, Bool.not_false, eq_self_iff_true, true_iff, false_iff, iff_true, iff_false, not_true, not_false_eq_true]); omega)) | (rw [all_no (k := k) (p := fun i => segB R.length (plan.getD i (0, 0, 0))) (by omega) (by assumption), Bool.false_and])), hS37.ext⟩
 ·skip
  rw [decide_eq_false hb23] at hA22
  refine c_false hA22 rfl ?_
  refine c_exit ?_
  refine then_exit ?_
  refine then_exit ?_
  refine blk_hit ?_
  refine then_n ?_
  refine c_seq ?_
  have hA50 := hA22.as [(1, vp)] rfl; clear hA22
  refine c_region ?_
  refine st hA50 (op_move rfl (hA50.ev rfl)) rfl rfl (by decide) fun a51 hA52 => ?_; clear hA50 a21
  refine st hA52 (op_lenS rfl un_51 (hA52.ev rfl) (hS14.sk 2 rfl)) rfl rfl (by decide) fun a53 hA54 => ?_; clear hA52 a51
  refine st hA54 (op_leq rfl (hA54.ev rfl) (evc _ _)) rfl rfl (by decide) fun a55 hA56 => ?_; clear hA54 a53
  refine st hA56 (op_assign rfl (hA56.ev rfl)) rfl rfl (by decide) fun a57 hA58 => ?_; clear hA56 a55
  refine wl_nil ?_
  refine then_n ?_
  refine c_ret ?_
  refine fin_run hA58 (.inl rfl) (run_results1 hA58 rfl (.tmp rfl)) ?_
  exact ⟨congrArg Value.bool (by unfold planB allSegB; first | (rw [all_yes (p := fun i => segB R.length (plan.getD i (0, 0, 0))) (fun i hi => hsg i (by omega)), Bool.true_and]; (rw [Bool.eq_iff_iff]; (try simp only [Bool.true_and, Bool.false_and, Bool.and_true, Bool.and_false, Bool.false_or, Bool.true_or, Bool.or_false, Bool.or_true, true_and, and_true, false_and, and_false, false_or, or_false, true_or, or_true, Bool.and_eq_true, Bool.or_eq_true, Bool.not_eq_true', decide_eq_true_eq, decide_eq_false_iff_not, Bool.false_eq_true, Bool.true_eq_false, Bool.not_true, Bool.not_false, eq_self_iff_true, true_iff, false_iff, iff_true, iff_false, not_true, not_false_eq_true]); omega)) | (rw [all_no (k := k) (p := fun i => segB R.length (plan.getD i (0, 0, 0))) (by omega) (by assumption), Bool.false_and])), hS14.ext⟩
set_option maxHeartbeats 1000000 in
theorem ready_ok (w : World) (R : List (Int × Int)) (vr : Value) (hm : SlAt w vr 2 R.length (pairs R)) (rs : List RunD) (lv : List Value) (vu : Value) (hx : RunsAt w vu lv rs) (plan : List Seg) (vp : Value) (hp : SlAt w vp 3 plan.length (trips plan)) :
  Calls Try.prog 27 #[(Value.agg #[vr]), vu, vp] w (Ret fun v w' => v = .bool (readyB R rs plan) ∧ Ext NoB w w') := by
 refine calls_enter Try.func27 rfl fun a0 hA0 => ?_
 replace hA0 : Fr 22 [] [(0, (Value.agg #[vr])), (1, vu), (2, vp)] a0 := hA0
 have hS0 : Sep NoB w w [(sl vr 2 R.length (pairs R)), (runsR false vu lv rs), (sl vp 3 plan.length (trips plan))] := sep_ro ⟨rfl, hm, rfl, hx, rfl, hp, trivial⟩
 refine c_seq ?_
 refine c_region ?_
 refine stw hA0 (op_box hS0 rfl (hA0.ev rfl) (cs := [vr]) rfl) rfl rfl (by decide) ?_
 rintro a1 _ w3 ⟨b4, rfl, hS5⟩ hA2; clear hA0 hS0 a0
 refine st hA2 (op_assign rfl (evc _ _)) rfl rfl (by decide) fun a6 hA7 => ?_; clear hA2 a1
 refine wl_nil ?_
 refine then_n ?_
 refine c_seq ?_
 refine c_region ?_
 refine st hA7 (op_loadA rfl ty_24 (hA7.ev rfl) (hS5.bk 0 rfl) (l := [vr]) rfl rfl) rfl rfl (by decide) fun a8 hA9 => ?_; clear hA7 a6
 refine st hA9 (op_move rfl (hA9.ev rfl)) rfl rfl (by decide) fun a10 hA11 => ?_; clear hA9 a8
 refine st hA11 (op_move rfl (hA11.ev rfl)) rfl rfl (by decide) fun a12 hA13 => ?_; clear hA11 a10
 refine stw hA13 (op_call rfl en_16 (ev3 (hA13.ev rfl) (hA13.ev rfl) (hA13.ev rfl)) (Thin_ok _ R _ (hS5.sk 1 rfl) rs _ _ (runs_at (hS5.ok 2 _ rfl)) plan _ (hS5.sk 3 rfl))) rfl rfl (by decide) ?_
 rintro a14 _ w16 ⟨rfl, hE17⟩ hA15; have hS18 := hS5.step hE17; clear hE17 hA13 hS5 a12
 refine st hA15 (op_move rfl (hA15.ev rfl)) rfl rfl (by decide) fun a19 hA20 => ?_; clear hA15 a14
 rcases Bool.eq_false_or_eq_true ((thinB R rs plan.length)) with hb21 | hb21
 ·skip
  rw [hb21] at hA20
  have hth := thin_of (R := R) (rs := rs) (pl := plan.length) (by assumption); have h6 := hth.mat; have h12 := hth.plan
  refine stg hA20 (op_loadA rfl ty_24 (hA20.ev rfl) (hS18.bk 0 rfl) (l := [vr]) rfl rfl) rfl rfl rfl rfl (by decide) fun a22 hA23 => ?_; clear hA20 a19
  refine stg hA23 (op_move rfl (hA23.ev rfl)) rfl rfl rfl rfl (by decide) fun a24 hA25 => ?_; clear hA23 a22
  refine stwg hA25 (op_call rfl en_41 (ev2 (hA25.ev rfl) (hA25.ev rfl)) (fault_ok _ R _ (hS18.sk 1 rfl) rs _ _ (runs_at (hS18.ok 2 _ rfl)))) rfl rfl rfl rfl (by decide) ?_
  rintro a26 _ w28 ⟨rfl, hE29⟩ hA27; have hS30 := hS18.step hE29; clear hE29 hA25 hS18 a24
  refine stg hA27 (op_eql rfl (hA27.ev rfl) (evc _ _)) rfl rfl rfl rfl (by decide) fun a31 hA32 => ?_; clear hA27 a26
  refine st hA32 (op_pick_t rfl (hA32.ev rfl) (hA32.ev rfl)) rfl rfl (by decide) fun a33 hA34 => ?_; clear hA32 a31
  refine st hA34 (op_move rfl (hA34.ev rfl)) rfl rfl (by decide) fun a35 hA36 => ?_; clear hA34 a33
  by_cases hb37 : (enterF R rs) = 0
  ·skip
   rw [decide_eq_true hb37] at hA36
   refine stg hA36 (op_loadA rfl ty_24 (hA36.ev rfl) (hS30.bk 0 rfl) (l := [vr]) rfl rfl) rfl rfl rfl rfl (by decide) fun a38 hA39 => ?_; clear hA36 a35
   refine stg hA39 (op_move rfl (hA39.ev rfl)) rfl rfl rfl rfl (by decide) fun a40 hA41 => ?_; clear hA39 a38
   refine stwg hA41 (op_call rfl en_33 (ev2 (hA41.ev rfl) (hA41.ev rfl)) (IsPlan_ok _ R _ (hS30.sk 1 rfl) plan _ (hS30.sk 3 rfl) (by omega) (by omega))) rfl rfl rfl rfl (by decide) ?_
   rintro a42 _ w44 ⟨rfl, hE45⟩ hA43; have hS46 := hS30.step hE45; clear hE45 hA41 hS30 a40
   refine st hA43 (op_pick_t rfl (hA43.ev rfl) (hA43.ev rfl)) rfl rfl (by decide) fun a47 hA48 => ?_; clear hA43 a42
   refine st hA48 (op_assign rfl (hA48.ev rfl)) rfl rfl (by decide) fun a49 hA50 => ?_; clear hA48 a47
   refine wl_nil ?_
   refine then_n ?_
   refine c_ret ?_
   refine fin_run hA50 (.inl rfl) (run_results1 hA50 rfl (.tmp rfl)) ?_
   exact ⟨congrArg Value.bool (by unfold readyB; simp [*]), hS46.ext⟩
  ·skip
   rw [decide_eq_false hb37] at hA36
   refine skp hA36 rfl rfl rfl rfl rfl (by decide) fun a51 hA52 => ?_; clear hA36 a35
   refine skp hA52 rfl rfl rfl rfl rfl (by decide) fun a53 hA54 => ?_; clear hA52 a51
   refine skp hA54 rfl rfl rfl rfl rfl (by decide) fun a55 hA56 => ?_; clear hA54 a53
   refine st hA56 (op_pick_f rfl (hA56.ev rfl) (evc _ _)) rfl rfl (by decide) fun a57 hA58 => ?_; clear hA56 a55
   refine st hA58 (op_assign rfl (hA58.ev rfl)) rfl rfl (by decide) fun a59 hA60 => ?_; clear hA58 a57
   refine wl_nil ?_
   refine then_n ?_
   refine c_ret ?_
   refine fin_run hA60 (.inl rfl) (run_results1 hA60 rfl (.tmp rfl)) ?_
   exact ⟨congrArg Value.bool (by unfold readyB; simp [*]), hS30.ext⟩
 ·skip
  rw [hb21] at hA20
  refine skp hA20 rfl rfl rfl rfl rfl (by decide) fun a61 hA62 => ?_; clear hA20 a19
  refine skp hA62 rfl rfl rfl rfl rfl (by decide) fun a63 hA64 => ?_; clear hA62 a61
  refine skp hA64 rfl rfl rfl rfl rfl (by decide) fun a65 hA66 => ?_; clear hA64 a63
  refine skp hA66 rfl rfl rfl rfl rfl (by decide) fun a67 hA68 => ?_; clear hA66 a65
  refine st hA68 (op_pick_f rfl (hA68.ev rfl) (evc _ _)) rfl rfl (by decide) fun a69 hA70 => ?_; clear hA68 a67
  refine st hA70 (op_move rfl (hA70.ev rfl)) rfl rfl (by decide) fun a71 hA72 => ?_; clear hA70 a69
  refine skp hA72 rfl rfl rfl rfl rfl (by decide) fun a73 hA74 => ?_; clear hA72 a71
  refine skp hA74 rfl rfl rfl rfl rfl (by decide) fun a75 hA76 => ?_; clear hA74 a73
  refine skp hA76 rfl rfl rfl rfl rfl (by decide) fun a77 hA78 => ?_; clear hA76 a75
  refine st hA78 (op_pick_f rfl (hA78.ev rfl) (evc _ _)) rfl rfl (by decide) fun a79 hA80 => ?_; clear hA78 a77
  refine st hA80 (op_assign rfl (hA80.ev rfl)) rfl rfl (by decide) fun a81 hA82 => ?_; clear hA80 a79
  refine wl_nil ?_
  refine then_n ?_
  refine c_ret ?_
  refine fin_run hA82 (.inl rfl) (run_results1 hA82 rfl (.tmp rfl)) ?_
  exact ⟨congrArg Value.bool (by unfold readyB; simp [*]), hS18.ext⟩
end Go.Proofs.Ytkkglkdnnfegkaa

namespace Go.Proofs.Ytkkglkdnnfegkaa
open Go.RowKit Go.Shelf Go.Eng
theorem word_ok (w : World) (ws : List Int) (xw : Value) (hxw : SlAt w xw 1 ws.length (ws.map (Value.int .u16))) (hw : WordsV ws) (n : Int) (hn : 0 ≤ n ∧ n ≤ 1000000) :
  Calls Try.prog 49 #[xw, (Value.int .i64 n)] w (Ret fun v w' => v = .int .i64 (wordF ws n) ∧ Ext NoB w w') := by
 refine calls_enter Try.func49 rfl fun a0 hA0 => ?_
 replace hA0 : Fr 16 [] [(0, xw), (1, (Value.int .i64 n))] a0 := hA0
 have hwb := words_bd hw (n.tmod (ws.length : Int)).toNat
 have hS0 : Sep NoB w w [(sl xw 1 ws.length (ws.map (Value.int .u16)))] := sep_ro ⟨rfl, hxw, trivial⟩
 refine c_seq ?_
 refine c_region ?_
 refine st hA0 (op_assign rfl (evc _ _)) rfl rfl (by decide) fun a1 hA2 => ?_; clear hA0 a0
 refine wl_nil ?_
 refine then_n ?_
 refine c_seq ?_
 refine c_seq ?_
 refine c_region ?_
 refine st hA2 (op_move rfl (hA2.ev rfl)) rfl rfl (by decide) fun a3 hA4 => ?_; clear hA2 a1
 refine st hA4 (op_lenS rfl un_87 (hA4.ev rfl) (hS0.sk 0 rfl)) rfl rfl (by decide) fun a5 hA6 => ?_; clear hA4 a3
 refine st hA6 (op_eql rfl (hA6.ev rfl) (evc _ _)) rfl rfl (by decide) fun a7 hA8 => ?_; clear hA6 a5
 refine wl_nil ?_
 refine then_n ?_
 by_cases hb9 : (ws.length : Int) = 0
 ·skip
  rw [decide_eq_true hb9] at hA8
  refine c_true hA8 rfl ?_
  refine c_seq ?_
  have hA10 := hA8.as [] rfl; clear hA8
  refine c_region ?_
  refine st hA10 (op_assign rfl (evc _ _)) rfl rfl (by decide) fun a11 hA12 => ?_; clear hA10 a7
  refine wl_nil ?_
  refine then_n ?_
  refine c_ret ?_
  refine then_ret ?_
  refine fin_run hA12 (.inl rfl) (run_results1 hA12 rfl (.tmp rfl)) ?_
  exact ⟨ret_int (by unfold wordF; first | rw [if_pos (by omega)] | rw [if_neg (by omega)]), hS0.ext⟩
 ·skip
  rw [decide_eq_false hb9] at hA8
  have hrb := rem_bd (y := n) (d := (ws.length : Int)) hn.1 (by omega)
  refine c_false hA8 rfl ?_
  refine c_skip ?_
  refine then_n ?_
  refine c_seq ?_
  refine c_region ?_
  refine st hA8 (op_move rfl (hA8.ev rfl)) rfl rfl (by decide) fun a13 hA14 => ?_; clear hA8 a7
  refine st hA14 (op_move rfl (hA14.ev rfl)) rfl rfl (by decide) fun a15 hA16 => ?_; clear hA14 a13
  refine st hA16 (op_move rfl (hA16.ev rfl)) rfl rfl (by decide) fun a17 hA18 => ?_; clear hA16 a15
  refine st hA18 (op_lenS rfl un_87 (hA18.ev rfl) (hS0.sk 0 rfl)) rfl rfl (by decide) fun a19 hA20 => ?_; clear hA18 a17
  refine st hA20 (op_rem rfl (hA20.ev rfl) (hA20.ev rfl) (by omega)) rfl rfl (by decide) fun a21 hA22 => ?_; clear hA20 a19
  refine st hA22 (op_indexS rfl un_87 ty_52 (hA22.ev rfl) (i := ((n).tmod (ws.length : Int)).toNat) ((hA22.ev rfl).trans (int_nat (by omega))) (hS0.sk 0 rfl) (by decide) (by omega)) rfl rfl (by decide) fun a23 hA24 => ?_; clear hA22 a21
  refine st hA24 (op_load1E rfl ty_52 (hA24.ev rfl) (hS0.sk 0 rfl) (words_at1 (by omega))) rfl rfl (by decide) fun a25 hA26 => ?_; clear hA24 a23
  refine st hA26 (op_conv un_52 un_3 rfl (hA26.ev rfl) (v := ws.getD (((n).tmod (ws.length : Int)).toNat) 0) (wrap_i64 (by omega) (by omega))) rfl rfl (by decide) fun a27 hA28 => ?_; clear hA26 a25
  refine st hA28 (op_assign rfl (hA28.ev rfl)) rfl rfl (by decide) fun a29 hA30 => ?_; clear hA28 a27
  refine wl_nil ?_
  refine then_n ?_
  refine c_ret ?_
  refine fin_run hA30 (.inl rfl) (run_results1 hA30 rfl (.tmp rfl)) ?_
  exact ⟨ret_int (by unfold wordF; first | rw [if_pos (by omega)] | rw [if_neg (by omega)]), hS0.ext⟩
set_option maxHeartbeats 1000000 in
theorem Truly_ok (w : World) (R : List (Int × Int)) (vr : Value) (hm : SlAt w vr 2 R.length (pairs R)) (ws : List Int) (xw : Value) (hxw : SlAt w xw 1 ws.length (ws.map (Value.int .u16))) (hw : WordsV ws) (hR : MatV R) :
  Calls Try.prog 47 #[(Value.agg #[vr]), xw] w (Ret fun v w' => Ext NoB w w' ∧ w'.ownsRow w.heap.size 3 1 v (trulyF R ws).length (ints (trulyF R ws))) := by
 refine calls_enter Try.func47 rfl fun a0 hA0 => ?_
 replace hA0 : Fr 88 [] [(0, (Value.agg #[vr])), (1, xw)] a0 := hA0
 have hR3 := hR.1
 have hS0 : Sep NoB w w [(sl xw 1 ws.length (ws.map (Value.int .u16))), (sl vr 2 R.length (pairs R))] := sep_ro ⟨rfl, hxw, rfl, hm, trivial⟩
 refine c_seq ?_
 refine c_region ?_
 refine stw hA0 (op_box hS0 rfl (hA0.ev rfl) (cs := [vr]) rfl) rfl rfl (by decide) ?_
 rintro a1 _ w3 ⟨b4, rfl, hS5⟩ hA2; clear hA0 hS0 a0
 refine st hA2 (op_assign rfl (evc _ _)) rfl rfl (by decide) fun a6 hA7 => ?_; clear hA2 a1
 refine wl_nil ?_
 refine then_n ?_
 refine c_seq ?_
 refine c_region ?_
 refine st hA7 (op_assign rfl (evc _ _)) rfl rfl (by decide) fun a8 hA9 => ?_; clear hA7 a6
 have hS10 := hS5.nil_row 3 1; clear hS5
 refine wl_nil ?_
 refine then_n ?_
 refine c_seq ?_
 refine c_seq ?_
 refine c_region ?_
 refine st hA9 (op_assign rfl (evc _ _)) rfl rfl (by decide) fun a11 hA12 => ?_; clear hA9 a8
 refine wl_nil ?_
 refine then_n ?_
 refine c_block ?_
 have hA13 := hA12.as [(6, (Value.int .i64 0)), (5, (Value.slice none 0 0)), (2, (bptr b4 0)), (1, xw)] rfl; clear hA12
 refine c_loop (G := Nat) (fun (k : Nat) a_ w_ => ∃ v5_ : Value, Fr 88 [] [(6, (Value.int .i64 (k : Int))), (5, v5_), (2, (bptr b4 0)), (1, xw)] a_ ∧ Sep NoB w w_ [(row v5_ 3 1 ((trU R ws k).length) (ints (trU R ws k))), (blk b4 24 [vr]), (sl xw 1 ws.length (ws.map (Value.int .u16))), (sl vr 2 R.length (pairs R))] ∧ (k ≤ R.length)) (fun k => R.length - k) 0 ⟨(Value.slice none 0 0), hA13.as _ rfl, hS10, by omega⟩ ?_
 clear hA13 hS10 a11
 rintro k a14 w16 ⟨v5_, hA15, hS17, hk⟩
 have htl := trU_len R ws k; have hti := trU_inv hR hw k; have hRk := hR.2 k; have hwb := word_bd hw (k : Int); have hrb := rem_bd (y := wordF ws (k : Int)) (d := (R.getD k (0, 0)).2 - (R.getD k (0, 0)).1 + 1) hwb.1 (by omega)
 refine c_seq ?_
 refine c_seq ?_
 refine c_region ?_
 refine st hA15 (op_move rfl (hA15.ev rfl)) rfl rfl (by decide) fun a18 hA19 => ?_; clear hA15 a14
 refine st hA19 (op_field rfl fd_24_0 (hA19.ev rfl)) rfl rfl (by decide) fun a20 hA21 => ?_; clear hA19 a18
 refine st hA21 (op_load1 rfl ty_22 (hA21.ev rfl) (hS17.bk 1 rfl) rfl) rfl rfl (by decide) fun a22 hA23 => ?_; clear hA21 a20
 refine st hA23 (op_lenS rfl un_22 (hA23.ev rfl) (hS17.sk 3 rfl)) rfl rfl (by decide) fun a24 hA25 => ?_; clear hA23 a22
 refine st hA25 (op_lss rfl (hA25.ev rfl) (hA25.ev rfl)) rfl rfl (by decide) fun a26 hA27 => ?_; clear hA25 a24
 refine wl_nil ?_
 refine then_n ?_
 by_cases hb28 : (k : Int) < (R.length : Int)
 ·skip
  rw [decide_eq_true hb28] at hA27
  refine c_true hA27 rfl ?_
  refine c_skip ?_
  refine then_n ?_
  refine c_seq ?_
  refine c_block ?_
  refine c_seq ?_
  refine c_region ?_
  refine st hA27 (op_field rfl fd_24_0 (hA27.ev rfl)) rfl rfl (by decide) fun a29 hA30 => ?_; clear hA27 a26
  refine st hA30 (op_load1 rfl ty_22 (hA30.ev rfl) (hS17.bk 1 rfl) rfl) rfl rfl (by decide) fun a31 hA32 => ?_; clear hA30 a29
  refine st hA32 (op_move rfl (hA32.ev rfl)) rfl rfl (by decide) fun a33 hA34 => ?_; clear hA32 a31
  refine st hA34 (op_indexS rfl un_22 ty_48 (hA34.ev rfl) (i := k) (hA34.ev rfl) (hS17.sk 3 rfl) (by decide) (by omega)) rfl rfl (by decide) fun a35 hA36 => ?_; clear hA34 a33
  refine st hA36 (op_loadAE rfl ty_48 (hA36.ev rfl) (hS17.sk 3 rfl) (pairs_all (by omega)) rfl (by decide)) rfl rfl (by decide) fun a37 hA38 => ?_; clear hA36 a35
  refine stw hA38 (op_alloc hS17 rfl ze_48 (cs := [(Value.int .i64 0), (Value.int .i64 0)]) rfl) rfl rfl (by decide) ?_
  rintro a39 _ w41 ⟨b42, rfl, hS43⟩ hA40; clear hA38 hS17 a37
  refine sts hA40 (op_store hS43 rfl ty_48 (hA40.ev rfl) (hA40.ev rfl) (i := 0) rfl (vs := [(Value.int .i64 ((R.getD k (0, 0)).1)), (Value.int .i64 ((R.getD k (0, 0)).2))]) rfl rfl rfl (Nat.le_of_ble_eq_true rfl)) rfl rfl ?_
  intro _ w44 hS45 hA46; clear hA40
  have hS47 : Sep NoB w w44 [(blk b42 48 [(Value.int .i64 ((R.getD k (0, 0)).1)), (Value.int .i64 ((R.getD k (0, 0)).2))]), (row v5_ 3 1 ((trU R ws k).length) (ints (trU R ws k))), (blk b4 24 [vr]), (sl xw 1 ws.length (ws.map (Value.int .u16))), (sl vr 2 R.length (pairs R))] := hS45; clear hS45 hS43
  refine wl_nil ?_
  refine then_n ?_
  refine c_seq ?_
  have hA48 := hA46.as [(7, (bptr b42 0)), (6, (Value.int .i64 (k : Int))), (5, v5_), (2, (bptr b4 0)), (1, xw)] rfl; clear hA46
  have hA49 := hA48.as [(7, (bptr b42 0)), (6, (Value.int .i64 (k : Int))), (5, v5_), (2, (bptr b4 0)), (1, xw)] rfl; clear hA48
  refine c_drawn mixed hA49 hS47 12 [[], [0], [], [], [2, 3], [], [5], [], [7], [6, 8], [9], [4, 10]] [(Yd.val (bptr b42 0)), (Yd.val (Value.int .i64 ((R.getD k (0, 0)).1))), (Yd.val xw), (Yd.val (Value.int .i64 (k : Int))), (Yd.val (Value.int .i64 (wordF ws (k : Int)))), (Yd.val (bptr b42 1)), (Yd.val (Value.int .i64 ((R.getD k (0, 0)).2))), (Yd.val (bptr b42 0)), (Yd.val (Value.int .i64 ((R.getD k (0, 0)).1))), (Yd.val (Value.int .i64 (((R.getD k (0, 0)).2) - ((R.getD k (0, 0)).1)))), (Yd.val (Value.int .i64 ((((R.getD k (0, 0)).2) - ((R.getD k (0, 0)).1)) + 1))), (Yd.val (Value.int .i64 (((wordF ws (k : Int))).tmod ((((R.getD k (0, 0)).2) - ((R.getD k (0, 0)).1)) + 1))))] (by decide +kernel) rfl rfl ?_ ?_
  ·skip
   refine ⟨fun a w hA hS hd => by exact opG_of rfl (dv (op_field rfl fd_48_0 (hA.ev rfl)) hS rfl), ?_⟩
   refine ⟨fun a w hA hS hd => by have e0 := has_ev (hd 0 (by decide)) rfl (fun _ h => h); exact opG_of rfl (dv (op_load1 rfl ty_3 (tmp_ev e0) (hS.bk 0 rfl) rfl) hS rfl), ?_⟩
   refine ⟨fun a w hA hS hd => by exact opG_of rfl (dv (op_move rfl (hA.ev rfl)) hS rfl), ?_⟩
   refine ⟨fun a w hA hS hd => by exact opG_of rfl (dv (op_move rfl (hA.ev rfl)) hS rfl), ?_⟩
   refine ⟨fun a w hA hS hd => by have e2 := has_ev (hd 2 (by decide)) rfl (fun _ h => h); have e3 := has_ev (hd 3 (by decide)) rfl (fun _ h => h); exact opG_of rfl (dx (op_call rfl en_49 (ev2 (tmp_ev e2) (tmp_ev e3)) (word_ok _ ws _ (hS.sk 3 rfl) hw (k : Int) (by omega))) hS (fun _ => rfl)), ?_⟩
   refine ⟨fun a w hA hS hd => by exact opG_of rfl (dv (op_field rfl fd_48_1 (hA.ev rfl)) hS rfl), ?_⟩
   refine ⟨fun a w hA hS hd => by have e5 := has_ev (hd 5 (by decide)) rfl (fun _ h => h); exact opG_of rfl (dv (op_load1 rfl ty_3 (tmp_ev e5) (hS.bk 0 rfl) rfl) hS rfl), ?_⟩
   refine ⟨fun a w hA hS hd => by exact opG_of rfl (dv (op_field rfl fd_48_0 (hA.ev rfl)) hS rfl), ?_⟩
   refine ⟨fun a w hA hS hd => by have e7 := has_ev (hd 7 (by decide)) rfl (fun _ h => h); exact opG_of rfl (dv (op_load1 rfl ty_3 (tmp_ev e7) (hS.bk 0 rfl) rfl) hS rfl), ?_⟩
   refine ⟨fun a w hA hS hd => by have e6 := has_ev (hd 6 (by decide)) rfl (fun _ h => h); have e8 := has_ev (hd 8 (by decide)) rfl (fun _ h => h); exact opG_of rfl (dv (op_sub rfl (tmp_ev e6) (tmp_ev e8) (by omega) (by omega)) hS rfl), ?_⟩
   refine ⟨fun a w hA hS hd => by have e9 := has_ev (hd 9 (by decide)) rfl (fun _ h => h); exact opG_of rfl (dv (op_add rfl (tmp_ev e9) (evc _ _) (by omega) (by omega)) hS rfl), ?_⟩
   refine ⟨fun a w hA hS hd => by have e4 := has_ev (hd 4 (by decide)) rfl (fun _ h => h); have e10 := has_ev (hd 10 (by decide)) rfl (fun _ h => h); exact opG_of rfl (dv (op_rem rfl (tmp_ev e4) (tmp_ev e10) (by omega)) hS rfl), ?_⟩
   trivial
  intro a51 w52 hA53 hS54 hH55; clear hA49 hS47
  have hA56 := hA53.add (has_ev (hH55 1 (by decide)) rfl (fun _ h => h)); clear hA53
  have hA57 := hA56.add (has_ev (hH55 11 (by decide)) rfl (fun _ h => h)); clear hA56
  clear hH55
  refine st hA57 (op_add rfl (hA57.ev rfl) (hA57.ev rfl) (by omega) (by omega)) rfl rfl (by decide) fun a58 hA59 => ?_; clear hA57 a51
  refine st hA59 (op_assign rfl (hA59.ev rfl)) rfl rfl (by decide) fun a60 hA61 => ?_; clear hA59 a58
  refine wl_nil ?_
  refine then_n ?_
  refine c_seq ?_
  refine c_seq ?_
  refine c_region ?_
  refine st hA61 (op_move rfl (hA61.ev rfl)) rfl rfl (by decide) fun a62 hA63 => ?_; clear hA61 a60
  refine st hA63 (op_gtr rfl (hA63.ev rfl) (evc _ _)) rfl rfl (by decide) fun a64 hA65 => ?_; clear hA63 a62
  refine wl_nil ?_
  refine then_n ?_
  by_cases hb66 : 0 < (k : Int)
  ·skip
   rw [decide_eq_true hb66] at hA65
   refine c_true hA65 rfl ?_
   have hA67 := hA65.as [(8, (Value.int .i64 (((R.getD k (0, 0)).1) + (((wordF ws (k : Int))).tmod ((((R.getD k (0, 0)).2) - ((R.getD k (0, 0)).1)) + 1))))), (6, (Value.int .i64 (k : Int))), (5, v5_), (2, (bptr b4 0)), (1, xw)] rfl; clear hA65
   refine c_region ?_
   refine st hA67 (op_move rfl (hA67.ev rfl)) rfl rfl (by decide) fun a68 hA69 => ?_; clear hA67 a64
   refine st hA69 (op_move rfl (hA69.ev rfl)) rfl rfl (by decide) fun a70 hA71 => ?_; clear hA69 a68
   refine st hA71 (op_move rfl (hA71.ev rfl)) rfl rfl (by decide) fun a72 hA73 => ?_; clear hA71 a70
   refine st hA73 (op_sub rfl (hA73.ev rfl) (evc _ _) (by omega) (by omega)) rfl rfl (by decide) fun a74 hA75 => ?_; clear hA73 a72
   refine st hA75 (op_indexS rfl un_40 ty_3 (hA75.ev rfl) (i := ((k : Int) - 1).toNat) ((hA75.ev rfl).trans (int_nat (by omega))) (SlAt.of_row (hS54.ok_row 1 rfl)) (by decide) (by omega)) rfl rfl (by decide) fun a76 hA77 => ?_; clear hA75 a74
   refine st hA77 (op_load1E rfl ty_3 (hA77.ev rfl) (SlAt.of_row (hS54.ok_row 1 rfl)) (ints_at (by omega))) rfl rfl (by decide) fun a78 hA79 => ?_; clear hA77 a76
   refine st hA79 (op_max rfl (hA79.ev rfl) (hA79.ev rfl)) rfl rfl (by decide) fun a80 hA81 => ?_; clear hA79 a78
   refine st hA81 (op_assign rfl (hA81.ev rfl)) rfl rfl (by decide) fun a82 hA83 => ?_; clear hA81 a80
   refine wl_nil ?_
   refine then_n ?_
   have hA84 := hA83.as [(8, (Value.int .i64 (max (((R.getD k (0, 0)).1) + (((wordF ws (k : Int))).tmod ((((R.getD k (0, 0)).2) - ((R.getD k (0, 0)).1)) + 1))) ((trU R ws k).getD (((k : Int) - 1).toNat) 0)))), (6, (Value.int .i64 (k : Int))), (5, v5_), (2, (bptr b4 0)), (1, xw)] rfl; clear hA83
   refine c_region ?_
   refine st hA84 (op_move rfl (hA84.ev rfl)) rfl rfl (by decide) fun a85 hA86 => ?_; clear hA84 a82
   refine st hA86 (op_move rfl (hA86.ev rfl)) rfl rfl (by decide) fun a87 hA88 => ?_; clear hA86 a85
   refine stw hA88 (op_buildSlice hS54 rfl (pv1 (hA88.ev rfl)) un_40 ty_3 ze_3 (by decide) (cs := [(Value.int .i64 (max (((R.getD k (0, 0)).1) + (((wordF ws (k : Int))).tmod ((((R.getD k (0, 0)).2) - ((R.getD k (0, 0)).1)) + 1))) ((trU R ws k).getD (((k : Int) - 1).toNat) 0)))]) (bs_3_1_0i _)) rfl rfl (by decide) ?_
   rintro a89 _ w91 ⟨b92, rfl, hS93⟩ hA90; clear hA88 hS54 a87
   refine stw hA90 (op_append hS93 rfl un_40 el_3 (hA90.ev rfl) (hA90.ev rfl) (i := 2) rfl (SlAt.of_blk (hS93.bk 0 rfl) rfl (Nat.le_of_ble_eq_true rfl)) rfl (by simp only [maxLen]; omega) (by omega)) rfl rfl (by decide) ?_
   intro a94 v97 w96 hS98 hA95
   have hS99 := hS98.row_say (i := 2) rfl (n' := ((trU R ws k) ++ [max (((R.getD k (0, 0)).1) + (((wordF ws (k : Int))).tmod ((((R.getD k (0, 0)).2) - ((R.getD k (0, 0)).1)) + 1))) ((trU R ws k).getD (((k : Int) - 1).toNat) 0)]).length) (xs' := (ints ((trU R ws k) ++ [max (((R.getD k (0, 0)).1) + (((wordF ws (k : Int))).tmod ((((R.getD k (0, 0)).2) - ((R.getD k (0, 0)).1)) + 1))) ((trU R ws k).getD (((k : Int) - 1).toNat) 0)]))) (by simp) (by simp [ints]); clear hS98 hA90 hS93 a89
   refine st hA95 (op_assign rfl (hA95.ev rfl)) rfl rfl (by decide) fun a100 hA101 => ?_; clear hA95 a94
   refine wl_nil ?_
   refine blk_n ?_
   refine then_n ?_
   refine c_region ?_
   refine st hA101 (op_move rfl (hA101.ev rfl)) rfl rfl (by decide) fun a102 hA103 => ?_; clear hA101 a100
   refine st hA103 (op_add rfl (hA103.ev rfl) (evc _ _) (by omega) (by omega)) rfl rfl (by decide) fun a104 hA105 => ?_; clear hA103 a102
   refine st hA105 (op_assign rfl (hA105.ev rfl)) rfl rfl (by decide) fun a106 hA107 => ?_; clear hA105 a104
   refine wl_nil ?_
   have hS108 : Sep NoB w w96 [(row v97 3 1 (((trU R ws k) ++ [max (((R.getD k (0, 0)).1) + (((wordF ws (k : Int))).tmod ((((R.getD k (0, 0)).2) - ((R.getD k (0, 0)).1)) + 1))) ((trU R ws k).getD (((k : Int) - 1).toNat) 0)]).length) (ints ((trU R ws k) ++ [max (((R.getD k (0, 0)).1) + (((wordF ws (k : Int))).tmod ((((R.getD k (0, 0)).2) - ((R.getD k (0, 0)).1)) + 1))) ((trU R ws k).getD (((k : Int) - 1).toNat) 0)]))), (blk b4 24 [vr]), (sl xw 1 ws.length (ws.map (Value.int .u16))), (sl vr 2 R.length (pairs R))] := hS99.keep [2, 3, 4, 5] (by decide) _ rfl rfl; clear hS99
   exact then_n ⟨k + 1, ⟨v97, hA107.as _ rfl, (hS108.row_say (i := 0) rfl (n' := (trU R ws (k + 1)).length) (xs' := ints (trU R ws (k + 1))) (by first | (rw [trU_p (by assumption)]; rfl) | (rw [trU_z (by assumption)]; rfl)) (by first | (rw [trU_p (by assumption)]; rfl) | (rw [trU_z (by assumption)]; rfl))), by omega⟩, by omega⟩
  ·skip
   rw [decide_eq_false hb66] at hA65
   refine c_false hA65 rfl ?_
   refine c_skip ?_
   refine then_n ?_
   have hA109 := hA65.as [(8, (Value.int .i64 (((R.getD k (0, 0)).1) + (((wordF ws (k : Int))).tmod ((((R.getD k (0, 0)).2) - ((R.getD k (0, 0)).1)) + 1))))), (6, (Value.int .i64 (k : Int))), (5, v5_), (2, (bptr b4 0)), (1, xw)] rfl; clear hA65
   refine c_region ?_
   refine st hA109 (op_move rfl (hA109.ev rfl)) rfl rfl (by decide) fun a110 hA111 => ?_; clear hA109 a64
   refine st hA111 (op_move rfl (hA111.ev rfl)) rfl rfl (by decide) fun a112 hA113 => ?_; clear hA111 a110
   refine stw hA113 (op_buildSlice hS54 rfl (pv1 (hA113.ev rfl)) un_40 ty_3 ze_3 (by decide) (cs := [(Value.int .i64 (((R.getD k (0, 0)).1) + (((wordF ws (k : Int))).tmod ((((R.getD k (0, 0)).2) - ((R.getD k (0, 0)).1)) + 1))))]) (bs_3_1_0i _)) rfl rfl (by decide) ?_
   rintro a114 _ w116 ⟨b117, rfl, hS118⟩ hA115; clear hA113 hS54 a112
   refine stw hA115 (op_append hS118 rfl un_40 el_3 (hA115.ev rfl) (hA115.ev rfl) (i := 2) rfl (SlAt.of_blk (hS118.bk 0 rfl) rfl (Nat.le_of_ble_eq_true rfl)) rfl (by simp only [maxLen]; omega) (by omega)) rfl rfl (by decide) ?_
   intro a119 v122 w121 hS123 hA120
   have hS124 := hS123.row_say (i := 2) rfl (n' := ((trU R ws k) ++ [((R.getD k (0, 0)).1) + (((wordF ws (k : Int))).tmod ((((R.getD k (0, 0)).2) - ((R.getD k (0, 0)).1)) + 1))]).length) (xs' := (ints ((trU R ws k) ++ [((R.getD k (0, 0)).1) + (((wordF ws (k : Int))).tmod ((((R.getD k (0, 0)).2) - ((R.getD k (0, 0)).1)) + 1))]))) (by simp) (by simp [ints]); clear hS123 hA115 hS118 a114
   refine st hA120 (op_assign rfl (hA120.ev rfl)) rfl rfl (by decide) fun a125 hA126 => ?_; clear hA120 a119
   refine wl_nil ?_
   refine blk_n ?_
   refine then_n ?_
   refine c_region ?_
   refine st hA126 (op_move rfl (hA126.ev rfl)) rfl rfl (by decide) fun a127 hA128 => ?_; clear hA126 a125
   refine st hA128 (op_add rfl (hA128.ev rfl) (evc _ _) (by omega) (by omega)) rfl rfl (by decide) fun a129 hA130 => ?_; clear hA128 a127
   refine st hA130 (op_assign rfl (hA130.ev rfl)) rfl rfl (by decide) fun a131 hA132 => ?_; clear hA130 a129
   refine wl_nil ?_
   have hS133 : Sep NoB w w121 [(row v122 3 1 (((trU R ws k) ++ [((R.getD k (0, 0)).1) + (((wordF ws (k : Int))).tmod ((((R.getD k (0, 0)).2) - ((R.getD k (0, 0)).1)) + 1))]).length) (ints ((trU R ws k) ++ [((R.getD k (0, 0)).1) + (((wordF ws (k : Int))).tmod ((((R.getD k (0, 0)).2) - ((R.getD k (0, 0)).1)) + 1))]))), (blk b4 24 [vr]), (sl xw 1 ws.length (ws.map (Value.int .u16))), (sl vr 2 R.length (pairs R))] := hS124.keep [2, 3, 4, 5] (by decide) _ rfl rfl; clear hS124
   exact then_n ⟨k + 1, ⟨v122, hA132.as _ rfl, (hS133.row_say (i := 0) rfl (n' := (trU R ws (k + 1)).length) (xs' := ints (trU R ws (k + 1))) (by first | (rw [trU_p (by assumption)]; rfl) | (rw [trU_z (by assumption)]; rfl)) (by first | (rw [trU_p (by assumption)]; rfl) | (rw [trU_z (by assumption)]; rfl))), by omega⟩, by omega⟩
 ·skip
  rw [decide_eq_false hb28] at hA27
  refine c_false hA27 rfl ?_
  refine c_exit ?_
  refine then_exit ?_
  refine then_exit ?_
  refine blk_hit ?_
  refine then_n ?_
  refine c_seq ?_
  refine c_seq ?_
  have hA134 := hA27.as [(5, v5_), (2, (bptr b4 0))] rfl; clear hA27
  have hS135 := hS17.row_say (i := 0) rfl (n' := (dnL R (trU R ws R.length) 0).length) (xs' := (ints (dnL R (trU R ws R.length) 0))) (by rw [show k = R.length by omega]; rfl) (by rw [show k = R.length by omega]; rfl); clear hS17
  have h0l_ : (dnL R (trU R ws R.length) 0).length = R.length := by rw [dnL_len, trU_len]
  refine c_region ?_
  refine st hA134 (op_move rfl (hA134.ev rfl)) rfl rfl (by decide) fun a136 hA137 => ?_; clear hA134 a26
  refine st hA137 (op_lenS rfl un_40 (hA137.ev rfl) (SlAt.of_row (hS135.ok_row 0 rfl))) rfl rfl (by decide) fun a138 hA139 => ?_; clear hA137 a136
  refine st hA139 (op_sub rfl (hA139.ev rfl) (evc _ _) (by omega) (by omega)) rfl rfl (by decide) fun a140 hA141 => ?_; clear hA139 a138
  refine st hA141 (op_assign rfl (hA141.ev rfl)) rfl rfl (by decide) fun a142 hA143 => ?_; clear hA141 a140
  refine wl_nil ?_
  refine then_n ?_
  refine c_block ?_
  have hA144 := hA143.as [(9, (Value.int .i64 (((dnL R (trU R ws R.length) 0).length : Int) - 1))), (5, v5_), (2, (bptr b4 0))] rfl; clear hA143
  refine c_loop (G := Nat) (fun (s : Nat) a_ w_ => ∃ v5_ : Value, Fr 88 [] [(9, (Value.int .i64 ((R.length : Int) - ((s + 1 : Nat) : Int)))), (5, v5_), (2, (bptr b4 0))] a_ ∧ Sep NoB w w_ [(row v5_ 3 1 ((dnL R (trU R ws R.length) s).length) (ints (dnL R (trU R ws R.length) s))), (blk b4 24 [vr]), (sl xw 1 ws.length (ws.map (Value.int .u16))), (sl vr 2 R.length (pairs R))] ∧ (s ≤ R.length)) (fun s => R.length - s) 0 ⟨v5_, hA144.as _ (by rw [h0l_]; rfl), hS135, by omega⟩ ?_
  clear hA144 hS135 a142
  rintro s a145 w147 ⟨v5_, hA146, hS148, hks⟩
  have htT := trU_len R ws R.length; have hdl : (dnL R (trU R ws R.length) s).length = R.length := (by rw [dnL_len, trU_len]); have hds : (dnS R (dnL R (trU R ws R.length) s) (R.length - 1 - s)).length = R.length := (by rw [dnS_len, dnL_len, trU_len])
  refine c_seq ?_
  refine c_seq ?_
  refine c_region ?_
  refine st hA146 (op_move rfl (hA146.ev rfl)) rfl rfl (by decide) fun a149 hA150 => ?_; clear hA146 a145
  refine st hA150 (op_geq rfl (hA150.ev rfl) (evc _ _)) rfl rfl (by decide) fun a151 hA152 => ?_; clear hA150 a149
  refine wl_nil ?_
  refine then_n ?_
  by_cases hb153 : 0 ≤ ((R.length : Int) - ((s + 1 : Nat) : Int))
  ·skip
   rw [decide_eq_true hb153] at hA152
   refine c_true hA152 rfl ?_
   refine c_skip ?_
   refine then_n ?_
   refine c_seq ?_
   refine c_block ?_
   refine c_seq ?_
   rw [show ((R.length : Int) - ((s + 1 : Nat) : Int)) = ((R.length - 1 - s : Nat) : Int) from by omega] at hA152
   have hA154 := hA152.as [(9, (Value.int .i64 ((R.length - 1 - s : Nat) : Int))), (5, v5_), (2, (bptr b4 0))] rfl; clear hA152
   refine c_drawn mixed hA154 hS148 13 [[], [], [], [], [2, 3], [4], [], [6], [], [7, 8], [9], [10], [5, 11]] [(Yd.val v5_), (Yd.val (Value.int .i64 ((R.length - 1 - s : Nat) : Int))), (Yd.val v5_), (Yd.val (Value.int .i64 ((R.length - 1 - s : Nat) : Int))), (Yd.val (eptr v5_ ((R.length - 1 - s : Nat) * 1))), (Yd.val (Value.int .i64 ((dnL R (trU R ws R.length) s).getD (R.length - 1 - s : Nat) 0))), (Yd.val (bptr b4 0)), (Yd.val vr), (Yd.val (Value.int .i64 ((R.length - 1 - s : Nat) : Int))), (Yd.val (eptr vr ((R.length - 1 - s : Nat) * 2))), (Yd.val (eptr vr ((R.length - 1 - s : Nat) * 2 + 1))), (Yd.val (Value.int .i64 ((R.getD (R.length - 1 - s : Nat) (0, 0)).2))), (Yd.val (Value.int .i64 (min ((dnL R (trU R ws R.length) s).getD (R.length - 1 - s : Nat) 0) ((R.getD (R.length - 1 - s : Nat) (0, 0)).2))))] (by decide +kernel) rfl rfl ?_ ?_
   ·skip
    refine ⟨fun a w hA hS hd => by exact opG_of rfl (dv (op_move rfl (hA.ev rfl)) hS rfl), ?_⟩
    refine ⟨fun a w hA hS hd => by exact opG_of rfl (dv (op_move rfl (hA.ev rfl)) hS rfl), ?_⟩
    refine ⟨fun a w hA hS hd => by exact opG_of rfl (dv (op_move rfl (hA.ev rfl)) hS rfl), ?_⟩
    refine ⟨fun a w hA hS hd => by exact opG_of rfl (dv (op_move rfl (hA.ev rfl)) hS rfl), ?_⟩
    refine ⟨fun a w hA hS hd => by have e2 := has_ev (hd 2 (by decide)) rfl (fun _ h => h); have e3 := has_ev (hd 3 (by decide)) rfl (fun _ h => h); exact opG_of rfl (dv (op_indexS rfl un_40 ty_3 (tmp_ev e2) (i := (R.length - 1 - s : Nat)) (tmp_ev e3) (SlAt.of_row (hS.ok_row 0 rfl)) (by decide) (by omega)) hS rfl), ?_⟩
    refine ⟨fun a w hA hS hd => by have e4 := has_ev (hd 4 (by decide)) rfl (fun _ h => h); exact opG_of rfl (dv (op_load1E rfl ty_3 (tmp_ev e4) (SlAt.of_row (hS.ok_row 0 rfl)) (ints_at (by omega))) hS rfl), ?_⟩
    refine ⟨fun a w hA hS hd => by exact opG_of rfl (dv (op_field rfl fd_24_0 (hA.ev rfl)) hS rfl), ?_⟩
    refine ⟨fun a w hA hS hd => by have e6 := has_ev (hd 6 (by decide)) rfl (fun _ h => h); exact opG_of rfl (dv (op_load1 rfl ty_22 (tmp_ev e6) (hS.bk 1 rfl) rfl) hS rfl), ?_⟩
    refine ⟨fun a w hA hS hd => by exact opG_of rfl (dv (op_move rfl (hA.ev rfl)) hS rfl), ?_⟩
    refine ⟨fun a w hA hS hd => by have e7 := has_ev (hd 7 (by decide)) rfl (fun _ h => h); have e8 := has_ev (hd 8 (by decide)) rfl (fun _ h => h); exact opG_of rfl (dv (op_indexS rfl un_22 ty_48 (tmp_ev e7) (i := (R.length - 1 - s : Nat)) (tmp_ev e8) (hS.sk 3 rfl) (by decide) (by omega)) hS rfl), ?_⟩
    refine ⟨fun a w hA hS hd => by have e9 := has_ev (hd 9 (by decide)) rfl (fun _ h => h); exact opG_of rfl (dv (op_fieldS rfl fd_48_1 (tmp_ev e9) (hS.sk 3 rfl) (by rw [((hS.sk 3 rfl)).1]; omega)) hS rfl), ?_⟩
    refine ⟨fun a w hA hS hd => by have e10 := has_ev (hd 10 (by decide)) rfl (fun _ h => h); exact opG_of rfl (dv (op_load1E rfl ty_3 (tmp_ev e10) (hS.sk 3 rfl) (pairs_at1 (by omega))) hS rfl), ?_⟩
    refine ⟨fun a w hA hS hd => by have e5 := has_ev (hd 5 (by decide)) rfl (fun _ h => h); have e11 := has_ev (hd 11 (by decide)) rfl (fun _ h => h); exact opG_of rfl (dv (op_min rfl (tmp_ev e5) (tmp_ev e11)) hS rfl), ?_⟩
    trivial
   intro a156 w157 hA158 hS159 hH160; clear hA154 hS148
   have hA161 := hA158.add (has_ev (hH160 0 (by decide)) rfl (fun _ h => h)); clear hA158
   have hA162 := hA161.add (has_ev (hH160 1 (by decide)) rfl (fun _ h => h)); clear hA161
   have hA163 := hA162.add (has_ev (hH160 12 (by decide)) rfl (fun _ h => h)); clear hA162
   clear hH160
   refine st hA163 (op_indexS rfl un_40 ty_3 (hA163.ev rfl) (i := (R.length - 1 - s : Nat)) (hA163.ev rfl) (SlAt.of_row (hS159.ok_row 0 rfl)) (by decide) (by omega)) rfl rfl (by decide) fun a164 hA165 => ?_; clear hA163 a156
   refine sts hA165 (op_storeE hS159 rfl ty_3 (hA165.ev rfl) (hA165.ev rfl) (i := 0) rfl (vs := [(Value.int .i64 (min ((dnL R (trU R ws R.length) s).getD (R.length - 1 - s : Nat) 0) ((R.getD (R.length - 1 - s : Nat) (0, 0)).2)))]) rfl rfl rfl (by rw [ints, List.length_map]; omega) (by decide)) rfl rfl ?_
   intro _ w166 hS167 hA169; have hS168 := hS167.row_say (i := 0) rfl (n' := ((dnL R (trU R ws R.length) s).set (R.length - 1 - s : Nat) (min ((dnL R (trU R ws R.length) s).getD (R.length - 1 - s : Nat) 0) ((R.getD (R.length - 1 - s : Nat) (0, 0)).2))).length) (xs' := (ints ((dnL R (trU R ws R.length) s).set (R.length - 1 - s : Nat) (min ((dnL R (trU R ws R.length) s).getD (R.length - 1 - s : Nat) 0) ((R.getD (R.length - 1 - s : Nat) (0, 0)).2))))) (by simp) (by simp [setFrom, ints, List.map_set]); clear hS167 hA165 hS159
   refine wl_nil ?_
   refine then_n ?_
   refine c_seq ?_
   have hS170 := hS168.row_say (i := 0) rfl (n' := (dnS R (dnL R (trU R ws R.length) s) (R.length - 1 - s)).length) (xs' := (ints (dnS R (dnL R (trU R ws R.length) s) (R.length - 1 - s)))) rfl rfl; clear hS168
   refine c_region ?_
   refine st hA169 (op_move rfl (hA169.ev rfl)) rfl rfl (by decide) fun a171 hA172 => ?_; clear hA169 a164
   refine st hA172 (op_add rfl (hA172.ev rfl) (evc _ _) (by omega) (by omega)) rfl rfl (by decide) fun a173 hA174 => ?_; clear hA172 a171
   refine st hA174 (op_move rfl (hA174.ev rfl)) rfl rfl (by decide) fun a175 hA176 => ?_; clear hA174 a173
   refine st hA176 (op_lenS rfl un_40 (hA176.ev rfl) (SlAt.of_row (hS170.ok_row 0 rfl))) rfl rfl (by decide) fun a177 hA178 => ?_; clear hA176 a175
   refine st hA178 (op_lss rfl (hA178.ev rfl) (hA178.ev rfl)) rfl rfl (by decide) fun a179 hA180 => ?_; clear hA178 a177
   refine wl_nil ?_
   refine then_n ?_
   by_cases hb181 : (((R.length - 1 - s : Nat) : Int) + 1) < ((dnS R (dnL R (trU R ws R.length) s) (R.length - 1 - s)).length : Int)
   ·skip
    rw [decide_eq_true hb181] at hA180
    refine c_true hA180 rfl ?_
    have hA182 := hA180.as [(9, (Value.int .i64 ((R.length - 1 - s : Nat) : Int))), (5, v5_), (2, (bptr b4 0))] rfl; clear hA180
    have hA183 := hA182.as [(9, (Value.int .i64 ((R.length - 1 - s : Nat) : Int))), (5, v5_), (2, (bptr b4 0))] rfl; clear hA182
    refine c_drawn mixed hA183 hS170 12 [[], [], [], [], [2, 3], [4], [], [], [7], [6, 8], [9], [5, 10]] [(Yd.val v5_), (Yd.val (Value.int .i64 ((R.length - 1 - s : Nat) : Int))), (Yd.val v5_), (Yd.val (Value.int .i64 ((R.length - 1 - s : Nat) : Int))), (Yd.val (eptr v5_ ((R.length - 1 - s : Nat) * 1))), (Yd.val (Value.int .i64 ((dnS R (dnL R (trU R ws R.length) s) (R.length - 1 - s)).getD (R.length - 1 - s : Nat) 0))), (Yd.val v5_), (Yd.val (Value.int .i64 ((R.length - 1 - s : Nat) : Int))), (Yd.val (Value.int .i64 (((R.length - 1 - s : Nat) : Int) + 1))), (Yd.val (eptr v5_ ((((R.length - 1 - s : Nat) : Int) + 1).toNat * 1))), (Yd.val (Value.int .i64 ((dnS R (dnL R (trU R ws R.length) s) (R.length - 1 - s)).getD ((((R.length - 1 - s : Nat) : Int) + 1).toNat) 0))), (Yd.val (Value.int .i64 (min ((dnS R (dnL R (trU R ws R.length) s) (R.length - 1 - s)).getD (R.length - 1 - s : Nat) 0) ((dnS R (dnL R (trU R ws R.length) s) (R.length - 1 - s)).getD ((((R.length - 1 - s : Nat) : Int) + 1).toNat) 0))))] (by decide +kernel) rfl rfl ?_ ?_
    ·skip
     refine ⟨fun a w hA hS hd => by exact opG_of rfl (dv (op_move rfl (hA.ev rfl)) hS rfl), ?_⟩
     refine ⟨fun a w hA hS hd => by exact opG_of rfl (dv (op_move rfl (hA.ev rfl)) hS rfl), ?_⟩
     refine ⟨fun a w hA hS hd => by exact opG_of rfl (dv (op_move rfl (hA.ev rfl)) hS rfl), ?_⟩
     refine ⟨fun a w hA hS hd => by exact opG_of rfl (dv (op_move rfl (hA.ev rfl)) hS rfl), ?_⟩
     refine ⟨fun a w hA hS hd => by have e2 := has_ev (hd 2 (by decide)) rfl (fun _ h => h); have e3 := has_ev (hd 3 (by decide)) rfl (fun _ h => h); exact opG_of rfl (dv (op_indexS rfl un_40 ty_3 (tmp_ev e2) (i := (R.length - 1 - s : Nat)) (tmp_ev e3) (SlAt.of_row (hS.ok_row 0 rfl)) (by decide) (by omega)) hS rfl), ?_⟩
     refine ⟨fun a w hA hS hd => by have e4 := has_ev (hd 4 (by decide)) rfl (fun _ h => h); exact opG_of rfl (dv (op_load1E rfl ty_3 (tmp_ev e4) (SlAt.of_row (hS.ok_row 0 rfl)) (ints_at (by omega))) hS rfl), ?_⟩
     refine ⟨fun a w hA hS hd => by exact opG_of rfl (dv (op_move rfl (hA.ev rfl)) hS rfl), ?_⟩
     refine ⟨fun a w hA hS hd => by exact opG_of rfl (dv (op_move rfl (hA.ev rfl)) hS rfl), ?_⟩
     refine ⟨fun a w hA hS hd => by have e7 := has_ev (hd 7 (by decide)) rfl (fun _ h => h); exact opG_of rfl (dv (op_add rfl (tmp_ev e7) (evc _ _) (by omega) (by omega)) hS rfl), ?_⟩
     refine ⟨fun a w hA hS hd => by have e6 := has_ev (hd 6 (by decide)) rfl (fun _ h => h); have e8 := has_ev (hd 8 (by decide)) rfl (fun _ h => h); exact opG_of rfl (dv (op_indexS rfl un_40 ty_3 (tmp_ev e6) (i := (((R.length - 1 - s : Nat) : Int) + 1).toNat) ((tmp_ev e8).trans (int_nat (by omega))) (SlAt.of_row (hS.ok_row 0 rfl)) (by decide) (by omega)) hS rfl), ?_⟩
     refine ⟨fun a w hA hS hd => by have e9 := has_ev (hd 9 (by decide)) rfl (fun _ h => h); exact opG_of rfl (dv (op_load1E rfl ty_3 (tmp_ev e9) (SlAt.of_row (hS.ok_row 0 rfl)) (ints_at (by omega))) hS rfl), ?_⟩
     refine ⟨fun a w hA hS hd => by have e5 := has_ev (hd 5 (by decide)) rfl (fun _ h => h); have e10 := has_ev (hd 10 (by decide)) rfl (fun _ h => h); exact opG_of rfl (dv (op_min rfl (tmp_ev e5) (tmp_ev e10)) hS rfl), ?_⟩
     trivial
    intro a185 w186 hA187 hS188 hH189; clear hA183 hS170
    have hA190 := hA187.add (has_ev (hH189 0 (by decide)) rfl (fun _ h => h)); clear hA187
    have hA191 := hA190.add (has_ev (hH189 1 (by decide)) rfl (fun _ h => h)); clear hA190
    have hA192 := hA191.add (has_ev (hH189 11 (by decide)) rfl (fun _ h => h)); clear hA191
    clear hH189
    refine st hA192 (op_indexS rfl un_40 ty_3 (hA192.ev rfl) (i := (R.length - 1 - s : Nat)) (hA192.ev rfl) (SlAt.of_row (hS188.ok_row 0 rfl)) (by decide) (by omega)) rfl rfl (by decide) fun a193 hA194 => ?_; clear hA192 a185
    refine sts hA194 (op_storeE hS188 rfl ty_3 (hA194.ev rfl) (hA194.ev rfl) (i := 0) rfl (vs := [(Value.int .i64 (min ((dnS R (dnL R (trU R ws R.length) s) (R.length - 1 - s)).getD (R.length - 1 - s : Nat) 0) ((dnS R (dnL R (trU R ws R.length) s) (R.length - 1 - s)).getD ((((R.length - 1 - s : Nat) : Int) + 1).toNat) 0)))]) rfl rfl rfl (by rw [ints, List.length_map]; omega) (by decide)) rfl rfl ?_
    intro _ w195 hS196 hA198; have hS197 := hS196.row_say (i := 0) rfl (n' := ((dnS R (dnL R (trU R ws R.length) s) (R.length - 1 - s)).set (R.length - 1 - s : Nat) (min ((dnS R (dnL R (trU R ws R.length) s) (R.length - 1 - s)).getD (R.length - 1 - s : Nat) 0) ((dnS R (dnL R (trU R ws R.length) s) (R.length - 1 - s)).getD ((((R.length - 1 - s : Nat) : Int) + 1).toNat) 0))).length) (xs' := (ints ((dnS R (dnL R (trU R ws R.length) s) (R.length - 1 - s)).set (R.length - 1 - s : Nat) (min ((dnS R (dnL R (trU R ws R.length) s) (R.length - 1 - s)).getD (R.length - 1 - s : Nat) 0) ((dnS R (dnL R (trU R ws R.length) s) (R.length - 1 - s)).getD ((((R.length - 1 - s : Nat) : Int) + 1).toNat) 0))))) (by simp) (by simp [setFrom, ints, List.map_set]); clear hS196 hA194 hS188
    refine wl_nil ?_
    refine blk_n ?_
    refine then_n ?_
    refine c_region ?_
    refine st hA198 (op_move rfl (hA198.ev rfl)) rfl rfl (by decide) fun a199 hA200 => ?_; clear hA198 a193
    refine st hA200 (op_sub rfl (hA200.ev rfl) (evc _ _) (by omega) (by omega)) rfl rfl (by decide) fun a201 hA202 => ?_; clear hA200 a199
    refine st hA202 (op_assign rfl (hA202.ev rfl)) rfl rfl (by decide) fun a203 hA204 => ?_; clear hA202 a201
    refine wl_nil ?_
    rw [show ((R.length - 1 - s : Nat) : Int) - 1 = ((R.length : Int) - ((s + 1 + 1 : Nat) : Int)) from by omega] at hA204
    exact then_n ⟨s + 1, ⟨v5_, hA204.as _ rfl, (hS197.row_say (i := 0) rfl (n' := (dnL R (trU R ws R.length) (s + 1)).length) (xs' := ints (dnL R (trU R ws R.length) (s + 1))) (by first | (rw [dnL_y htT (by assumption)]; done) | (rw [dnL_n htT (by assumption)]; done)) (by first | (rw [dnL_y htT (by assumption)]; done) | (rw [dnL_n htT (by assumption)]; done))), by omega⟩, by omega⟩
   ·skip
    rw [decide_eq_false hb181] at hA180
    refine c_false hA180 rfl ?_
    refine c_skip ?_
    refine blk_n ?_
    refine then_n ?_
    have hA205 := hA180.as [(9, (Value.int .i64 ((R.length - 1 - s : Nat) : Int))), (5, v5_), (2, (bptr b4 0))] rfl; clear hA180
    refine c_region ?_
    refine st hA205 (op_move rfl (hA205.ev rfl)) rfl rfl (by decide) fun a206 hA207 => ?_; clear hA205 a179
    refine st hA207 (op_sub rfl (hA207.ev rfl) (evc _ _) (by omega) (by omega)) rfl rfl (by decide) fun a208 hA209 => ?_; clear hA207 a206
    refine st hA209 (op_assign rfl (hA209.ev rfl)) rfl rfl (by decide) fun a210 hA211 => ?_; clear hA209 a208
    refine wl_nil ?_
    rw [show ((R.length - 1 - s : Nat) : Int) - 1 = ((R.length : Int) - ((s + 1 + 1 : Nat) : Int)) from by omega] at hA211
    exact then_n ⟨s + 1, ⟨v5_, hA211.as _ rfl, (hS170.row_say (i := 0) rfl (n' := (dnL R (trU R ws R.length) (s + 1)).length) (xs' := ints (dnL R (trU R ws R.length) (s + 1))) (by first | (rw [dnL_y htT (by assumption)]; done) | (rw [dnL_n htT (by assumption)]; done)) (by first | (rw [dnL_y htT (by assumption)]; done) | (rw [dnL_n htT (by assumption)]; done))), by omega⟩, by omega⟩
  ·skip
   rw [decide_eq_false hb153] at hA152
   refine c_false hA152 rfl ?_
   refine c_exit ?_
   refine then_exit ?_
   refine then_exit ?_
   refine blk_hit ?_
   refine then_n ?_
   refine c_seq ?_
   refine c_region ?_
   refine st hA152 (op_move rfl (hA152.ev rfl)) rfl rfl (by decide) fun a212 hA213 => ?_; clear hA152 a151
   refine st hA213 (op_assign rfl (hA213.ev rfl)) rfl rfl (by decide) fun a214 hA215 => ?_; clear hA213 a212
   refine wl_nil ?_
   refine then_n ?_
   refine c_ret ?_
   refine fin_run hA215 (.inl rfl) (run_results1 hA215 rfl (.tmp rfl)) ?_
   have hz := hS148.row_say (i := 0) rfl (n' := (trulyF R ws).length) (xs' := ints (trulyF R ws)) (by rw [show s = R.length by omega]; rfl) (by rw [show s = R.length by omega]; rfl)
   exact ⟨hz.ext, hz.row_new (i := 0) rfl⟩
end Go.Proofs.Ytkkglkdnnfegkaa

namespace Go.Proofs.Ytkkglkdnnfegkaa
open Go.RowKit Go.Shelf Go.Eng
set_option maxHeartbeats 4000000 in
theorem Made_ok (w : World) (rs : List RunD) (lv : List Value) (vu : Value) (hx : RunsAt w vu lv rs) (l : List Int) (xl : Value) (hxl : SlAt w xl 1 l.length (ints l)) (ws : List Int) (xw : Value) (hxw : SlAt w xw 1 ws.length (ws.map (Value.int .u16))) (hw : WordsV ws) (n : Nat) (hln : n ≤ l.length) (hr : ∀ i, 0 ≤ l.getD i 0 ∧ l.getD i 0 ≤ 1000) (hV : RunsV n rs) :
  Calls Try.prog 48 #[vu, xl, xw] w (Ret fun v w' => Ext NoB w w' ∧ w'.ownsRow w.heap.size 54 3 v (madeF ws l rs).length (vtrips (runV lv (madeF ws l rs)))) := by
 refine calls_enter Try.func48 rfl fun a0 hA0 => ?_
 replace hA0 : Fr 88 [] [(0, vu), (1, xl), (2, xw)] a0 := hA0
 have hvl := hV.len
 have hS0 : Sep NoB w w [(sl xl 1 l.length (ints l)), (sl xw 1 ws.length (ws.map (Value.int .u16))), (runsR false vu lv rs)] := sep_ro ⟨rfl, hxl, rfl, hxw, rfl, hx, trivial⟩
 refine c_seq ?_
 refine c_region ?_
 refine st hA0 (op_assign rfl (evc _ _)) rfl rfl (by decide) fun a1 hA2 => ?_; clear hA0 a0
 refine wl_nil ?_
 refine then_n ?_
 refine c_seq ?_
 refine c_region ?_
 refine st hA2 (op_assign rfl (evc _ _)) rfl rfl (by decide) fun a3 hA4 => ?_; clear hA2 a1
 have hS5 := hS0.nil_row 54 3; clear hS0
 refine wl_nil ?_
 refine then_n ?_
 refine c_seq ?_
 refine c_seq ?_
 refine c_region ?_
 refine st hA4 (op_assign rfl (evc _ _)) rfl rfl (by decide) fun a6 hA7 => ?_; clear hA4 a3
 refine wl_nil ?_
 refine then_n ?_
 refine c_block ?_
 have hA8 := hA7.as [(8, (Value.int .i64 0)), (7, (Value.slice none 0 0)), (0, vu), (1, xl), (2, xw)] rfl; clear hA7
 refine c_loop (G := Nat) (fun (k1 : Nat) a_ w_ => ∃ v7_ : Value, Fr 88 [] [(8, (Value.int .i64 (k1 : Int))), (7, v7_), (0, vu), (1, xl), (2, xw)] a_ ∧ Sep NoB w w_ [(row v7_ 54 3 ((madeU ws l rs k1).length) (vtrips (runV (lv.take k1) (madeU ws l rs k1)))), (sl xl 1 l.length (ints l)), (sl xw 1 ws.length (ws.map (Value.int .u16))), (runsR false vu lv rs)] ∧ (k1 ≤ rs.length)) (fun k1 => rs.length - k1) 0 ⟨(Value.slice none 0 0), hA8.as _ rfl, hS5, by omega⟩ ?_
 clear hA8 hS5 a6
 rintro k1 a9 w11 ⟨v7_, hA10, hS12, hk1⟩
 have hml := madeU_len ws l rs k1; have hll_ : (lv.take k1).length = (madeU ws l rs k1).length := (by rw [List.length_take, hml, hx.len]; omega); have hwa := word_bd hw (k1 : Int); have hwb := word_bd hw ((k1 : Int) + 1); have hra := rem_bd (y := wordF ws (k1 : Int)) (d := 9) hwa.1 (by decide); have hrb := rem_bd (y := wordF ws ((k1 : Int) + 1)) (d := 9) hwb.1 (by decide)
 refine c_seq ?_
 refine c_seq ?_
 refine c_region ?_
 refine st hA10 (op_move rfl (hA10.ev rfl)) rfl rfl (by decide) fun a13 hA14 => ?_; clear hA10 a9
 refine st hA14 (op_move rfl (hA14.ev rfl)) rfl rfl (by decide) fun a15 hA16 => ?_; clear hA14 a13
 refine st hA16 (op_lenS rfl un_25 (hA16.ev rfl) (runs_at (hS12.ok 3 _ rfl)).runs) rfl rfl (by decide) fun a17 hA18 => ?_; clear hA16 a15
 refine st hA18 (op_lss rfl (hA18.ev rfl) (hA18.ev rfl)) rfl rfl (by decide) fun a19 hA20 => ?_; clear hA18 a17
 refine wl_nil ?_
 refine then_n ?_
 by_cases hb21 : (k1 : Int) < (rs.length : Int)
 ·skip
  rw [decide_eq_true hb21] at hA20
  have hrk := hV.runs k1 (by omega); have hs8 := hrk.len
  refine c_true hA20 rfl ?_
  refine c_skip ?_
  refine then_n ?_
  refine c_seq ?_
  refine c_block ?_
  refine c_seq ?_
  refine c_region ?_
  refine st hA20 (op_move rfl (hA20.ev rfl)) rfl rfl (by decide) fun a22 hA23 => ?_; clear hA20 a19
  refine st hA23 (op_move rfl (hA23.ev rfl)) rfl rfl (by decide) fun a24 hA25 => ?_; clear hA23 a22
  refine st hA25 (op_indexS rfl un_25 ty_54 (hA25.ev rfl) (i := k1) (hA25.ev rfl) (runs_at (hS12.ok 3 _ rfl)).runs (by decide) (by omega)) rfl rfl (by decide) fun a26 hA27 => ?_; clear hA25 a24
  refine st hA27 (op_fieldS rfl fd_54_0 (hA27.ev rfl) (runs_at (hS12.ok 3 _ rfl)).runs (by rw [((runs_at (hS12.ok 3 _ rfl)).runs).1]; omega)) rfl rfl (by decide) fun a28 hA29 => ?_; clear hA27 a26
  refine st hA29 (op_load1E rfl ty_51 (hA29.ev rfl) (runs_at (hS12.ok 3 _ rfl)).runs (runs_at0 (runs_at (hS12.ok 3 _ rfl)).len (by omega))) rfl rfl (by decide) fun a30 hA31 => ?_; clear hA29 a28
  refine st hA31 (op_build rfl (pv1 (hA31.ev rfl)) (bd_54_0s _ (SlAt.isSl ((runs_at (hS12.ok 3 _ rfl)).segs k1 (by omega))))) rfl rfl (by decide) fun a32 hA33 => ?_; clear hA31 a30
  refine stw hA33 (op_alloc hS12 rfl ze_54 (cs := [(Value.slice none 0 0), (Value.int .i64 0), (Value.int .i64 0)]) rfl) rfl rfl (by decide) ?_
  rintro a34 _ w36 ⟨b37, rfl, hS38⟩ hA35; clear hA33 hS12 a32
  refine sts hA35 (op_store hS38 rfl ty_54 (hA35.ev rfl) (hA35.ev rfl) (i := 0) rfl (vs := [(lv.getD k1 nilS), (Value.int .i64 0), (Value.int .i64 0)]) rfl rfl (all_c (SlAt.one ((runs_at (hS38.ok 4 _ rfl)).segs k1 (by omega))) (all_c rfl (all_c rfl all_n))) (Nat.le_of_ble_eq_true rfl)) rfl rfl ?_
  intro _ w39 hS40 hA41; clear hA35
  have hS42 : Sep NoB w w39 [(blk b37 54 [(lv.getD k1 nilS), (Value.int .i64 0), (Value.int .i64 0)]), (row v7_ 54 3 ((madeU ws l rs k1).length) (vtrips (runV (lv.take k1) (madeU ws l rs k1)))), (sl xl 1 l.length (ints l)), (sl xw 1 ws.length (ws.map (Value.int .u16))), (runsR false vu lv rs)] := hS40; clear hS40 hS38
  refine wl_nil ?_
  refine then_n ?_
  refine c_seq ?_
  have hA43 := hA41.as [(9, (bptr b37 0)), (8, (Value.int .i64 (k1 : Int))), (7, v7_), (0, vu), (1, xl), (2, xw)] rfl; clear hA41
  refine c_region ?_
  refine st hA43 (op_assign rfl (evc _ _)) rfl rfl (by decide) fun a44 hA45 => ?_; clear hA43 a34
  refine wl_nil ?_
  refine then_n ?_
  refine c_seq ?_
  refine c_seq ?_
  refine c_region ?_
  refine st hA45 (op_assign rfl (evc _ _)) rfl rfl (by decide) fun a46 hA47 => ?_; clear hA45 a44
  refine wl_nil ?_
  refine then_n ?_
  refine c_block ?_
  have hA48 := hA47.as [(11, (Value.int .i64 0)), (10, (Value.int .i64 0)), (9, (bptr b37 0)), (8, (Value.int .i64 (k1 : Int))), (7, v7_), (0, vu), (1, xl), (2, xw)] rfl; clear hA47
  refine c_loop (G := Nat) (fun (k2 : Nat) a_ w_ => Fr 88 [] [(11, (Value.int .i64 (k2 : Int))), (10, (Value.int .i64 (mdU ws l (mdF k1) (rs.getD k1 run0).segs k2))), (9, (bptr b37 0)), (8, (Value.int .i64 (k1 : Int))), (7, v7_), (0, vu), (1, xl), (2, xw)] a_ ∧ Sep NoB w w_ [(blk b37 54 [(lv.getD k1 nilS), (Value.int .i64 0), (Value.int .i64 0)]), (row v7_ 54 3 ((madeU ws l rs k1).length) (vtrips (runV (lv.take k1) (madeU ws l rs k1)))), (sl xl 1 l.length (ints l)), (sl xw 1 ws.length (ws.map (Value.int .u16))), (runsR false vu lv rs)] ∧ (k2 ≤ (rs.getD k1 run0).segs.length)) (fun k2 => (rs.getD k1 run0).segs.length - k2) 0 ⟨hA48.as _ rfl, hS42, by omega⟩ ?_
  clear hA48 hS42 a46
  rintro k2 a49 w51 ⟨hA50, hS52, hk2⟩
  have hsb := mdU_bd (f := mdF k1) hw hr hrk.segs k2 hk2
  refine c_seq ?_
  refine c_seq ?_
  refine c_region ?_
  refine st hA50 (op_move rfl (hA50.ev rfl)) rfl rfl (by decide) fun a53 hA54 => ?_; clear hA50 a49
  refine st hA54 (op_field rfl fd_54_0 (hA54.ev rfl)) rfl rfl (by decide) fun a55 hA56 => ?_; clear hA54 a53
  refine st hA56 (op_load1 rfl ty_51 (hA56.ev rfl) (hS52.bk 0 rfl) rfl) rfl rfl (by decide) fun a57 hA58 => ?_; clear hA56 a55
  refine st hA58 (op_lenS rfl un_51 (hA58.ev rfl) ((runs_at (hS52.ok 4 _ rfl)).segs k1 (by omega))) rfl rfl (by decide) fun a59 hA60 => ?_; clear hA58 a57
  refine st hA60 (op_lss rfl (hA60.ev rfl) (hA60.ev rfl)) rfl rfl (by decide) fun a61 hA62 => ?_; clear hA60 a59
  refine wl_nil ?_
  refine then_n ?_
  by_cases hb63 : (k2 : Int) < ((rs.getD k1 run0).segs.length : Int)
  ·skip
   rw [decide_eq_true hb63] at hA62
   have hsk := hrk.segs k2 (by omega); have hskb := hsk.b; have hskh := hsk.h; have hwc := word_bd hw (7 * (k1 : Int) + (k2 : Int)); have hrc := rem_bd (y := wordF ws (7 * (k1 : Int) + (k2 : Int))) (d := ((rs.getD k1 run0).segs.getD k2 (0, 0, 0)).2.2 - ((rs.getD k1 run0).segs.getD k2 (0, 0, 0)).2.1 + 1) hwc.1 (by omega); have hmb : 0 ≤ l.getD ((rs.getD k1 run0).segs.getD k2 (0, 0, 0)).1.toNat 0 * ((((rs.getD k1 run0).segs.getD k2 (0, 0, 0)).2.1) + ((wordF ws (7 * (k1 : Int) + (k2 : Int))).tmod (((((rs.getD k1 run0).segs.getD k2 (0, 0, 0)).2.2) - (((rs.getD k1 run0).segs.getD k2 (0, 0, 0)).2.1)) + 1))) ∧ l.getD ((rs.getD k1 run0).segs.getD k2 (0, 0, 0)).1.toNat 0 * ((((rs.getD k1 run0).segs.getD k2 (0, 0, 0)).2.1) + ((wordF ws (7 * (k1 : Int) + (k2 : Int))).tmod (((((rs.getD k1 run0).segs.getD k2 (0, 0, 0)).2.2) - (((rs.getD k1 run0).segs.getD k2 (0, 0, 0)).2.1)) + 1))) ≤ 1000000000 := mul_bd (hr _) (by omega)
   refine c_true hA62 rfl ?_
   refine c_skip ?_
   refine then_n ?_
   refine c_seq ?_
   refine c_block ?_
   refine c_seq ?_
   refine c_region ?_
   refine st hA62 (op_field rfl fd_54_0 (hA62.ev rfl)) rfl rfl (by decide) fun a64 hA65 => ?_; clear hA62 a61
   refine st hA65 (op_load1 rfl ty_51 (hA65.ev rfl) (hS52.bk 0 rfl) rfl) rfl rfl (by decide) fun a66 hA67 => ?_; clear hA65 a64
   refine st hA67 (op_move rfl (hA67.ev rfl)) rfl rfl (by decide) fun a68 hA69 => ?_; clear hA67 a66
   refine st hA69 (op_indexS rfl un_51 ty_56 (hA69.ev rfl) (i := k2) (hA69.ev rfl) ((runs_at (hS52.ok 4 _ rfl)).segs k1 (by omega)) (by decide) (by omega)) rfl rfl (by decide) fun a70 hA71 => ?_; clear hA69 a68
   refine st hA71 (op_fieldS rfl fd_56_1 (hA71.ev rfl) ((runs_at (hS52.ok 4 _ rfl)).segs k1 (by omega)) (by rw [(((runs_at (hS52.ok 4 _ rfl)).segs k1 (by omega))).1]; omega)) rfl rfl (by decide) fun a72 hA73 => ?_; clear hA71 a70
   refine st hA73 (op_loadAE rfl ty_48 (hA73.ev rfl) ((runs_at (hS52.ok 4 _ rfl)).segs k1 (by omega)) (trips_sub (by omega)) rfl (by decide)) rfl rfl (by decide) fun a74 hA75 => ?_; clear hA73 a72
   refine stw hA75 (op_alloc hS52 rfl ze_48 (cs := [(Value.int .i64 0), (Value.int .i64 0)]) rfl) rfl rfl (by decide) ?_
   rintro a76 _ w78 ⟨b79, rfl, hS80⟩ hA77; clear hA75 hS52 a74
   refine sts hA77 (op_store hS80 rfl ty_48 (hA77.ev rfl) (hA77.ev rfl) (i := 0) rfl (vs := [(Value.int .i64 ((((rs.getD k1 run0).segs).getD k2 (0, 0, 0)).2.1)), (Value.int .i64 ((((rs.getD k1 run0).segs).getD k2 (0, 0, 0)).2.2))]) rfl rfl rfl (Nat.le_of_ble_eq_true rfl)) rfl rfl ?_
   intro _ w81 hS82 hA83; clear hA77
   have hS84 : Sep NoB w w81 [(blk b79 48 [(Value.int .i64 ((((rs.getD k1 run0).segs).getD k2 (0, 0, 0)).2.1)), (Value.int .i64 ((((rs.getD k1 run0).segs).getD k2 (0, 0, 0)).2.2))]), (blk b37 54 [(lv.getD k1 nilS), (Value.int .i64 0), (Value.int .i64 0)]), (row v7_ 54 3 ((madeU ws l rs k1).length) (vtrips (runV (lv.take k1) (madeU ws l rs k1)))), (sl xl 1 l.length (ints l)), (sl xw 1 ws.length (ws.map (Value.int .u16))), (runsR false vu lv rs)] := hS82; clear hS82 hS80
   refine wl_nil ?_
   refine then_n ?_
   have hA85 := hA83.as [(12, (bptr b79 0)), (11, (Value.int .i64 (k2 : Int))), (10, (Value.int .i64 (mdU ws l (mdF k1) (rs.getD k1 run0).segs k2))), (9, (bptr b37 0)), (8, (Value.int .i64 (k1 : Int))), (7, v7_), (0, vu), (1, xl), (2, xw)] rfl; clear hA83
   have hA86 := hA85.as [(12, (bptr b79 0)), (11, (Value.int .i64 (k2 : Int))), (10, (Value.int .i64 (mdU ws l (mdF k1) (rs.getD k1 run0).segs k2))), (9, (bptr b37 0)), (8, (Value.int .i64 (k1 : Int))), (7, v7_), (0, vu), (1, xl), (2, xw)] rfl; clear hA85
   refine c_drawn mixed hA86 hS84 27 [[], [], [], [2], [], [3, 4], [5], [6], [1, 7], [8], [], [10], [], [], [13], [], [14, 15], [12, 16], [], [18], [], [20], [19, 21], [22], [17, 23], [11, 24], [9, 25]] [(Yd.val (Value.int .i64 (mdU ws l (mdF k1) (rs.getD k1 run0).segs k2))), (Yd.val xl), (Yd.val (bptr b37 0)), (Yd.val (lv.getD k1 nilS)), (Yd.val (Value.int .i64 (k2 : Int))), (Yd.val (eptr (lv.getD k1 nilS) (k2 * 3))), (Yd.val (eptr (lv.getD k1 nilS) (k2 * 3 + 0))), (Yd.val (Value.int .i64 ((((rs.getD k1 run0).segs).getD k2 (0, 0, 0)).1))), (Yd.val (eptr xl (((((rs.getD k1 run0).segs).getD k2 (0, 0, 0)).1).toNat * 1))), (Yd.val (Value.int .i64 (l.getD (((((rs.getD k1 run0).segs).getD k2 (0, 0, 0)).1).toNat) 0))), (Yd.val (bptr b79 0)), (Yd.val (Value.int .i64 ((((rs.getD k1 run0).segs).getD k2 (0, 0, 0)).2.1))), (Yd.val xw), (Yd.val (Value.int .i64 (k1 : Int))), (Yd.val (Value.int .i64 (7 * (k1 : Int)))), (Yd.val (Value.int .i64 (k2 : Int))), (Yd.val (Value.int .i64 ((7 * (k1 : Int)) + (k2 : Int)))), (Yd.val (Value.int .i64 (wordF ws ((7 * (k1 : Int)) + (k2 : Int))))), (Yd.val (bptr b79 1)), (Yd.val (Value.int .i64 ((((rs.getD k1 run0).segs).getD k2 (0, 0, 0)).2.2))), (Yd.val (bptr b79 0)), (Yd.val (Value.int .i64 ((((rs.getD k1 run0).segs).getD k2 (0, 0, 0)).2.1))), (Yd.val (Value.int .i64 (((((rs.getD k1 run0).segs).getD k2 (0, 0, 0)).2.2) - ((((rs.getD k1 run0).segs).getD k2 (0, 0, 0)).2.1)))), (Yd.val (Value.int .i64 ((((((rs.getD k1 run0).segs).getD k2 (0, 0, 0)).2.2) - ((((rs.getD k1 run0).segs).getD k2 (0, 0, 0)).2.1)) + 1))), (Yd.val (Value.int .i64 (((wordF ws ((7 * (k1 : Int)) + (k2 : Int)))).tmod ((((((rs.getD k1 run0).segs).getD k2 (0, 0, 0)).2.2) - ((((rs.getD k1 run0).segs).getD k2 (0, 0, 0)).2.1)) + 1)))), (Yd.val (Value.int .i64 (((((rs.getD k1 run0).segs).getD k2 (0, 0, 0)).2.1) + (((wordF ws ((7 * (k1 : Int)) + (k2 : Int)))).tmod ((((((rs.getD k1 run0).segs).getD k2 (0, 0, 0)).2.2) - ((((rs.getD k1 run0).segs).getD k2 (0, 0, 0)).2.1)) + 1))))), (Yd.val (Value.int .i64 ((l.getD (((((rs.getD k1 run0).segs).getD k2 (0, 0, 0)).1).toNat) 0) * (((((rs.getD k1 run0).segs).getD k2 (0, 0, 0)).2.1) + (((wordF ws ((7 * (k1 : Int)) + (k2 : Int)))).tmod ((((((rs.getD k1 run0).segs).getD k2 (0, 0, 0)).2.2) - ((((rs.getD k1 run0).segs).getD k2 (0, 0, 0)).2.1)) + 1))))))] (by decide +kernel) rfl rfl ?_ ?_
   ·skip
    refine ⟨fun a w hA hS hd => by exact opG_of rfl (dv (op_move rfl (hA.ev rfl)) hS rfl), ?_⟩
    refine ⟨fun a w hA hS hd => by exact opG_of rfl (dv (op_move rfl (hA.ev rfl)) hS rfl), ?_⟩
    refine ⟨fun a w hA hS hd => by exact opG_of rfl (dv (op_field rfl fd_54_0 (hA.ev rfl)) hS rfl), ?_⟩
    refine ⟨fun a w hA hS hd => by have e2 := has_ev (hd 2 (by decide)) rfl (fun _ h => h); exact opG_of rfl (dv (op_load1 rfl ty_51 (tmp_ev e2) (hS.bk 1 rfl) rfl) hS rfl), ?_⟩
    refine ⟨fun a w hA hS hd => by exact opG_of rfl (dv (op_move rfl (hA.ev rfl)) hS rfl), ?_⟩
    refine ⟨fun a w hA hS hd => by have e3 := has_ev (hd 3 (by decide)) rfl (fun _ h => h); have e4 := has_ev (hd 4 (by decide)) rfl (fun _ h => h); exact opG_of rfl (dv (op_indexS rfl un_51 ty_56 (tmp_ev e3) (i := k2) (tmp_ev e4) ((runs_at (hS.ok 5 _ rfl)).segs k1 (by omega)) (by decide) (by omega)) hS rfl), ?_⟩
    refine ⟨fun a w hA hS hd => by have e5 := has_ev (hd 5 (by decide)) rfl (fun _ h => h); exact opG_of rfl (dv (op_fieldS rfl fd_56_0 (tmp_ev e5) ((runs_at (hS.ok 5 _ rfl)).segs k1 (by omega)) (by rw [(((runs_at (hS.ok 5 _ rfl)).segs k1 (by omega))).1]; omega)) hS rfl), ?_⟩
    refine ⟨fun a w hA hS hd => by have e6 := has_ev (hd 6 (by decide)) rfl (fun _ h => h); exact opG_of rfl (dv (op_load1E rfl ty_3 (tmp_ev e6) ((runs_at (hS.ok 5 _ rfl)).segs k1 (by omega)) (trips_at0 (by omega))) hS rfl), ?_⟩
    refine ⟨fun a w hA hS hd => by have e1 := has_ev (hd 1 (by decide)) rfl (fun _ h => h); have e7 := has_ev (hd 7 (by decide)) rfl (fun _ h => h); exact opG_of rfl (dv (op_indexS rfl un_40 ty_3 (tmp_ev e1) (i := ((((rs.getD k1 run0).segs).getD k2 (0, 0, 0)).1).toNat) ((tmp_ev e7).trans (int_nat (by omega))) (hS.sk 3 rfl) (by decide) (by omega)) hS rfl), ?_⟩
    refine ⟨fun a w hA hS hd => by have e8 := has_ev (hd 8 (by decide)) rfl (fun _ h => h); exact opG_of rfl (dv (op_load1E rfl ty_3 (tmp_ev e8) (hS.sk 3 rfl) (ints_at (by omega))) hS rfl), ?_⟩
    refine ⟨fun a w hA hS hd => by exact opG_of rfl (dv (op_field rfl fd_48_0 (hA.ev rfl)) hS rfl), ?_⟩
    refine ⟨fun a w hA hS hd => by have e10 := has_ev (hd 10 (by decide)) rfl (fun _ h => h); exact opG_of rfl (dv (op_load1 rfl ty_3 (tmp_ev e10) (hS.bk 0 rfl) rfl) hS rfl), ?_⟩
    refine ⟨fun a w hA hS hd => by exact opG_of rfl (dv (op_move rfl (hA.ev rfl)) hS rfl), ?_⟩
    refine ⟨fun a w hA hS hd => by exact opG_of rfl (dv (op_move rfl (hA.ev rfl)) hS rfl), ?_⟩
    refine ⟨fun a w hA hS hd => by have e13 := has_ev (hd 13 (by decide)) rfl (fun _ h => h); exact opG_of rfl (dv (op_mul rfl (evc _ _) (tmp_ev e13) (by omega) (by omega)) hS rfl), ?_⟩
    refine ⟨fun a w hA hS hd => by exact opG_of rfl (dv (op_move rfl (hA.ev rfl)) hS rfl), ?_⟩
    refine ⟨fun a w hA hS hd => by have e14 := has_ev (hd 14 (by decide)) rfl (fun _ h => h); have e15 := has_ev (hd 15 (by decide)) rfl (fun _ h => h); exact opG_of rfl (dv (op_add rfl (tmp_ev e14) (tmp_ev e15) (by omega) (by omega)) hS rfl), ?_⟩
    refine ⟨fun a w hA hS hd => by have e12 := has_ev (hd 12 (by decide)) rfl (fun _ h => h); have e16 := has_ev (hd 16 (by decide)) rfl (fun _ h => h); exact opG_of rfl (dx (op_call rfl en_49 (ev2 (tmp_ev e12) (tmp_ev e16)) (word_ok _ ws _ (hS.sk 4 rfl) hw ((7 * (k1 : Int)) + (k2 : Int)) (by omega))) hS (fun _ => rfl)), ?_⟩
    refine ⟨fun a w hA hS hd => by exact opG_of rfl (dv (op_field rfl fd_48_1 (hA.ev rfl)) hS rfl), ?_⟩
    refine ⟨fun a w hA hS hd => by have e18 := has_ev (hd 18 (by decide)) rfl (fun _ h => h); exact opG_of rfl (dv (op_load1 rfl ty_3 (tmp_ev e18) (hS.bk 0 rfl) rfl) hS rfl), ?_⟩
    refine ⟨fun a w hA hS hd => by exact opG_of rfl (dv (op_field rfl fd_48_0 (hA.ev rfl)) hS rfl), ?_⟩
    refine ⟨fun a w hA hS hd => by have e20 := has_ev (hd 20 (by decide)) rfl (fun _ h => h); exact opG_of rfl (dv (op_load1 rfl ty_3 (tmp_ev e20) (hS.bk 0 rfl) rfl) hS rfl), ?_⟩
    refine ⟨fun a w hA hS hd => by have e19 := has_ev (hd 19 (by decide)) rfl (fun _ h => h); have e21 := has_ev (hd 21 (by decide)) rfl (fun _ h => h); exact opG_of rfl (dv (op_sub rfl (tmp_ev e19) (tmp_ev e21) (by omega) (by omega)) hS rfl), ?_⟩
    refine ⟨fun a w hA hS hd => by have e22 := has_ev (hd 22 (by decide)) rfl (fun _ h => h); exact opG_of rfl (dv (op_add rfl (tmp_ev e22) (evc _ _) (by omega) (by omega)) hS rfl), ?_⟩
    refine ⟨fun a w hA hS hd => by have e17 := has_ev (hd 17 (by decide)) rfl (fun _ h => h); have e23 := has_ev (hd 23 (by decide)) rfl (fun _ h => h); exact opG_of rfl (dv (op_rem rfl (tmp_ev e17) (tmp_ev e23) (by omega)) hS rfl), ?_⟩
    refine ⟨fun a w hA hS hd => by have e11 := has_ev (hd 11 (by decide)) rfl (fun _ h => h); have e24 := has_ev (hd 24 (by decide)) rfl (fun _ h => h); exact opG_of rfl (dv (op_add rfl (tmp_ev e11) (tmp_ev e24) (by omega) (by omega)) hS rfl), ?_⟩
    refine ⟨fun a w hA hS hd => by have e9 := has_ev (hd 9 (by decide)) rfl (fun _ h => h); have e25 := has_ev (hd 25 (by decide)) rfl (fun _ h => h); exact opG_of rfl (dv (op_mul rfl (tmp_ev e9) (tmp_ev e25) (by omega) (by omega)) hS rfl), ?_⟩
    trivial
   intro a88 w89 hA90 hS91 hH92; clear hA86 hS84
   have hA93 := hA90.add (has_ev (hH92 0 (by decide)) rfl (fun _ h => h)); clear hA90
   have hA94 := hA93.add (has_ev (hH92 26 (by decide)) rfl (fun _ h => h)); clear hA93
   clear hH92
   refine st hA94 (op_add rfl (hA94.ev rfl) (hA94.ev rfl) (by omega) (by omega)) rfl rfl (by decide) fun a95 hA96 => ?_; clear hA94 a88
   refine st hA96 (op_assign rfl (hA96.ev rfl)) rfl rfl (by decide) fun a97 hA98 => ?_; clear hA96 a95
   refine wl_nil ?_
   refine blk_n ?_
   refine then_n ?_
   refine c_region ?_
   refine st hA98 (op_move rfl (hA98.ev rfl)) rfl rfl (by decide) fun a99 hA100 => ?_; clear hA98 a97
   refine st hA100 (op_add rfl (hA100.ev rfl) (evc _ _) (by omega) (by omega)) rfl rfl (by decide) fun a101 hA102 => ?_; clear hA100 a99
   refine st hA102 (op_assign rfl (hA102.ev rfl)) rfl rfl (by decide) fun a103 hA104 => ?_; clear hA102 a101
   refine wl_nil ?_
   have hS105 : Sep NoB w w89 [(blk b37 54 [(lv.getD k1 nilS), (Value.int .i64 0), (Value.int .i64 0)]), (row v7_ 54 3 ((madeU ws l rs k1).length) (vtrips (runV (lv.take k1) (madeU ws l rs k1)))), (sl xl 1 l.length (ints l)), (sl xw 1 ws.length (ws.map (Value.int .u16))), (runsR false vu lv rs)] := hS91.keep [1, 2, 3, 4, 5] (by decide) _ rfl rfl; clear hS91
   exact then_n ⟨k2 + 1, ⟨hA104.as _ rfl, hS105, by omega⟩, by omega⟩
  ·skip
   rw [decide_eq_false hb63] at hA62
   refine c_false hA62 rfl ?_
   refine c_exit ?_
   refine then_exit ?_
   refine then_exit ?_
   refine blk_hit ?_
   refine then_n ?_
   refine c_seq ?_
   have hA106 := hA62.as [(10, (Value.int .i64 (mdU ws l (mdF k1) (rs.getD k1 run0).segs k2))), (9, (bptr b37 0)), (8, (Value.int .i64 (k1 : Int))), (7, v7_), (0, vu), (1, xl), (2, xw)] rfl; clear hA62
   refine c_region ?_
   refine st hA106 (op_move rfl (hA106.ev rfl)) rfl rfl (by decide) fun a107 hA108 => ?_; clear hA106 a61
   refine st hA108 (op_move rfl (hA108.ev rfl)) rfl rfl (by decide) fun a109 hA110 => ?_; clear hA108 a107
   refine st hA110 (op_move rfl (hA110.ev rfl)) rfl rfl (by decide) fun a111 hA112 => ?_; clear hA110 a109
   refine stw hA112 (op_call rfl en_49 (ev2 (hA112.ev rfl) (hA112.ev rfl)) (word_ok _ ws _ (hS52.sk 3 rfl) hw (k1 : Int) (by omega))) rfl rfl (by decide) ?_
   rintro a113 _ w115 ⟨rfl, hE116⟩ hA114; have hS117 := hS52.step hE116; clear hE116 hA112 hS52 a111
   refine st hA114 (op_rem rfl (hA114.ev rfl) (evc _ _) (by omega)) rfl rfl (by decide) fun a118 hA119 => ?_; clear hA114 a113
   refine st hA119 (op_sub rfl (hA119.ev rfl) (hA119.ev rfl) (by omega) (by omega)) rfl rfl (by decide) fun a120 hA121 => ?_; clear hA119 a118
   refine st hA121 (op_max rfl (evc _ _) (hA121.ev rfl)) rfl rfl (by decide) fun a122 hA123 => ?_; clear hA121 a120
   refine st hA123 (op_move rfl (hA123.ev rfl)) rfl rfl (by decide) fun a124 hA125 => ?_; clear hA123 a122
   refine st hA125 (op_move rfl (hA125.ev rfl)) rfl rfl (by decide) fun a126 hA127 => ?_; clear hA125 a124
   refine st hA127 (op_move rfl (hA127.ev rfl)) rfl rfl (by decide) fun a128 hA129 => ?_; clear hA127 a126
   refine st hA129 (op_add rfl (hA129.ev rfl) (evc _ _) (by omega) (by omega)) rfl rfl (by decide) fun a130 hA131 => ?_; clear hA129 a128
   refine stw hA131 (op_call rfl en_49 (ev2 (hA131.ev rfl) (hA131.ev rfl)) (word_ok _ ws _ (hS117.sk 3 rfl) hw ((k1 : Int) + 1) (by omega))) rfl rfl (by decide) ?_
   rintro a132 _ w134 ⟨rfl, hE135⟩ hA133; have hS136 := hS117.step hE135; clear hE135 hA131 hS117 a130
   refine st hA133 (op_rem rfl (hA133.ev rfl) (evc _ _) (by omega)) rfl rfl (by decide) fun a137 hA138 => ?_; clear hA133 a132
   refine st hA138 (op_add rfl (hA138.ev rfl) (hA138.ev rfl) (by omega) (by omega)) rfl rfl (by decide) fun a139 hA140 => ?_; clear hA138 a137
   refine st hA140 (op_min rfl (evc _ _) (hA140.ev rfl)) rfl rfl (by decide) fun a141 hA142 => ?_; clear hA140 a139
   refine st hA142 (op_build rfl (pv2 (hA142.ev rfl) (hA142.ev rfl)) (bd_48_0i_1i _ _)) rfl rfl (by decide) fun a143 hA144 => ?_; clear hA142 a141
   refine st hA144 (op_field rfl fd_54_1 (hA144.ev rfl)) rfl rfl (by decide) fun a145 hA146 => ?_; clear hA144 a143
   refine sts hA146 (op_store hS136 rfl ty_48 (hA146.ev rfl) (hA146.ev rfl) (i := 0) rfl (vs := [(Value.int .i64 (max 0 ((mdU ws l (mdF k1) (rs.getD k1 run0).segs k2) - (((wordF ws (k1 : Int))).tmod 9)))), (Value.int .i64 (min 10000000000 ((mdU ws l (mdF k1) (rs.getD k1 run0).segs k2) + (((wordF ws ((k1 : Int) + 1))).tmod 9))))]) rfl rfl rfl (Nat.le_of_ble_eq_true rfl)) rfl rfl ?_
   intro _ w147 hS148 hA149; clear hA146
   have hS150 : Sep NoB w w147 [(blk b37 54 [(lv.getD k1 nilS), (Value.int .i64 (max 0 ((mdU ws l (mdF k1) (rs.getD k1 run0).segs k2) - (((wordF ws (k1 : Int))).tmod 9)))), (Value.int .i64 (min 10000000000 ((mdU ws l (mdF k1) (rs.getD k1 run0).segs k2) + (((wordF ws ((k1 : Int) + 1))).tmod 9))))]), (row v7_ 54 3 ((madeU ws l rs k1).length) (vtrips (runV (lv.take k1) (madeU ws l rs k1)))), (sl xl 1 l.length (ints l)), (sl xw 1 ws.length (ws.map (Value.int .u16))), (runsR false vu lv rs)] := hS148; clear hS148 hS136
   refine wl_nil ?_
   refine then_n ?_
   have hA151 := hA149.as [(9, (bptr b37 0)), (8, (Value.int .i64 (k1 : Int))), (7, v7_), (0, vu), (1, xl), (2, xw)] rfl; clear hA149
   refine c_region ?_
   refine st hA151 (op_move rfl (hA151.ev rfl)) rfl rfl (by decide) fun a152 hA153 => ?_; clear hA151 a145
   refine st hA153 (op_loadA rfl ty_54 (hA153.ev rfl) (hS150.bk 0 rfl) (l := [(lv.getD k1 nilS), (Value.int .i64 (max 0 ((mdU ws l (mdF k1) (rs.getD k1 run0).segs k2) - (((wordF ws (k1 : Int))).tmod 9)))), (Value.int .i64 (min 10000000000 ((mdU ws l (mdF k1) (rs.getD k1 run0).segs k2) + (((wordF ws ((k1 : Int) + 1))).tmod 9))))]) rfl rfl) rfl rfl (by decide) fun a154 hA155 => ?_; clear hA153 a152
   refine stw hA155 (op_buildSlice hS150 rfl (pv1 (hA155.ev rfl)) un_25 ty_54 ze_54 (by decide) (cs := [(lv.getD k1 nilS), (Value.int .i64 (max 0 ((mdU ws l (mdF k1) (rs.getD k1 run0).segs k2) - (((wordF ws (k1 : Int))).tmod 9)))), (Value.int .i64 (min 10000000000 ((mdU ws l (mdF k1) (rs.getD k1 run0).segs k2) + (((wordF ws ((k1 : Int) + 1))).tmod 9))))]) (bs_54_1_0viia _ _ _)) rfl rfl (by decide) ?_
   rintro a156 _ w158 ⟨b159, rfl, hS160⟩ hA157; clear hA155 hS150 a154
   refine stw hA157 (op_append hS160 rfl un_25 el_54 (hA157.ev rfl) (hA157.ev rfl) (i := 2) rfl (SlAt.of_blk (hS160.bk 0 rfl) rfl (Nat.le_of_ble_eq_true rfl)) (all_c (SlAt.one ((runs_at (hS160.ok 5 _ rfl)).segs k1 (by omega))) (all_c rfl (all_c rfl all_n))) (by simp only [maxLen]; omega) (by omega)) rfl rfl (by decide) ?_
   intro a161 v164 w163 hS165 hA162
   have hS166 := hS165.row_say (i := 2) rfl (n' := ((madeU ws l rs k1) ++ [(⟨(rs.getD k1 run0).segs, max 0 ((mdU ws l (mdF k1) (rs.getD k1 run0).segs k2) - (((wordF ws (k1 : Int))).tmod 9)), min 10000000000 ((mdU ws l (mdF k1) (rs.getD k1 run0).segs k2) + (((wordF ws ((k1 : Int) + 1))).tmod 9))⟩ : RunD)]).length) (xs' := (vtrips (runV ((lv.take k1) ++ [(lv.getD k1 nilS)]) ((madeU ws l rs k1) ++ [(⟨(rs.getD k1 run0).segs, max 0 ((mdU ws l (mdF k1) (rs.getD k1 run0).segs k2) - (((wordF ws (k1 : Int))).tmod 9)), min 10000000000 ((mdU ws l (mdF k1) (rs.getD k1 run0).segs k2) + (((wordF ws ((k1 : Int) + 1))).tmod 9))⟩ : RunD)])))) (by simp) (runs_snoc hll_ (lv.getD k1 nilS) (⟨(rs.getD k1 run0).segs, max 0 ((mdU ws l (mdF k1) (rs.getD k1 run0).segs k2) - (((wordF ws (k1 : Int))).tmod 9)), min 10000000000 ((mdU ws l (mdF k1) (rs.getD k1 run0).segs k2) + (((wordF ws ((k1 : Int) + 1))).tmod 9))⟩ : RunD)); clear hS165 hA157 hS160 a156
   refine st hA162 (op_assign rfl (hA162.ev rfl)) rfl rfl (by decide) fun a167 hA168 => ?_; clear hA162 a161
   refine wl_nil ?_
   refine blk_n ?_
   refine then_n ?_
   refine c_region ?_
   refine st hA168 (op_move rfl (hA168.ev rfl)) rfl rfl (by decide) fun a169 hA170 => ?_; clear hA168 a167
   refine st hA170 (op_add rfl (hA170.ev rfl) (evc _ _) (by omega) (by omega)) rfl rfl (by decide) fun a171 hA172 => ?_; clear hA170 a169
   refine st hA172 (op_assign rfl (hA172.ev rfl)) rfl rfl (by decide) fun a173 hA174 => ?_; clear hA172 a171
   refine wl_nil ?_
   have hmr_ : mdRun ws l rs k1 = (⟨(rs.getD k1 run0).segs, max 0 ((mdU ws l (mdF k1) (rs.getD k1 run0).segs k2) - (((wordF ws (k1 : Int))).tmod 9)), min 10000000000 ((mdU ws l (mdF k1) (rs.getD k1 run0).segs k2) + (((wordF ws ((k1 : Int) + 1))).tmod 9))⟩ : RunD) := by unfold mdRun mdSum; rw [show (rs.getD k1 run0).segs.length = k2 by omega]
   have hS175 : Sep NoB w w163 [(row v164 54 3 (((madeU ws l rs k1) ++ [(⟨(rs.getD k1 run0).segs, max 0 ((mdU ws l (mdF k1) (rs.getD k1 run0).segs k2) - (((wordF ws (k1 : Int))).tmod 9)), min 10000000000 ((mdU ws l (mdF k1) (rs.getD k1 run0).segs k2) + (((wordF ws ((k1 : Int) + 1))).tmod 9))⟩ : RunD)]).length) (vtrips (runV ((lv.take k1) ++ [(lv.getD k1 nilS)]) ((madeU ws l rs k1) ++ [(⟨(rs.getD k1 run0).segs, max 0 ((mdU ws l (mdF k1) (rs.getD k1 run0).segs k2) - (((wordF ws (k1 : Int))).tmod 9)), min 10000000000 ((mdU ws l (mdF k1) (rs.getD k1 run0).segs k2) + (((wordF ws ((k1 : Int) + 1))).tmod 9))⟩ : RunD)])))), (sl xl 1 l.length (ints l)), (sl xw 1 ws.length (ws.map (Value.int .u16))), (runsR false vu lv rs)] := hS166.keep [2, 3, 4, 5] (by decide) _ rfl rfl; clear hS166
   exact then_n ⟨k1 + 1, ⟨v164, hA174.as _ rfl, (hS175.row_say (i := 0) rfl (n' := (madeU ws l rs (k1 + 1)).length) (xs' := (vtrips (runV (lv.take (k1 + 1)) (madeU ws l rs (k1 + 1))))) (by rw [madeU_succ, hmr_]) (by rw [madeU_succ, hmr_, take_lv (by rw [hx.len]; omega)])), by omega⟩, by omega⟩
 ·skip
  rw [decide_eq_false hb21] at hA20
  refine c_false hA20 rfl ?_
  refine c_exit ?_
  refine then_exit ?_
  refine then_exit ?_
  refine blk_hit ?_
  refine then_n ?_
  refine c_seq ?_
  have hA176 := hA20.as [(7, v7_)] rfl; clear hA20
  refine c_region ?_
  refine st hA176 (op_move rfl (hA176.ev rfl)) rfl rfl (by decide) fun a177 hA178 => ?_; clear hA176 a19
  refine st hA178 (op_assign rfl (hA178.ev rfl)) rfl rfl (by decide) fun a179 hA180 => ?_; clear hA178 a177
  refine wl_nil ?_
  refine then_n ?_
  refine c_ret ?_
  refine fin_run hA180 (.inl rfl) (run_results1 hA180 rfl (.tmp rfl)) ?_
  have hz := hS12.row_say (i := 0) rfl (n' := (madeF ws l rs).length) (xs' := vtrips (runV lv (madeF ws l rs))) (by rw [show k1 = rs.length by omega]; rfl) (by rw [show k1 = rs.length by omega, List.take_of_length_le (by rw [hx.len]; exact Nat.le_refl _)]; rfl)
  exact ⟨hz.ext, hz.row_new (i := 0) rfl⟩
end Go.Proofs.Ytkkglkdnnfegkaa

namespace Go.Proofs.Ytkkglkdnnfegkaa
open Go.RowKit Go.Shelf Go.Eng
theorem index_ok (xs : List Int) (x : Int) (v : Value) (w : World) (hv : SlAt w v 1 xs.length (ints xs)) (hlen : xs.length ≤ 1000000) :
  Calls Try.prog 95 #[v, (Value.int .i64 x)] w (Ret fun v w' => v = .int .i64 (fidx (fun i => decide (x = xs.getD i 0)) xs.length) ∧ Ext NoB w w') := by
 refine calls_enter Try.func95 rfl fun a0 hA0 => ?_
 replace hA0 : Fr 19 [] [(0, v), (1, (Value.int .i64 x))] a0 := hA0
 have hS0 : Sep NoB w w [(sl v 1 xs.length (ints xs))] := sep_ro ⟨rfl, hv, trivial⟩
 refine c_seq ?_
 refine c_region ?_
 refine st hA0 (op_assign rfl (evc _ _)) rfl rfl (by decide) fun a1 hA2 => ?_; clear hA0 a0
 refine wl_nil ?_
 refine then_n ?_
 refine c_seq ?_
 refine c_seq ?_
 refine c_region ?_
 refine st hA2 (op_move rfl (hA2.ev rfl)) rfl rfl (by decide) fun a3 hA4 => ?_; clear hA2 a1
 refine st hA4 (op_lenS rfl un_40 (hA4.ev rfl) (hS0.sk 0 rfl)) rfl rfl (by decide) fun a5 hA6 => ?_; clear hA4 a3
 refine st hA6 (op_move rfl (evc _ _)) rfl rfl (by decide) fun a7 hA8 => ?_; clear hA6 a5
 refine wl_nil ?_
 refine then_n ?_
 refine c_block ?_
 have hA9 := hA8.as [(8, (Value.int .i64 0)), (7, (Value.int .i64 (xs.length : Int))), (0, v), (1, (Value.int .i64 x))] rfl; clear hA8
 refine c_loop (G := Nat) (fun (k : Nat) a_ w_ => Fr 19 [] [(8, (Value.int .i64 (k : Int))), (7, (Value.int .i64 (xs.length : Int))), (0, v), (1, (Value.int .i64 x))] a_ ∧ Sep NoB w w_ [(sl v 1 xs.length (ints xs))] ∧ (k ≤ xs.length) ∧ (∀ i, i < k → decide (x = xs.getD i 0) = false)) (fun k => xs.length - k) 0 ⟨hA9.as _ rfl, hS0, by omega, by omega⟩ ?_
 clear hA9 hS0 a7
 rintro k a10 w12 ⟨hA11, hS13, hk, hn⟩
 refine c_seq ?_
 refine c_region ?_
 refine st hA11 (op_lss rfl (hA11.ev rfl) (hA11.ev rfl)) rfl rfl (by decide) fun a14 hA15 => ?_; clear hA11 a10
 refine wl_nil ?_
 refine then_n ?_
 refine c_seq ?_
 by_cases hb16 : (k : Int) < (xs.length : Int)
 ·skip
  rw [decide_eq_true hb16] at hA15
  refine c_true hA15 rfl ?_
  refine c_skip ?_
  refine then_n ?_
  refine c_seq ?_
  refine c_block ?_
  refine c_seq ?_
  refine c_region ?_
  refine st hA15 (op_move rfl (hA15.ev rfl)) rfl rfl (by decide) fun a17 hA18 => ?_; clear hA15 a14
  refine st hA18 (op_assign rfl (hA18.ev rfl)) rfl rfl (by decide) fun a19 hA20 => ?_; clear hA18 a17
  refine wl_nil ?_
  refine then_n ?_
  refine c_seq ?_
  refine c_region ?_
  refine st hA20 (op_move rfl (hA20.ev rfl)) rfl rfl (by decide) fun a21 hA22 => ?_; clear hA20 a19
  refine st hA22 (op_move rfl (hA22.ev rfl)) rfl rfl (by decide) fun a23 hA24 => ?_; clear hA22 a21
  refine st hA24 (op_move rfl (hA24.ev rfl)) rfl rfl (by decide) fun a25 hA26 => ?_; clear hA24 a23
  refine st hA26 (op_indexS rfl un_40 ty_3 (hA26.ev rfl) (i := k) (hA26.ev rfl) (hS13.sk 0 rfl) (by decide) (by omega)) rfl rfl (by decide) fun a27 hA28 => ?_; clear hA26 a25
  refine st hA28 (op_load1E rfl ty_3 (hA28.ev rfl) (hS13.sk 0 rfl) (ints_at (by omega))) rfl rfl (by decide) fun a29 hA30 => ?_; clear hA28 a27
  refine st hA30 (op_eql rfl (hA30.ev rfl) (hA30.ev rfl)) rfl rfl (by decide) fun a31 hA32 => ?_; clear hA30 a29
  refine wl_nil ?_
  refine then_n ?_
  by_cases hb33 : x = (xs.getD k 0)
  ·skip
   rw [decide_eq_true hb33] at hA32
   refine c_true hA32 rfl ?_
   refine c_seq ?_
   have hA34 := hA32.as [(5, (Value.int .i64 (k : Int)))] rfl; clear hA32
   refine c_region ?_
   refine st hA34 (op_move rfl (hA34.ev rfl)) rfl rfl (by decide) fun a35 hA36 => ?_; clear hA34 a31
   refine st hA36 (op_assign rfl (hA36.ev rfl)) rfl rfl (by decide) fun a37 hA38 => ?_; clear hA36 a35
   refine wl_nil ?_
   refine then_n ?_
   refine c_ret ?_
   refine blk_ret ?_
   refine then_ret ?_
   refine then_ret ?_
   refine blk_ret ?_
   refine then_ret ?_
   refine fin_run hA38 (.inl rfl) (run_results1 hA38 rfl (.tmp rfl)) ?_
   exact ⟨by first | rw [fidx_hit (by omega) hn (decide_eq_true (by assumption))] | rw [fidx_miss (fun i hi => hn i (by omega))], hS13.ext⟩
  ·skip
   rw [decide_eq_false hb33] at hA32
   refine c_false hA32 rfl ?_
   refine c_skip ?_
   refine blk_n ?_
   refine then_n ?_
   have hA39 := hA32.as [(8, (Value.int .i64 (k : Int))), (7, (Value.int .i64 (xs.length : Int))), (0, v), (1, (Value.int .i64 x))] rfl; clear hA32
   refine c_region ?_
   refine st hA39 (op_add rfl (hA39.ev rfl) (evc _ _) (by omega) (by omega)) rfl rfl (by decide) fun a40 hA41 => ?_; clear hA39 a31
   refine st hA41 (op_move rfl (hA41.ev rfl)) rfl rfl (by decide) fun a42 hA43 => ?_; clear hA41 a40
   refine wl_nil ?_
   exact then_n ⟨k + 1, ⟨hA43.as _ rfl, hS13, by omega, (fun i hi => by rcases Nat.lt_succ_iff_lt_or_eq.1 hi with h | h; exact hn i h; subst h; exact decide_eq_false (by assumption))⟩, by omega⟩
 ·skip
  rw [decide_eq_false hb16] at hA15
  refine c_false hA15 rfl ?_
  refine c_exit ?_
  refine then_exit ?_
  refine then_exit ?_
  refine blk_hit ?_
  refine then_n ?_
  refine c_seq ?_
  refine c_region ?_
  refine st hA15 (op_assign rfl (evc _ _)) rfl rfl (by decide) fun a44 hA45 => ?_; clear hA15 a14
  refine wl_nil ?_
  refine then_n ?_
  refine c_ret ?_
  refine fin_run hA45 (.inl rfl) (run_results1 hA45 rfl (.tmp rfl)) ?_
  exact ⟨by first | rw [fidx_hit (by omega) hn (decide_eq_true (by assumption))] | rw [fidx_miss (fun i hi => hn i (by omega))], hS13.ext⟩
theorem contains_ok (xs : List Int) (x : Int) (v : Value) (w : World) (hv : SlAt w v 1 xs.length (ints xs)) (hlen : xs.length ≤ 1000000) :
  Calls Try.prog 76 #[v, (Value.int .i64 x)] w (Ret fun v w' => v = .bool (hasB xs x) ∧ Ext NoB w w') := by
 refine calls_enter Try.func76 rfl fun a0 hA0 => ?_
 replace hA0 : Fr 9 [] [(0, v), (1, (Value.int .i64 x))] a0 := hA0
 have hS0 : Sep NoB w w [(sl v 1 xs.length (ints xs))] := sep_ro ⟨rfl, hv, trivial⟩
 refine c_seq ?_
 refine c_region ?_
 refine st hA0 (op_assign rfl (evc _ _)) rfl rfl (by decide) fun a1 hA2 => ?_; clear hA0 a0
 refine wl_nil ?_
 refine then_n ?_
 refine c_seq ?_
 refine c_region ?_
 refine st hA2 (op_move rfl (hA2.ev rfl)) rfl rfl (by decide) fun a3 hA4 => ?_; clear hA2 a1
 refine st hA4 (op_move rfl (hA4.ev rfl)) rfl rfl (by decide) fun a5 hA6 => ?_; clear hA4 a3
 refine stw hA6 (op_call rfl en_95 (ev2 (hA6.ev rfl) (hA6.ev rfl)) (index_ok xs x _ _ (hS0.sk 0 rfl) hlen)) rfl rfl (by decide) ?_
 rintro a7 _ w9 ⟨rfl, hE10⟩ hA8; have hS11 := hS0.step hE10; clear hE10 hA6 hS0 a5
 refine st hA8 (op_geq rfl (hA8.ev rfl) (evc _ _)) rfl rfl (by decide) fun a12 hA13 => ?_; clear hA8 a7
 refine st hA13 (op_assign rfl (hA13.ev rfl)) rfl rfl (by decide) fun a14 hA15 => ?_; clear hA13 a12
 refine wl_nil ?_
 refine then_n ?_
 refine c_ret ?_
 refine fin_run hA15 (.inl rfl) (run_results1 hA15 rfl (.tmp rfl)) ?_
 exact ⟨congrArg Value.bool (fidx_any (fun i => decide (x = xs.getD i 0)) xs.length), hS11.ext⟩
theorem hasin_ok (x : Int) (b : Nat) (l : List Int) (xl : Value) (w : World) (hb : (blk b 40 [xl]).p w) (hv : SlAt w xl 1 l.length (ints l)) (hl : l.length ≤ 1000000) :
  Calls Try.prog 75 #[(Value.int .i64 x), (bptr b 0)] w (Ret fun v w' => v = .bool (hasB l x) ∧ Ext NoB w w') := by
 refine calls_enter Try.func75 rfl fun a0 hA0 => ?_
 replace hA0 : Fr 7 [] [(0, (Value.int .i64 x)), (1, (bptr b 0))] a0 := hA0
 have hS0 : Sep NoB w w [(rob b 40 [xl]), (sl xl 1 l.length (ints l))] := sep_ro ⟨rfl, hb, rfl, hv, trivial⟩
 refine c_seq ?_
 refine c_region ?_
 refine st hA0 (op_assign rfl (evc _ _)) rfl rfl (by decide) fun a1 hA2 => ?_; clear hA0 a0
 refine wl_nil ?_
 refine then_n ?_
 refine c_seq ?_
 refine c_region ?_
 refine st hA2 (op_load1 rfl ty_40 (hA2.ev rfl) (hS0.rk 0 rfl) rfl) rfl rfl (by decide) fun a3 hA4 => ?_; clear hA2 a1
 refine st hA4 (op_move rfl (hA4.ev rfl)) rfl rfl (by decide) fun a5 hA6 => ?_; clear hA4 a3
 refine stw hA6 (op_call rfl en_76 (ev2 (hA6.ev rfl) (hA6.ev rfl)) (contains_ok l x _ _ (hS0.sk 1 rfl) (by omega))) rfl rfl (by decide) ?_
 rintro a7 _ w9 ⟨rfl, hE10⟩ hA8; have hS11 := hS0.step hE10; clear hE10 hA6 hS0 a5
 refine st hA8 (op_assign rfl (hA8.ev rfl)) rfl rfl (by decide) fun a12 hA13 => ?_; clear hA8 a7
 refine wl_nil ?_
 refine then_n ?_
 refine c_ret ?_
 refine fin_run hA13 (.inl rfl) (run_results1 hA13 rfl (.tmp rfl)) ?_
 exact ⟨rfl, hS11.ext⟩
theorem covers_ok (a : List Int) (xa : Value) (b : Nat) (l : List Int) (xl : Value) (w : World) (hb : (blk b 40 [xl]).p w) (hv : SlAt w xl 1 l.length (ints l)) (hl : l.length ≤ 1000000) (ha : SlAt w xa 1 a.length (ints a)) (hal : a.length ≤ 1000000) :
  Calls Try.prog 73 #[xa, (bptr b 0)] w (Ret fun v w' => v = .bool (coverB a l) ∧ Ext NoB w w') := by
 refine calls_enter Try.func73 rfl fun a0 hA0 => ?_
 replace hA0 : Fr 7 [] [(0, xa), (1, (bptr b 0))] a0 := hA0
 have hS0 : Sep NoB w w [(rob b 40 [xl]), (sl xl 1 l.length (ints l)), (sl xa 1 a.length (ints a))] := sep_ro ⟨rfl, hb, rfl, hv, rfl, ha, trivial⟩
 refine c_seq ?_
 refine c_region ?_
 refine st hA0 (op_assign rfl (evc _ _)) rfl rfl (by decide) fun a1 hA2 => ?_; clear hA0 a0
 refine wl_nil ?_
 refine then_n ?_
 refine c_seq ?_
 refine c_region ?_
 refine st hA2 (op_move rfl (hA2.ev rfl)) rfl rfl (by decide) fun a3 hA4 => ?_; clear hA2 a1
 refine st hA4 (op_makeFunc rfl ev0 (ev1 (hA4.ev rfl))) rfl rfl (by decide) fun a5 hA6 => ?_; clear hA4 a3
 refine stw hA6 (op_call rfl en_74 (ev2 (hA6.ev rfl) (hA6.ev rfl)) (all_int a _ 75 #[] #[(bptr b 0)] (fun i => hasB l (a.getD i 0)) _ (hS0.sk 2 rfl) (by omega) ⟨en_75, fun i hi W hW => hasin_ok _ b l xl W ((hS0.step hW).rk 0 rfl) ((hS0.step hW).sk 1 rfl) hl⟩)) rfl rfl (by decide) ?_
 rintro a7 _ w9 ⟨rfl, hE10⟩ hA8; have hS11 := hS0.step hE10; clear hE10 hA6 hS0 a5
 refine st hA8 (op_assign rfl (hA8.ev rfl)) rfl rfl (by decide) fun a12 hA13 => ?_; clear hA8 a7
 refine wl_nil ?_
 refine then_n ?_
 refine c_ret ?_
 refine fin_run hA13 (.inl rfl) (run_results1 hA13 rfl (.tmp rfl)) ?_
 exact ⟨rfl, hS11.ext⟩
theorem leave_zero (bb ba br bs : Nat) (va vu : Value) (ov lv : List Value) (A : List (List Int)) (rs : List RunD) (hlv : lv.length = rs.length) (hAl : A.length ≤ 1000000) (hAs : ∀ i, (A.getD i []).length ≤ 1000000) (hrl : rs.length ≤ 1000) (l : List Int) (next : Nat) (xl vb : Value) (best : List Int) (w : World) (X : Nat → Prop) (hl : l.length + 0 ≤ 1000) (hJ : Sep X w w [(row xl 3 1 l.length (ints l)), (blk bb 40 [vb]), (row vb 3 1 best.length (ints best)), (rob bs 120 [(Value.func (.func 71) #[] #[(bptr bb 0), (bptr ba 0), (bptr br 0), (bptr bs 0)])]), (rob ba 38 [va]), (rob br 35 [vu]), (sl va 1 ov.length ov), (lstRo ov A), (sl vu 3 rs.length (vtrips (runV lv rs)))]) :
  Calls Try.prog 71 #[xl, (Value.int .i64 (next : Int)), (Value.int .i64 0), (bptr bb 0), (bptr ba 0), (bptr br 0), (bptr bs 0)] w (Ret fun v w' => v = .bool (leaveB rs.length A 0 l next) ∧ ∃ vb' best', (leaveB rs.length A 0 l next = true → (setsF rs.length 0 l next).find? (okB A) = some best') ∧ Sep X w w' [(row xl 3 1 l.length (ints l)), (blk bb 40 [vb']), (row vb' 3 1 best'.length (ints best')), (rob bs 120 [(Value.func (.func 71) #[] #[(bptr bb 0), (bptr ba 0), (bptr br 0), (bptr bs 0)])]), (rob ba 38 [va]), (rob br 35 [vu]), (sl va 1 ov.length ov), (lstRo ov A), (sl vu 3 rs.length (vtrips (runV lv rs)))]) := by
 refine calls_enter Try.func71 rfl fun a0 hA0 => ?_
 replace hA0 : Fr 36 [] [(0, xl), (1, (Value.int .i64 (next : Int))), (2, (Value.int .i64 0)), (3, (bptr bb 0)), (4, (bptr ba 0)), (5, (bptr br 0)), (6, (bptr bs 0))] a0 := hA0
 have hol := (show (lstR ov A).p _ from hJ.ok 7 (lstRo ov A) rfl).1
 have hS0 : Sep X w w [(row xl 3 1 l.length (ints l)), (blk bb 40 [vb]), (row vb 3 1 best.length (ints best)), (rob bs 120 [(Value.func (.func 71) #[] #[(bptr bb 0), (bptr ba 0), (bptr br 0), (bptr bs 0)])]), (rob ba 38 [va]), (rob br 35 [vu]), (sl va 1 ov.length ov), (lstRo ov A), (sl vu 3 rs.length (vtrips (runV lv rs)))] := hJ
 refine c_seq ?_
 refine c_region ?_
 refine stw hA0 (op_box hS0 rfl (hA0.ev rfl) (cs := [xl]) (isSl_cells (SlAt.isSl (SlAt.of_row (hS0.ok_row 0 rfl))))) rfl rfl (by decide) ?_
 rintro a1 _ w3 ⟨b4, rfl, hS5⟩ hA2; clear hA0 hS0 a0
 refine st hA2 (op_assign rfl (evc _ _)) rfl rfl (by decide) fun a6 hA7 => ?_; clear hA2 a1
 refine wl_nil ?_
 refine then_n ?_
 refine c_seq ?_
 refine c_seq ?_
 refine c_region ?_
 refine st hA7 (op_move rfl (hA7.ev rfl)) rfl rfl (by decide) fun a8 hA9 => ?_; clear hA7 a6
 refine st hA9 (op_eql rfl (hA9.ev rfl) (evc _ _)) rfl rfl (by decide) fun a10 hA11 => ?_; clear hA9 a8
 refine wl_nil ?_
 refine then_n ?_
 refine c_true hA11 rfl ?_
 refine c_seq ?_
 have hA12 := hA11.as [(7, (bptr b4 0)), (3, (bptr bb 0)), (4, (bptr ba 0))] rfl; clear hA11
 refine c_region ?_
 refine st hA12 (op_load1 rfl ty_40 (hA12.ev rfl) (hS5.bk 0 rfl) rfl) rfl rfl (by decide) fun a13 hA14 => ?_; clear hA12 a10
 refine stw hA14 (op_call rfl en_61 (ev1 (hA14.ev rfl)) (clone_int l _ _ (SlAt.of_row (hS5.ok_row 1 rfl)) (by omega))) rfl rfl (by decide) ?_
 rintro a15 v21 w17 ⟨hE18, hO19⟩ hA16; have hS20 := hS5.new_row hE18 hO19; clear hE18 hO19 hA14 hS5 a13
 refine sts hA16 (op_store hS20 rfl ty_40 (hA16.ev rfl) (hA16.ev rfl) (i := 3) rfl (vs := [v21]) (isSl_cells (SlAt.isSl (SlAt.of_row (hS20.ok_row 0 rfl)))) rfl (all_c (SlAt.one (SlAt.of_row (hS20.ok_row 0 rfl))) all_n) (Nat.le_of_ble_eq_true rfl)) rfl rfl ?_
 intro _ w22 hS23 hA24; clear hA16
 have hS25 : Sep X w w22 [(row v21 3 1 l.length (ints l)), (blk b4 40 [xl]), (row xl 3 1 l.length (ints l)), (blk bb 40 [v21]), (row vb 3 1 best.length (ints best)), (rob bs 120 [(Value.func (.func 71) #[] #[(bptr bb 0), (bptr ba 0), (bptr br 0), (bptr bs 0)])]), (rob ba 38 [va]), (rob br 35 [vu]), (sl va 1 ov.length ov), (lstRo ov A), (sl vu 3 rs.length (vtrips (runV lv rs)))] := hS23; clear hS23 hS20
 refine wl_nil ?_
 refine then_n ?_
 refine c_seq ?_
 refine c_region ?_
 refine st hA24 (op_load1 rfl ty_38 (hA24.ev rfl) (hS25.rk 6 rfl) rfl) rfl rfl (by decide) fun a26 hA27 => ?_; clear hA24 a15
 refine st hA27 (op_makeFunc rfl ev0 (ev1 (hA27.ev rfl))) rfl rfl (by decide) fun a28 hA29 => ?_; clear hA27 a26
 refine stw hA29 (op_call rfl en_72 (ev2 (hA29.ev rfl) (hA29.ev rfl)) (contf_sls ov _ 73 #[] #[(bptr b4 0)] (fun i => coverB (A.getD i []) l) _ (hS25.sk 8 rfl) (by omega) ⟨en_73, fun i hi W hW => covers_ok _ _ _ l xl W ((hS25.step hW).bk 1 rfl) (SlAt.of_row ((hS25.step hW).ok_row 2 rfl)) (by omega) ((show (lstR ov A).p _ from (hS25.step hW).ok 9 (lstRo ov A) rfl).2 i (by omega)) (hAs i)⟩)) rfl rfl (by decide) ?_
 rintro a30 _ w32 ⟨rfl, hE33⟩ hA31; have hS34 := hS25.step hE33; clear hE33 hA29 hS25 a28
 refine st hA31 (op_assign rfl (hA31.ev rfl)) rfl rfl (by decide) fun a35 hA36 => ?_; clear hA31 a30
 refine wl_nil ?_
 refine then_n ?_
 refine c_ret ?_
 refine then_ret ?_
 refine fin_run hA36 (.inl rfl) (run_results1 hA36 rfl (.tmp rfl)) ?_
 rw [leave_0]
 exact ⟨congrArg Value.bool (by unfold okB; rw [hol]), _, l, fun h => find_0 h, hS34.keep [2, 3, 0, 5, 6, 7, 8, 9, 10] (by decide) _ rfl rfl⟩
theorem leave_succ (bb ba br bs : Nat) (va vu : Value) (ov lv : List Value) (A : List (List Int)) (rs : List RunD) (hlv : lv.length = rs.length) (hAl : A.length ≤ 1000000) (hAs : ∀ i, (A.getD i []).length ≤ 1000000) (hrl : rs.length ≤ 1000) (m : Nat) (ih : ∀ (l : List Int) (next : Nat) (xl vb : Value) (best : List Int) (w : World) (X : Nat → Prop) (hl : l.length + m ≤ 1000) (_ : Sep X w w [(row xl 3 1 l.length (ints l)), (blk bb 40 [vb]), (row vb 3 1 best.length (ints best)), (rob bs 120 [(Value.func (.func 71) #[] #[(bptr bb 0), (bptr ba 0), (bptr br 0), (bptr bs 0)])]), (rob ba 38 [va]), (rob br 35 [vu]), (sl va 1 ov.length ov), (lstRo ov A), (sl vu 3 rs.length (vtrips (runV lv rs)))]), Calls Try.prog 71 #[xl, .int .i64 (next : Int), .int .i64 (m : Int), bptr bb 0, bptr ba 0, bptr br 0, bptr bs 0] w (Ret fun v w' => v = .bool (leaveB rs.length A m l next) ∧ ∃ vb' best', (leaveB rs.length A m l next = true → (setsF rs.length m l next).find? (okB A) = some best') ∧ Sep X w w' [(row xl 3 1 l.length (ints l)), (blk bb 40 [vb']), (row vb' 3 1 best'.length (ints best')), (rob bs 120 [(Value.func (.func 71) #[] #[(bptr bb 0), (bptr ba 0), (bptr br 0), (bptr bs 0)])]), (rob ba 38 [va]), (rob br 35 [vu]), (sl va 1 ov.length ov), (lstRo ov A), (sl vu 3 rs.length (vtrips (runV lv rs)))])) (l : List Int) (next : Nat) (xl vb : Value) (best : List Int) (w : World) (X : Nat → Prop) (hl : l.length + (m + 1) ≤ 1000) (hJ : Sep X w w [(row xl 3 1 l.length (ints l)), (blk bb 40 [vb]), (row vb 3 1 best.length (ints best)), (rob bs 120 [(Value.func (.func 71) #[] #[(bptr bb 0), (bptr ba 0), (bptr br 0), (bptr bs 0)])]), (rob ba 38 [va]), (rob br 35 [vu]), (sl va 1 ov.length ov), (lstRo ov A), (sl vu 3 rs.length (vtrips (runV lv rs)))]) :
  Calls Try.prog 71 #[xl, (Value.int .i64 (next : Int)), (Value.int .i64 ((m : Int) + 1)), (bptr bb 0), (bptr ba 0), (bptr br 0), (bptr bs 0)] w (Ret fun v w' => v = .bool (leaveB rs.length A (m + 1) l next) ∧ ∃ vb' best', (leaveB rs.length A (m + 1) l next = true → (setsF rs.length (m + 1) l next).find? (okB A) = some best') ∧ Sep X w w' [(row xl 3 1 l.length (ints l)), (blk bb 40 [vb']), (row vb' 3 1 best'.length (ints best')), (rob bs 120 [(Value.func (.func 71) #[] #[(bptr bb 0), (bptr ba 0), (bptr br 0), (bptr bs 0)])]), (rob ba 38 [va]), (rob br 35 [vu]), (sl va 1 ov.length ov), (lstRo ov A), (sl vu 3 rs.length (vtrips (runV lv rs)))]) := by
 refine calls_enter Try.func71 rfl fun a0 hA0 => ?_
 replace hA0 : Fr 36 [] [(0, xl), (1, (Value.int .i64 (next : Int))), (2, (Value.int .i64 ((m : Int) + 1))), (3, (bptr bb 0)), (4, (bptr ba 0)), (5, (bptr br 0)), (6, (bptr bs 0))] a0 := hA0
 have hS0 : Sep X w w [(row xl 3 1 l.length (ints l)), (blk bb 40 [vb]), (row vb 3 1 best.length (ints best)), (rob bs 120 [(Value.func (.func 71) #[] #[(bptr bb 0), (bptr ba 0), (bptr br 0), (bptr bs 0)])]), (rob ba 38 [va]), (rob br 35 [vu]), (sl va 1 ov.length ov), (lstRo ov A), (sl vu 3 rs.length (vtrips (runV lv rs)))] := hJ
 refine c_seq ?_
 refine c_region ?_
 refine stw hA0 (op_box hS0 rfl (hA0.ev rfl) (cs := [xl]) (isSl_cells (SlAt.isSl (SlAt.of_row (hS0.ok_row 0 rfl))))) rfl rfl (by decide) ?_
 rintro a1 _ w3 ⟨b4, rfl, hS5⟩ hA2; clear hA0 hS0 a0
 refine st hA2 (op_assign rfl (evc _ _)) rfl rfl (by decide) fun a6 hA7 => ?_; clear hA2 a1
 refine wl_nil ?_
 refine then_n ?_
 refine c_seq ?_
 refine c_seq ?_
 refine c_region ?_
 refine st hA7 (op_move rfl (hA7.ev rfl)) rfl rfl (by decide) fun a8 hA9 => ?_; clear hA7 a6
 refine st hA9 (op_eql rfl (hA9.ev rfl) (evc _ _)) rfl rfl (by decide) fun a10 hA11 => ?_; clear hA9 a8
 have hd12 : ¬ (((m : Int) + 1) = 0) := (by omega)
 rw [decide_eq_false hd12] at hA11
 refine wl_nil ?_
 refine then_n ?_
 refine c_false hA11 rfl ?_
 refine c_skip ?_
 refine then_n ?_
 refine c_seq ?_
 refine c_seq ?_
 have hA13 := hA11.as [(7, (bptr b4 0)), (1, (Value.int .i64 (next : Int))), (2, (Value.int .i64 ((m : Int) + 1))), (5, (bptr br 0)), (6, (bptr bs 0))] rfl; clear hA11
 refine c_region ?_
 refine st hA13 (op_move rfl (hA13.ev rfl)) rfl rfl (by decide) fun a14 hA15 => ?_; clear hA13 a10
 refine st hA15 (op_assign rfl (hA15.ev rfl)) rfl rfl (by decide) fun a16 hA17 => ?_; clear hA15 a14
 refine wl_nil ?_
 refine then_n ?_
 refine c_block ?_
 have hA18 := hA17.as [(11, (Value.int .i64 (next : Int))), (7, (bptr b4 0)), (2, (Value.int .i64 ((m : Int) + 1))), (5, (bptr br 0)), (6, (bptr bs 0))] rfl; clear hA17
 refine c_loop (G := Nat) (fun (k : Nat) a_ w_ => ∃ vb_ : Value, ∃ best_ : List Int, Fr 36 [] [(11, (Value.int .i64 (k : Int))), (7, (bptr b4 0)), (2, (Value.int .i64 ((m : Int) + 1))), (5, (bptr br 0)), (6, (bptr bs 0))] a_ ∧ Sep X w w_ [(blk b4 40 [xl]), (row xl 3 1 l.length (ints l)), (blk bb 40 [vb_]), (row vb_ 3 1 best_.length (ints best_)), (rob bs 120 [(Value.func (.func 71) #[] #[(bptr bb 0), (bptr ba 0), (bptr br 0), (bptr bs 0)])]), (rob ba 38 [va]), (rob br 35 [vu]), (sl va 1 ov.length ov), (lstRo ov A), (sl vu 3 rs.length (vtrips (runV lv rs)))] ∧ (next ≤ k) ∧ (k = next ∨ k ≤ rs.length) ∧ ((setsUpto rs.length m l next k).any (okB A) = false)) (fun k => rs.length - k) next ⟨vb, best, hA18.as _ rfl, hS5, Nat.le_refl _, .inl rfl, (by rw [setsUpto_self]; rfl)⟩ ?_
 clear hA18 hS5 a16
 rintro k a19 w21 ⟨vb_, best_, hA20, hS22, hk1, hk2, hno⟩
 refine c_seq ?_
 refine c_seq ?_
 refine c_region ?_
 refine st hA20 (op_move rfl (hA20.ev rfl)) rfl rfl (by decide) fun a23 hA24 => ?_; clear hA20 a19
 refine st hA24 (op_load1 rfl ty_35 (hA24.ev rfl) (hS22.rk 6 rfl) rfl) rfl rfl (by decide) fun a25 hA26 => ?_; clear hA24 a23
 refine st hA26 (op_lenS rfl un_35 (hA26.ev rfl) (hS22.sk 9 rfl)) rfl rfl (by decide) fun a27 hA28 => ?_; clear hA26 a25
 refine st hA28 (op_lss rfl (hA28.ev rfl) (hA28.ev rfl)) rfl rfl (by decide) fun a29 hA30 => ?_; clear hA28 a27
 refine wl_nil ?_
 refine then_n ?_
 by_cases hb31 : (k : Int) < (rs.length : Int)
 ·skip
  rw [decide_eq_true hb31] at hA30
  refine c_true hA30 rfl ?_
  refine c_skip ?_
  refine then_n ?_
  refine c_seq ?_
  refine c_block ?_
  refine c_seq ?_
  have hA32 := hA30.as [(11, (Value.int .i64 (k : Int))), (7, (bptr b4 0)), (2, (Value.int .i64 ((m : Int) + 1))), (5, (bptr br 0)), (6, (bptr bs 0))] rfl; clear hA30
  have hB33 := hS22.below
  refine c_drawnA mixed hA32 hS22 9 [[], [], [], [2], [1, 3], [], [5], [], [7]] [(Yd.val (Value.func (.func 71) #[] #[(bptr bb 0), (bptr ba 0), (bptr br 0), (bptr bs 0)])), (Yd.val xl), (Yd.val (Value.int .i64 (k : Int))), (Yd.blt w21.heap.size 3 1 [(Value.int .i64 (k : Int))]), Yd.any, (Yd.val (Value.int .i64 (k : Int))), (Yd.val (Value.int .i64 ((k : Int) + 1))), (Yd.val (Value.int .i64 ((m : Int) + 1))), (Yd.val (Value.int .i64 (((m : Int) + 1) - 1)))] (by decide +kernel) rfl rfl 4 1 (by decide) rfl 1 ((ints l) ++ [(Value.int .i64 (k : Int))]) rfl ⟨ydb_val _ _, ydb_val _ _, ydb_val _ _, ydb_blt _ _ _ _, ydb_any _, ydb_val _ _, ydb_val _ _, ydb_val _ _, ydb_val _ _, trivial⟩ ?_ ?_
  ·skip
   refine ⟨⟨fun _ a w hA hS hz hd => ?_, fun e_ => absurd e_ (by decide)⟩, ?_⟩
   ·skip
    exact opG_of rfl (dv (op_load1 rfl ty_120 (hA.ev rfl) (hS.rk 4 rfl) rfl) hS rfl)
   refine ⟨⟨fun _ a w hA hS hz hd => ?_, fun e_ => absurd e_ (by decide)⟩, ?_⟩
   ·skip
    exact opG_of rfl (dv (op_load1 rfl ty_40 (hA.ev rfl) (hS.bk 0 rfl) rfl) hS rfl)
   refine ⟨⟨fun _ a w hA hS hz hd => ?_, fun e_ => absurd e_ (by decide)⟩, ?_⟩
   ·skip
    exact opG_of rfl (dv (op_move rfl (hA.ev rfl)) hS rfl)
   refine ⟨⟨fun _ a w hA hS hz hd => ?_, fun e_ => absurd e_ (by decide)⟩, ?_⟩
   ·skip
    have e2 := has_ev (hd 2 (by decide)) rfl (fun _ h => h)
    exact opG_of rfl (dbltZ hS hz rfl (pv1 (tmp_ev e2)) un_40 ty_3 ze_3 (by decide) (cs := [(Value.int .i64 (k : Int))]) (bs_3_1_0i _) (fun _ _ h => h))
   refine ⟨⟨fun e_ => absurd rfl e_, fun _ a w hA hS hz hd => ?_⟩, ?_⟩
   ·skip
    have e1 := has_ev (hd 1 (by decide)) rfl (fun _ h => h)
    obtain ⟨_, e3, b3, rfl, hp3, _⟩ := has_get (hd 3 (by decide)) rfl
    exact opG_of rfl (op_appendL hS hz rfl un_40 el_3 (tmp_ev e1) (tmp_ev e3) (i := 1) rfl (SlAt.of_blk hp3 rfl (by decide)) (by decide) rfl (by simp only [maxLen]; omega) (by omega))
   refine ⟨⟨fun _ a w hA hS hz hd => ?_, fun e_ => absurd e_ (by decide)⟩, ?_⟩
   ·skip
    exact opG_of rfl (dv (op_move rfl (hA.ev rfl)) hS rfl)
   refine ⟨⟨fun _ a w hA hS hz hd => ?_, fun e_ => absurd e_ (by decide)⟩, ?_⟩
   ·skip
    have e5 := has_ev (hd 5 (by decide)) rfl (fun _ h => h)
    exact opG_of rfl (dv (op_add rfl (tmp_ev e5) (evc _ _) (by omega) (by omega)) hS rfl)
   refine ⟨⟨fun _ a w hA hS hz hd => ?_, fun e_ => absurd e_ (by decide)⟩, ?_⟩
   ·skip
    exact opG_of rfl (dv (op_move rfl (hA.ev rfl)) hS rfl)
   refine ⟨⟨fun _ a w hA hS hz hd => ?_, fun e_ => absurd e_ (by decide)⟩, ?_⟩
   ·skip
    have e7 := has_ev (hd 7 (by decide)) rfl (fun _ h => h)
    exact opG_of rfl (dv (op_sub rfl (tmp_ev e7) (evc _ _) (by omega) (by omega)) hS rfl)
   trivial
  intro a34 w35 hA36 hS37 hH38 hAp39; clear hA32 hS22
  have hA40 := hA36.add (has_ev (hH38 0 (by decide) (by decide)) rfl (fun _ h => h)); clear hA36
  obtain ⟨u42, ht43, hap44⟩ := has_get hAp39 rfl
  have hA41 := hA40.add ht43; clear hA40 ht43 hAp39
  have hA45 := hA41.add (has_ev (hH38 6 (by decide) (by decide)) rfl (fun _ h => h)); clear hA41
  have hA46 := hA45.add (has_ev (hH38 8 (by decide) (by decide)) rfl (fun _ h => h)); clear hA45
  clear hH38
  rcases appL_row hS37 hB33 (i0 := 1) rfl hap44 with ⟨hS47, hbk48⟩ | hS47
  ·skip
   clear hS37
   have hS53 := hS47.row_say (i := 1) rfl (n' := (l ++ [(k : Int)]).length) (xs' := ints (l ++ [(k : Int)])) (by simp) (by simp [ints]); clear hS47
   have hS54 : Sep X w w35 [(row u42 3 1 ((l ++ [(k : Int)]).length) (ints (l ++ [(k : Int)]))), (blk bb 40 [vb_]), (row vb_ 3 1 best_.length (ints best_)), (rob bs 120 [(Value.func (.func 71) #[] #[(bptr bb 0), (bptr ba 0), (bptr br 0), (bptr bs 0)])]), (rob ba 38 [va]), (rob br 35 [vu]), (sl va 1 ov.length ov), (lstRo ov A), (sl vu 3 rs.length (vtrips (runV lv rs))), (blk b4 40 [xl])] := hS53.keep [1, 2, 3, 4, 5, 6, 7, 8, 9, 0] (by decide) _ rfl rfl; clear hS53
   refine stw hA46 (op_callv rfl (hA46.ev rfl) en_71 (ev3 (hA46.ev rfl) (hA46.ev rfl) (hA46.ev rfl)) (by have hz := ih (l ++ [(k : Int)]) (k + 1) _ _ _ _ (ownX [(row u42 3 1 ((l ++ [(k : Int)]).length) (ints (l ++ [(k : Int)]))), (blk bb 40 [vb_]), (row vb_ 3 1 best_.length (ints best_)), (rob bs 120 [(Value.func (.func 71) #[] #[(bptr bb 0), (bptr ba 0), (bptr br 0), (bptr bs 0)])]), (rob ba 38 [va]), (rob br 35 [vu]), (sl va 1 ov.length ov), (lstRo ov A), (sl vu 3 rs.length (vtrips (runV lv rs)))]) (by simp; omega) (Sep.enterG (A := [(row u42 3 1 ((l ++ [(k : Int)]).length) (ints (l ++ [(k : Int)]))), (blk bb 40 [vb_]), (row vb_ 3 1 best_.length (ints best_)), (rob bs 120 [(Value.func (.func 71) #[] #[(bptr bb 0), (bptr ba 0), (bptr br 0), (bptr bs 0)])]), (rob ba 38 [va]), (rob br 35 [vu]), (sl va 1 ov.length ov), (lstRo ov A), (sl vu 3 rs.length (vtrips (runV lv rs)))]) (B := [(blk b4 40 [xl])]) hS54); rw [show ((m : Int) + 1) - 1 = (m : Int) by omega]; exact hz)) rfl rfl (by decide) ?_
   rintro a50 _ w52 ⟨rfl, vb56, best57, hf58, hT55⟩ hA51; clear hA46 a34
   have hS59 : Sep X w w52 [(row u42 3 1 ((l ++ [(k : Int)]).length) (ints (l ++ [(k : Int)]))), (blk bb 40 [vb56]), (row vb56 3 1 best57.length (ints best57)), (rob bs 120 [(Value.func (.func 71) #[] #[(bptr bb 0), (bptr ba 0), (bptr br 0), (bptr bs 0)])]), (rob ba 38 [va]), (rob br 35 [vu]), (sl va 1 ov.length ov), (lstRo ov A), (sl vu 3 rs.length (vtrips (runV lv rs))), (blk b4 40 [xl])] := Sep.callG (A := [(row u42 3 1 ((l ++ [(k : Int)]).length) (ints (l ++ [(k : Int)]))), (blk bb 40 [vb_]), (row vb_ 3 1 best_.length (ints best_)), (rob bs 120 [(Value.func (.func 71) #[] #[(bptr bb 0), (bptr ba 0), (bptr br 0), (bptr bs 0)])]), (rob ba 38 [va]), (rob br 35 [vu]), (sl va 1 ov.length ov), (lstRo ov A), (sl vu 3 rs.length (vtrips (runV lv rs)))]) (B := [(blk b4 40 [xl])]) hS54 hT55 (lentOk_at ⟨.inl rfl, .inl rfl, .inl rfl, .inr ⟨3, rfl⟩, .inr ⟨4, rfl⟩, .inr ⟨5, rfl⟩, .inr ⟨6, rfl⟩, .inr ⟨7, rfl⟩, .inr ⟨8, rfl⟩, trivial⟩); clear hT55 hS54
   have hS60 := hbk48 _ _ _ _ (hS59.row_say (i := 0) rfl (n' := l.length + 1) (xs' := ints l ++ [Value.int .i64 (k : Int)]) (by simp) (by simp [ints])) 0 rfl (by simp [ints]); clear hS59
   refine wl_nil ?_
   refine then_n ?_
   rcases Bool.eq_false_or_eq_true ((leaveB rs.length A m (l ++ [(k : Int)]) (k + 1))) with hb61 | hb61
   ·skip
    rw [hb61] at hA51
    refine c_true hA51 rfl ?_
    refine c_seq ?_
    have hA62 := hA51.as [] rfl; clear hA51
    refine c_region ?_
    refine st hA62 (op_assign rfl (evc _ _)) rfl rfl (by decide) fun a63 hA64 => ?_; clear hA62 a50
    refine wl_nil ?_
    refine then_n ?_
    refine c_ret ?_
    refine blk_ret ?_
    refine then_ret ?_
    refine then_ret ?_
    refine blk_ret ?_
    refine then_ret ?_
    refine fin_run hA64 (.inl rfl) (run_results1 hA64 rfl (.tmp rfl)) ?_
    have hh := leave_hit (A := A) hk1 (by omega) hno (by assumption) (hf58 (by assumption))
    rw [hh.1]
    exact ⟨rfl, _, _, fun _ => hh.2, hS60.keep [0, 1, 2, 3, 4, 5, 6, 7, 8] (by decide) _ rfl rfl⟩
   ·skip
    rw [hb61] at hA51
    refine c_false hA51 rfl ?_
    refine c_skip ?_
    refine blk_n ?_
    refine then_n ?_
    refine c_region ?_
    refine st hA51 (op_move rfl (hA51.ev rfl)) rfl rfl (by decide) fun a65 hA66 => ?_; clear hA51 a50
    refine st hA66 (op_add rfl (hA66.ev rfl) (evc _ _) (by omega) (by omega)) rfl rfl (by decide) fun a67 hA68 => ?_; clear hA66 a65
    refine st hA68 (op_assign rfl (hA68.ev rfl)) rfl rfl (by decide) fun a69 hA70 => ?_; clear hA68 a67
    refine wl_nil ?_
    have hS71 : Sep X w w52 [(blk b4 40 [xl]), (row xl 3 1 l.length (ints l)), (blk bb 40 [vb56]), (row vb56 3 1 best57.length (ints best57)), (rob bs 120 [(Value.func (.func 71) #[] #[(bptr bb 0), (bptr ba 0), (bptr br 0), (bptr bs 0)])]), (rob ba 38 [va]), (rob br 35 [vu]), (sl va 1 ov.length ov), (lstRo ov A), (sl vu 3 rs.length (vtrips (runV lv rs)))] := hS60.keep [9, 0, 1, 2, 3, 4, 5, 6, 7, 8] (by decide) _ rfl rfl; clear hS60
    exact then_n ⟨k + 1, ⟨vb56, best57, hA70.as _ rfl, hS71, by omega, by omega, leave_go hk1 hno (by assumption)⟩, by omega⟩
  ·skip
   clear hS37
   have hS76 := hS47.row_say (i := 0) rfl (n' := (l ++ [(k : Int)]).length) (xs' := ints (l ++ [(k : Int)])) (by simp) (by simp [ints]); clear hS47
   have hS77 : Sep X w w35 [(row u42 3 1 ((l ++ [(k : Int)]).length) (ints (l ++ [(k : Int)]))), (blk bb 40 [vb_]), (row vb_ 3 1 best_.length (ints best_)), (rob bs 120 [(Value.func (.func 71) #[] #[(bptr bb 0), (bptr ba 0), (bptr br 0), (bptr bs 0)])]), (rob ba 38 [va]), (rob br 35 [vu]), (sl va 1 ov.length ov), (lstRo ov A), (sl vu 3 rs.length (vtrips (runV lv rs))), (blk b4 40 [xl]), (row xl 3 1 l.length (ints l))] := hS76.keep [0, 3, 4, 5, 6, 7, 8, 9, 10, 1, 2] (by decide) _ rfl rfl; clear hS76
   refine stw hA46 (op_callv rfl (hA46.ev rfl) en_71 (ev3 (hA46.ev rfl) (hA46.ev rfl) (hA46.ev rfl)) (by have hz := ih (l ++ [(k : Int)]) (k + 1) _ _ _ _ (ownX [(row u42 3 1 ((l ++ [(k : Int)]).length) (ints (l ++ [(k : Int)]))), (blk bb 40 [vb_]), (row vb_ 3 1 best_.length (ints best_)), (rob bs 120 [(Value.func (.func 71) #[] #[(bptr bb 0), (bptr ba 0), (bptr br 0), (bptr bs 0)])]), (rob ba 38 [va]), (rob br 35 [vu]), (sl va 1 ov.length ov), (lstRo ov A), (sl vu 3 rs.length (vtrips (runV lv rs)))]) (by simp; omega) (Sep.enterG (A := [(row u42 3 1 ((l ++ [(k : Int)]).length) (ints (l ++ [(k : Int)]))), (blk bb 40 [vb_]), (row vb_ 3 1 best_.length (ints best_)), (rob bs 120 [(Value.func (.func 71) #[] #[(bptr bb 0), (bptr ba 0), (bptr br 0), (bptr bs 0)])]), (rob ba 38 [va]), (rob br 35 [vu]), (sl va 1 ov.length ov), (lstRo ov A), (sl vu 3 rs.length (vtrips (runV lv rs)))]) (B := [(blk b4 40 [xl]), (row xl 3 1 l.length (ints l))]) hS77); rw [show ((m : Int) + 1) - 1 = (m : Int) by omega]; exact hz)) rfl rfl (by decide) ?_
   rintro a73 _ w75 ⟨rfl, vb79, best80, hf81, hT78⟩ hA74; clear hA46 a34
   have hS82 : Sep X w w75 [(row u42 3 1 ((l ++ [(k : Int)]).length) (ints (l ++ [(k : Int)]))), (blk bb 40 [vb79]), (row vb79 3 1 best80.length (ints best80)), (rob bs 120 [(Value.func (.func 71) #[] #[(bptr bb 0), (bptr ba 0), (bptr br 0), (bptr bs 0)])]), (rob ba 38 [va]), (rob br 35 [vu]), (sl va 1 ov.length ov), (lstRo ov A), (sl vu 3 rs.length (vtrips (runV lv rs))), (blk b4 40 [xl]), (row xl 3 1 l.length (ints l))] := Sep.callG (A := [(row u42 3 1 ((l ++ [(k : Int)]).length) (ints (l ++ [(k : Int)]))), (blk bb 40 [vb_]), (row vb_ 3 1 best_.length (ints best_)), (rob bs 120 [(Value.func (.func 71) #[] #[(bptr bb 0), (bptr ba 0), (bptr br 0), (bptr bs 0)])]), (rob ba 38 [va]), (rob br 35 [vu]), (sl va 1 ov.length ov), (lstRo ov A), (sl vu 3 rs.length (vtrips (runV lv rs)))]) (B := [(blk b4 40 [xl]), (row xl 3 1 l.length (ints l))]) hS77 hT78 (lentOk_at ⟨.inl rfl, .inl rfl, .inl rfl, .inr ⟨3, rfl⟩, .inr ⟨4, rfl⟩, .inr ⟨5, rfl⟩, .inr ⟨6, rfl⟩, .inr ⟨7, rfl⟩, .inr ⟨8, rfl⟩, trivial⟩); clear hT78 hS77
   refine wl_nil ?_
   refine then_n ?_
   rcases Bool.eq_false_or_eq_true ((leaveB rs.length A m (l ++ [(k : Int)]) (k + 1))) with hb83 | hb83
   ·skip
    rw [hb83] at hA74
    refine c_true hA74 rfl ?_
    refine c_seq ?_
    have hA84 := hA74.as [] rfl; clear hA74
    refine c_region ?_
    refine st hA84 (op_assign rfl (evc _ _)) rfl rfl (by decide) fun a85 hA86 => ?_; clear hA84 a73
    refine wl_nil ?_
    refine then_n ?_
    refine c_ret ?_
    refine blk_ret ?_
    refine then_ret ?_
    refine then_ret ?_
    refine blk_ret ?_
    refine then_ret ?_
    refine fin_run hA86 (.inl rfl) (run_results1 hA86 rfl (.tmp rfl)) ?_
    have hh := leave_hit (A := A) hk1 (by omega) hno (by assumption) (hf81 (by assumption))
    rw [hh.1]
    exact ⟨rfl, _, _, fun _ => hh.2, hS82.keep [10, 1, 2, 3, 4, 5, 6, 7, 8] (by decide) _ rfl rfl⟩
   ·skip
    rw [hb83] at hA74
    refine c_false hA74 rfl ?_
    refine c_skip ?_
    refine blk_n ?_
    refine then_n ?_
    refine c_region ?_
    refine st hA74 (op_move rfl (hA74.ev rfl)) rfl rfl (by decide) fun a87 hA88 => ?_; clear hA74 a73
    refine st hA88 (op_add rfl (hA88.ev rfl) (evc _ _) (by omega) (by omega)) rfl rfl (by decide) fun a89 hA90 => ?_; clear hA88 a87
    refine st hA90 (op_assign rfl (hA90.ev rfl)) rfl rfl (by decide) fun a91 hA92 => ?_; clear hA90 a89
    refine wl_nil ?_
    have hS93 : Sep X w w75 [(blk b4 40 [xl]), (row xl 3 1 l.length (ints l)), (blk bb 40 [vb79]), (row vb79 3 1 best80.length (ints best80)), (rob bs 120 [(Value.func (.func 71) #[] #[(bptr bb 0), (bptr ba 0), (bptr br 0), (bptr bs 0)])]), (rob ba 38 [va]), (rob br 35 [vu]), (sl va 1 ov.length ov), (lstRo ov A), (sl vu 3 rs.length (vtrips (runV lv rs)))] := hS82.keep [9, 10, 1, 2, 3, 4, 5, 6, 7, 8] (by decide) _ rfl rfl; clear hS82
    exact then_n ⟨k + 1, ⟨vb79, best80, hA92.as _ rfl, hS93, by omega, by omega, leave_go hk1 hno (by assumption)⟩, by omega⟩
 ·skip
  rw [decide_eq_false hb31] at hA30
  refine c_false hA30 rfl ?_
  refine c_exit ?_
  refine then_exit ?_
  refine then_exit ?_
  refine blk_hit ?_
  refine then_n ?_
  refine c_seq ?_
  have hA94 := hA30.as [] rfl; clear hA30
  refine c_region ?_
  refine st hA94 (op_assign rfl (evc _ _)) rfl rfl (by decide) fun a95 hA96 => ?_; clear hA94 a29
  refine wl_nil ?_
  refine then_n ?_
  refine c_ret ?_
  refine fin_run hA96 (.inl rfl) (run_results1 hA96 rfl (.tmp rfl)) ?_
  have he := leave_end (A := A) (l := l) hk2 (by omega) hno
  rw [he]
  exact ⟨rfl, _, _, (fun h => absurd h (by decide)), hS22.keep [1, 2, 3, 4, 5, 6, 7, 8, 9] (by decide) _ rfl rfl⟩
theorem leave_ok (bb ba br bs : Nat) (va vu : Value) (ov lv : List Value) (A : List (List Int)) (rs : List RunD) (hlv : lv.length = rs.length) (hAl : A.length ≤ 1000000) (hAs : ∀ i, (A.getD i []).length ≤ 1000000) (hrl : rs.length ≤ 1000) : ∀ (m : Nat) (l : List Int) (next : Nat) (xl vb : Value) (best : List Int) (w : World) (X : Nat → Prop) (hl : l.length + m ≤ 1000) (_ : Sep X w w [(row xl 3 1 l.length (ints l)), (blk bb 40 [vb]), (row vb 3 1 best.length (ints best)), (rob bs 120 [(Value.func (.func 71) #[] #[(bptr bb 0), (bptr ba 0), (bptr br 0), (bptr bs 0)])]), (rob ba 38 [va]), (rob br 35 [vu]), (sl va 1 ov.length ov), (lstRo ov A), (sl vu 3 rs.length (vtrips (runV lv rs)))]), Calls Try.prog 71 #[xl, .int .i64 (next : Int), .int .i64 (m : Int), bptr bb 0, bptr ba 0, bptr br 0, bptr bs 0] w (Ret fun v w' => v = .bool (leaveB rs.length A m l next) ∧ ∃ vb' best', (leaveB rs.length A m l next = true → (setsF rs.length m l next).find? (okB A) = some best') ∧ Sep X w w' [(row xl 3 1 l.length (ints l)), (blk bb 40 [vb']), (row vb' 3 1 best'.length (ints best')), (rob bs 120 [(Value.func (.func 71) #[] #[(bptr bb 0), (bptr ba 0), (bptr br 0), (bptr bs 0)])]), (rob ba 38 [va]), (rob br 35 [vu]), (sl va 1 ov.length ov), (lstRo ov A), (sl vu 3 rs.length (vtrips (runV lv rs)))]) := by
 intro m
 induction m with
 | zero => intro l next xl vb best w X hl hJ; exact leave_zero bb ba br bs va vu ov lv A rs hlv hAl hAs hrl l next xl vb best w X hl hJ
 | succ m ih => intro l next xl vb best w X hl hJ; exact leave_succ bb ba br bs va vu ov lv A rs hlv hAl hAs hrl m ih l next xl vb best w X hl hJ
end Go.Proofs.Ytkkglkdnnfegkaa

namespace Go.Proofs.Ytkkglkdnnfegkaa
open Go.RowKit Go.Shelf Go.Eng
theorem doubt_ok (R : List (Int × Int)) (rs : List RunD) (lv : List Value) (vr vu : Value) (w : World) (hm : SlAt w vr 2 R.length (pairs R)) (hx : RunsAt w vu lv rs) (hlen : R.length ≤ 1000000) (hrl : rs.length ≤ 1000000) (he : enterF R rs = 0) :
  Calls Try.prog 43 #[(Value.agg #[vr]), vu] w (Ret fun v w' => ∃ u, v = .tuple #[u, .int .i64 0] ∧ Sep NoB w w' [row u 3 1 (doubtF R rs).length (ints (doubtF R rs))]) := by
 refine calls_enterM Try.func43 rfl fun a0 hA0 => ?_
 replace hA0 : Fr 63 (marks []) [(0, (Value.agg #[vr])), (1, vu)] a0 := hA0
 have hR := (check_mat (enter_mat he)).1
 have hV := enter_runs he
 have hmp := (check_mat (enter_mat he)).2.2
 have hfew := check_few (enter_mat he)
 have hvl := hV.len
 have hags : ∀ i, ((againstF R rs).getD i []).length ≤ 1000000 := against_small (by omega)
 have hS0 : Sep NoB w w [(marksR []), (sl vr 2 R.length (pairs R)), (sl vu 3 rs.length (vtrips (runV lv rs))), (segsR false lv rs)] := sep_marks (sep_ro ⟨rfl, hm, rfl, hx.runs, rfl, ⟨hx.len, hx.segs⟩, trivial⟩)
 refine c_seq ?_
 refine c_region ?_
 refine stw hA0 (op_box hS0 rfl (hA0.ev rfl) (cs := [vr]) rfl) rfl rfl (by decide) ?_
 rintro a1 _ w3 ⟨b4, rfl, hS5⟩ hA2; clear hA0 hS0 a0
 refine stw hA2 (op_box hS5 rfl (hA2.ev rfl) (cs := [vu]) (isSl_cells (SlAt.isSl (hS5.sk 3 rfl)))) rfl rfl (by decide) ?_
 rintro a6 _ w8 ⟨b9, rfl, hS10⟩ hA7; clear hA2 hS5 a1
 refine st hA7 (op_assign rfl (evc _ _)) rfl rfl (by decide) fun a11 hA12 => ?_; clear hA7 a6
 refine st hA12 (op_assign rfl (evc _ _)) rfl rfl (by decide) fun a13 hA14 => ?_; clear hA12 a11
 refine wl_nil ?_
 refine then_n ?_
 refine c_seq ?_
 refine c_region ?_
 refine st hA14 (op_loadA rfl ty_33 (hA14.ev rfl) (hS10.bk 1 rfl) (l := [vr]) rfl rfl) rfl rfl (by decide) fun a15 hA16 => ?_; clear hA14 a13
 refine st hA16 (op_load1 rfl ty_35 (hA16.ev rfl) (hS10.bk 0 rfl) rfl) rfl rfl (by decide) fun a17 hA18 => ?_; clear hA16 a15
 refine stw hA18 (op_call rfl en_66 (ev2 (hA18.ev rfl) (hA18.ev rfl)) (enter_ok R rs lv vr vu _ (hm.step hS10.ext) (hx.step hS10.ext) (by omega) (by omega) he)) rfl rfl (by decide) ?_
 rintro a19 _ w21 ⟨bj24, bm25, rfl, hT22⟩ hA20; have hS23 := hS10.callS hT22 rfl; clear hT22 hA18 hS10 a17
 refine st hA20 (op_move rfl (hA20.ev rfl)) rfl rfl (by decide) fun a26 hA27 => ?_; clear hA20 a19
 refine st hA27 (op_extract rfl (hA27.ev rfl) rfl) rfl rfl (by decide) fun a28 hA29 => ?_; clear hA27 a26
 refine st hA29 (op_extract rfl (hA29.ev rfl) rfl) rfl rfl (by decide) fun a30 hA31 => ?_; clear hA29 a28
 refine st hA31 (op_assign rfl (hA31.ev rfl)) rfl rfl (by decide) fun a32 hA33 => ?_; clear hA31 a30
 refine st hA33 (op_assign rfl (hA33.ev rfl)) rfl rfl (by decide) fun a34 hA35 => ?_; clear hA33 a32
 refine wl_nil ?_
 refine then_n ?_
 refine c_seq ?_
 refine c_seq ?_
 have hA36 := hA35.as [(7, (Value.int .i64 0)), (6, (bptr bj24 0)), (3, (bptr b9 0))] rfl; clear hA35
 refine c_region ?_
 refine st hA36 (op_move rfl (hA36.ev rfl)) rfl rfl (by decide) fun a37 hA38 => ?_; clear hA36 a34
 refine st hA38 (op_neq rfl (hA38.ev rfl) (evc _ _)) rfl rfl (by decide) fun a39 hA40 => ?_; clear hA38 a37
 refine wl_nil ?_
 refine then_n ?_
 refine c_false hA40 rfl ?_
 refine c_skip ?_
 refine then_n ?_
 refine c_seq ?_
 refine c_region ?_
 refine stw hA40 (op_alloc hS23 rfl ze_38 (cs := [(Value.slice none 0 0)]) rfl) rfl rfl (by decide) ?_
 rintro a41 _ w43 ⟨b44, rfl, hS45⟩ hA42; clear hA40 hS23 a39
 refine wl_nil ?_
 refine then_n ?_
 refine c_seq ?_
 refine c_seq ?_
 refine c_region ?_
 refine st hA42 (op_move rfl (hA42.ev rfl)) rfl rfl (by decide) fun a46 hA47 => ?_; clear hA42 a41
 refine st hA47 (op_nilCheck rfl (hA47.ev rfl)) rfl rfl (by decide) fun a48 hA49 => ?_; clear hA47 a46
 refine st hA49 (op_field rfl fd_119_0 (hA49.ev rfl)) rfl rfl (by decide) fun a50 hA51 => ?_; clear hA49 a48
 refine st hA51 (op_loadA rfl ty_33 (hA51.ev rfl) (hS45.bk 1 rfl) (l := [vr]) rfl rfl) rfl rfl (by decide) fun a52 hA53 => ?_; clear hA51 a50
 refine stw hA53 (op_call rfl en_65 (ev1 (hA53.ev rfl)) (lists_ok _ _)) rfl rfl (by decide) ?_
 rintro a54 _ w56 ⟨bl59, rfl, hT57⟩ hA55; have hS58 := hS45.callS hT57 rfl; clear hT57 hA53 hS45 a52
 refine wl_nil ?_
 refine then_n ?_
 refine c_block ?_
 have hA60 := hA55.as [(29, (Value.func (.func 87) #[] #[(bptr bl59 0)])), (8, (bptr b44 0)), (3, (bptr b9 0))] rfl; clear hA55
 have hS61 := (hS58.nil_row 40 1).lst_nil; clear hS58
 have hS62 := hS61.nilR; clear hS61
 have hS63 : Sep NoB w w56 [(marksR []), nilR, (lstR [] []), (row (Value.slice none 0 0) 40 1 0 []), (blk bl59 33 [vr]), (blk b44 38 [(Value.slice none 0 0)]), (blk bj24 119 [vr, vu, (Value.map (some bm25))]), (memo bm25 (KA rs)), (blk b9 35 [vu]), (blk b4 33 [vr]), (sl vr 2 R.length (pairs R)), (sl vu 3 rs.length (vtrips (runV lv rs))), (segsR false lv rs)] := hS62.keep [9, 0, 1, 2, 3, 4, 5, 6, 7, 8, 10, 11, 12] (by decide) _ rfl rfl; clear hS62
 refine c_rangeG hA60 nilR rfl hS63 (hA60.ev rfl) en_87 ((listsF R).length) (fun k => #[.agg (ints ((listsF R).getD k [])).toArray]) (fun _ => rfl) [rob bl59 33 [vr], sl vr 2 R.length (pairs R)] (fun r hr => by simp only [List.mem_cons, List.not_mem_nil, or_false] at hr; rcases hr with rfl | rfl <;> rfl) (lists_it bl59 vr R hR _ rfl) (fun q L_ => ∃ vo_ : Value, ∃ ov_ : List Value, L_ = [(lstR ov_ ((againstF R rs).take q)), (row vo_ 40 1 ov_.length ov_), (blk bl59 33 [vr]), (blk b44 38 [vo_]), (blk bj24 119 [vr, vu, (Value.map (some bm25))]), (memo bm25 (KA rs)), (blk b9 35 [vu]), (blk b4 33 [vr]), (sl vr 2 R.length (pairs R)), (sl vu 3 rs.length (vtrips (runV lv rs))), (segsR false lv rs)]) (fun _ => False) none ⟨(Value.slice none 0 0), [], rfl⟩ (fun q L_ hI_ G_ W_ r1_ r2_ hW_ => by obtain ⟨vo_, ov_, rfl⟩ := hI_; exact (Sep.keep (hW_.to_ro (i := 5) rfl) [2, 5, 11] (by decide) _ rfl rfl)) (fun L_ hI_ => hI_.elim) ?_ ?_ (fun _ hc_ => by cases hc_)
 ·skip
  intro q hq L_ hL_ G72 hG73 l69 D70 rc71 a64 w65 ha68 hS66; obtain ⟨vo_, ov_, rfl⟩ := hL_
  have hA67 : Fr 63 [] [(30, (Value.agg (ints ((listsF R).getD q [])).toArray)), (29, (Value.func (.func 87) #[] #[(bptr bl59 0)])), (8, (bptr b44 0)), (3, (bptr b9 0))] a64 := by rw [ha68]; exact Fr.round1 hA60 (by decide)
  clear ha68 hS63
  have hlr := lists_rates hR hq; have hlr3 := hlr.1; have hol := hS66.lst_len 3 rfl; have hot : ((againstF R rs).take q).length ≤ q := List.length_take_le _ _
  refine c_region ?_
  refine stw hA67 (op_alloc hS66 rfl ze_104 (cs := [(Value.int .i64 0), (Value.int .i64 0), (Value.int .i64 0)]) rfl) rfl rfl (by decide) ?_
  rintro a74 _ w76 ⟨b77, rfl, hS78⟩ hA75; clear hA67 hS66 a64
  refine sts hA75 (op_store hS78 rfl ty_104 (hA75.ev rfl) (hA75.ev rfl) (i := 0) rfl (vs := (ints ((listsF R).getD q []))) rfl (lists_len3 hR hq).symm (ints_one _) (by decide)) rfl rfl ?_
  intro _ w79 hS80 hA82; have hS81 := hS80.blk_say (i := 0) rfl (cs' := (ints ((listsF R).getD q []))) (setFrom_all _ _ (Eq.symm (lists_len3 hR hq).symm)); clear hS80 hA75 hS78
  refine wl_nil ?_
  have hS83 : Sep NoB w w79 [(obR l69 (.loop (rc71 .ready none))), (marksR (D70 :: [])), G72, (blk b77 104 (ints ((listsF R).getD q []))), (lstR ov_ ((againstF R rs).take q)), (row vo_ 40 1 ov_.length ov_), (blk bl59 33 [vr]), (blk b44 38 [vo_]), (blk bj24 119 [vr, vu, (Value.map (some bm25))]), (memo bm25 (KA rs)), (blk b9 35 [vu]), (blk b4 33 [vr]), (sl vr 2 R.length (pairs R)), (sl vu 3 rs.length (vtrips (runV lv rs))), (segsR false lv rs)] := hS81.keep [1, 2, 3, 0, 4, 5, 6, 7, 8, 9, 10, 11, 12, 13, 14] (by decide) _ rfl rfl; clear hS81
  refine ⟨rfl, _, hS83, ?_⟩; intro w84 hS85; clear hS83
  refine c_block ?_
  refine c_seq ?_
  refine c_region ?_
  refine st hA82 (op_assign rfl (evc _ _)) rfl rfl (by decide) fun a86 hA87 => ?_; clear hA82 a74
  have hS88 := hS85.nil_row 3 1; clear hS85
  refine wl_nil ?_
  refine then_n ?_
  refine c_seq ?_
  refine c_seq ?_
  refine c_region ?_
  refine st hA87 (op_load1 rfl ty_35 (hA87.ev rfl) (hS88.bk 11 rfl) rfl) rfl rfl (by decide) fun a89 hA90 => ?_; clear hA87 a86
  refine st hA90 (op_lenS rfl un_35 (hA90.ev rfl) (hS88.sk 14 rfl)) rfl rfl (by decide) fun a91 hA92 => ?_; clear hA90 a89
  refine st hA92 (op_move rfl (evc _ _)) rfl rfl (by decide) fun a93 hA94 => ?_; clear hA92 a91
  refine wl_nil ?_
  refine then_n ?_
  refine c_block ?_
  have hA95 := hA94.as [(33, (Value.int .i64 0)), (32, (Value.int .i64 (rs.length : Int))), (31, vu), (10, (Value.slice none 0 0)), (9, (bptr b77 0)), (8, (bptr b44 0))] rfl; clear hA94
  refine c_loop (G := Nat) (fun (k : Nat) a_ w_ => ∃ v10_ : Value, Fr 63 [] [(33, (Value.int .i64 (k : Int))), (32, (Value.int .i64 (rs.length : Int))), (31, vu), (10, v10_), (9, (bptr b77 0)), (8, (bptr b44 0))] a_ ∧ Sep NoB w w_ [(row v10_ 3 1 ((agU rs ((listsF R).getD q []) k).length) (ints (agU rs ((listsF R).getD q []) k))), (obR l69 (.loop (rc71 .busy none))), (marksR (D70 :: [])), G72, (blk b77 104 (ints ((listsF R).getD q []))), (lstR ov_ ((againstF R rs).take q)), (row vo_ 40 1 ov_.length ov_), (blk bl59 33 [vr]), (blk b44 38 [vo_]), (blk bj24 119 [vr, vu, (Value.map (some bm25))]), (memo bm25 (KA rs)), (blk b9 35 [vu]), (blk b4 33 [vr]), (sl vr 2 R.length (pairs R)), (sl vu 3 rs.length (vtrips (runV lv rs))), (segsR false lv rs)] ∧ (k ≤ rs.length)) (fun k => rs.length - k) 0 ⟨(Value.slice none 0 0), hA95.as _ rfl, hS88, by omega⟩ ?_
  clear hA95 hS88 a93
  rintro k a96 w98 ⟨v10_, hA97, hS99, hk⟩
  have hagu := agU_len rs ((listsF R).getD q []) k
  refine c_seq ?_
  refine c_region ?_
  refine st hA97 (op_lss rfl (hA97.ev rfl) (hA97.ev rfl)) rfl rfl (by decide) fun a100 hA101 => ?_; clear hA97 a96
  refine wl_nil ?_
  refine then_n ?_
  refine c_seq ?_
  by_cases hb102 : (k : Int) < (rs.length : Int)
  ·skip
   rw [decide_eq_true hb102] at hA101
   have hrk := hV.runs k (by omega)
   refine c_true hA101 rfl ?_
   refine c_skip ?_
   refine then_n ?_
   refine c_seq ?_
   refine c_block ?_
   refine c_seq ?_
   refine c_region ?_
   refine st hA101 (op_move rfl (hA101.ev rfl)) rfl rfl (by decide) fun a103 hA104 => ?_; clear hA101 a100
   refine st hA104 (op_indexS rfl un_35 ty_96 (hA104.ev rfl) (i := k) (hA104.ev rfl) (hS99.sk 14 rfl) (by decide) (by omega)) rfl rfl (by decide) fun a105 hA106 => ?_; clear hA104 a103
   refine st hA106 (op_loadAE rfl ty_96 (hA106.ev rfl) (hS99.sk 14 rfl) (runs_all hx.len (by omega)) rfl (by decide)) rfl rfl (by decide) fun a107 hA108 => ?_; clear hA106 a105
   refine stw hA108 (op_alloc hS99 rfl ze_96 (cs := [(Value.slice none 0 0), (Value.int .i64 0), (Value.int .i64 0)]) rfl) rfl rfl (by decide) ?_
   rintro a109 _ w111 ⟨b112, rfl, hS113⟩ hA110; clear hA108 hS99 a107
   refine st hA110 (op_assign rfl (hA110.ev rfl)) rfl rfl (by decide) fun a114 hA115 => ?_; clear hA110 a109
   refine sts hA115 (op_store hS113 rfl ty_96 (hA115.ev rfl) (hA115.ev rfl) (i := 0) rfl (vs := [(lv.getD k nilS), (Value.int .i64 ((rs.getD k run0).lo)), (Value.int .i64 ((rs.getD k run0).hi))]) rfl rfl (all_c (SlAt.one ((hS113.ok 16 _ rfl).2 k (by omega))) (all_c rfl (all_c rfl all_n))) (Nat.le_of_ble_eq_true rfl)) rfl rfl ?_
   intro _ w116 hS117 hA118; clear hA115
   have hS119 : Sep NoB w w116 [(blk b112 96 [(lv.getD k nilS), (Value.int .i64 ((rs.getD k run0).lo)), (Value.int .i64 ((rs.getD k run0).hi))]), (row v10_ 3 1 ((agU rs ((listsF R).getD q []) k).length) (ints (agU rs ((listsF R).getD q []) k))), (obR l69 (.loop (rc71 .busy none))), (marksR (D70 :: [])), G72, (blk b77 104 (ints ((listsF R).getD q []))), (lstR ov_ ((againstF R rs).take q)), (row vo_ 40 1 ov_.length ov_), (blk bl59 33 [vr]), (blk b44 38 [vo_]), (blk bj24 119 [vr, vu, (Value.map (some bm25))]), (memo bm25 (KA rs)), (blk b9 35 [vu]), (blk b4 33 [vr]), (sl vr 2 R.length (pairs R)), (sl vu 3 rs.length (vtrips (runV lv rs))), (segsR false lv rs)] := hS117; clear hS117 hS113
   refine wl_nil ?_
   refine then_n ?_
   refine c_seq ?_
   refine c_region ?_
   refine st hA118 (op_loadA rfl ty_96 (hA118.ev rfl) (hS119.bk 0 rfl) (l := [(lv.getD k nilS), (Value.int .i64 ((rs.getD k run0).lo)), (Value.int .i64 ((rs.getD k run0).hi))]) rfl rfl) rfl rfl (by decide) fun a120 hA121 => ?_; clear hA118 a114
   refine st hA121 (op_loadA rfl ty_104 (hA121.ev rfl) (hS119.bk 5 rfl) (l := (ints ((listsF R).getD q []))) (drop_take_all _ _ (lists_len3 hR hq).symm) (lists_len3 hR hq).symm) rfl rfl (by decide) fun a122 hA123 => ?_; clear hA121 a120
   refine stw hA123 (op_call rfl en_70 (ev2 (hA123.ev rfl) (hA123.ev rfl)) (allows_ok (rs.getD k run0) _ ((listsF R).getD q []) R.length _ hrk.len hR.1 hlr hrk.segs ((hS119.ok 16 _ rfl).2 k (by omega)))) rfl rfl (by decide) ?_
   rintro a124 _ w126 ⟨rfl, hE127⟩ hA125; have hS128 := hS119.step hE127; clear hE127 hA123 hS119 a122
   refine st hA125 (op_not rfl (hA125.ev rfl)) rfl rfl (by decide) fun a129 hA130 => ?_; clear hA125 a124
   refine wl_nil ?_
   refine then_n ?_
   rcases Bool.eq_false_or_eq_true ((allowsB (rs.getD k run0) ((listsF R).getD q []))) with hb131 | hb131
   ·skip
    rw [hb131] at hA130
    refine c_false hA130 rfl ?_
    refine c_skip ?_
    refine blk_n ?_
    refine then_n ?_
    have hA132 := hA130.as [(33, (Value.int .i64 (k : Int))), (32, (Value.int .i64 (rs.length : Int))), (31, vu), (10, v10_), (9, (bptr b77 0)), (8, (bptr b44 0))] rfl; clear hA130
    refine c_region ?_
    refine st hA132 (op_add rfl (hA132.ev rfl) (evc _ _) (by omega) (by omega)) rfl rfl (by decide) fun a133 hA134 => ?_; clear hA132 a129
    refine st hA134 (op_move rfl (hA134.ev rfl)) rfl rfl (by decide) fun a135 hA136 => ?_; clear hA134 a133
    refine wl_nil ?_
    have hS137 : Sep NoB w w126 [(row v10_ 3 1 ((agU rs ((listsF R).getD q []) k).length) (ints (agU rs ((listsF R).getD q []) k))), (obR l69 (.loop (rc71 .busy none))), (marksR (D70 :: [])), G72, (blk b77 104 (ints ((listsF R).getD q []))), (lstR ov_ ((againstF R rs).take q)), (row vo_ 40 1 ov_.length ov_), (blk bl59 33 [vr]), (blk b44 38 [vo_]), (blk bj24 119 [vr, vu, (Value.map (some bm25))]), (memo bm25 (KA rs)), (blk b9 35 [vu]), (blk b4 33 [vr]), (sl vr 2 R.length (pairs R)), (sl vu 3 rs.length (vtrips (runV lv rs))), (segsR false lv rs)] := hS128.keep [1, 2, 3, 4, 5, 6, 7, 8, 9, 10, 11, 12, 13, 14, 15, 16] (by decide) _ rfl rfl; clear hS128
    exact then_n ⟨k + 1, ⟨v10_, hA136.as _ rfl, (hS137.row_say (i := 0) rfl (by rw [agU_n (by assumption)]) (by rw [agU_n (by assumption)])), by omega⟩, by omega⟩
   ·skip
    rw [hb131] at hA130
    refine c_true hA130 rfl ?_
    have hA138 := hA130.as [(11, (Value.int .i64 (k : Int))), (33, (Value.int .i64 (k : Int))), (32, (Value.int .i64 (rs.length : Int))), (31, vu), (10, v10_), (9, (bptr b77 0)), (8, (bptr b44 0))] rfl; clear hA130
    refine c_region ?_
    refine st hA138 (op_move rfl (hA138.ev rfl)) rfl rfl (by decide) fun a139 hA140 => ?_; clear hA138 a129
    refine st hA140 (op_move rfl (hA140.ev rfl)) rfl rfl (by decide) fun a141 hA142 => ?_; clear hA140 a139
    refine stw hA142 (op_buildSlice hS128 rfl (pv1 (hA142.ev rfl)) un_40 ty_3 ze_3 (by decide) (cs := [(Value.int .i64 (k : Int))]) (bs_3_1_0i _)) rfl rfl (by decide) ?_
    rintro a143 _ w145 ⟨b146, rfl, hS147⟩ hA144; clear hA142 hS128 a141
    refine stw hA144 (op_append hS147 rfl un_40 el_3 (hA144.ev rfl) (hA144.ev rfl) (i := 2) rfl (SlAt.of_blk (hS147.bk 0 rfl) rfl (Nat.le_of_ble_eq_true rfl)) rfl (by simp only [maxLen]; omega) (by omega)) rfl rfl (by decide) ?_
    intro a148 v151 w150 hS152 hA149
    have hS153 := hS152.row_say (i := 2) rfl (n' := ((agU rs ((listsF R).getD q []) k) ++ [(k : Int)]).length) (xs' := (ints ((agU rs ((listsF R).getD q []) k) ++ [(k : Int)]))) (by simp) (by simp [ints]); clear hS152 hA144 hS147 a143
    refine st hA149 (op_assign rfl (hA149.ev rfl)) rfl rfl (by decide) fun a154 hA155 => ?_; clear hA149 a148
    refine wl_nil ?_
    refine blk_n ?_
    refine then_n ?_
    refine c_region ?_
    refine st hA155 (op_add rfl (hA155.ev rfl) (evc _ _) (by omega) (by omega)) rfl rfl (by decide) fun a156 hA157 => ?_; clear hA155 a154
    refine st hA157 (op_move rfl (hA157.ev rfl)) rfl rfl (by decide) fun a158 hA159 => ?_; clear hA157 a156
    refine wl_nil ?_
    have hS160 : Sep NoB w w150 [(row v151 3 1 (((agU rs ((listsF R).getD q []) k) ++ [(k : Int)]).length) (ints ((agU rs ((listsF R).getD q []) k) ++ [(k : Int)]))), (obR l69 (.loop (rc71 .busy none))), (marksR (D70 :: [])), G72, (blk b77 104 (ints ((listsF R).getD q []))), (lstR ov_ ((againstF R rs).take q)), (row vo_ 40 1 ov_.length ov_), (blk bl59 33 [vr]), (blk b44 38 [vo_]), (blk bj24 119 [vr, vu, (Value.map (some bm25))]), (memo bm25 (KA rs)), (blk b9 35 [vu]), (blk b4 33 [vr]), (sl vr 2 R.length (pairs R)), (sl vu 3 rs.length (vtrips (runV lv rs))), (segsR false lv rs)] := hS153.keep [2, 3, 4, 5, 6, 7, 8, 9, 10, 11, 12, 13, 14, 15, 16, 17] (by decide) _ rfl rfl; clear hS153
    exact then_n ⟨k + 1, ⟨v151, hA159.as _ rfl, (hS160.row_say (i := 0) rfl (by rw [agU_y (by assumption)]) (by rw [agU_y (by assumption)])), by omega⟩, by omega⟩
  ·skip
   rw [decide_eq_false hb102] at hA101
   refine c_false hA101 rfl ?_
   refine c_exit ?_
   refine then_exit ?_
   refine then_exit ?_
   refine blk_hit ?_
   refine then_n ?_
   refine c_region ?_
   refine st hA101 (op_load1 rfl ty_38 (hA101.ev rfl) (hS99.bk 8 rfl) rfl) rfl rfl (by decide) fun a161 hA162 => ?_; clear hA101 a100
   refine st hA162 (op_move rfl (hA162.ev rfl)) rfl rfl (by decide) fun a163 hA164 => ?_; clear hA162 a161
   refine stw hA164 (op_buildSlice hS99 rfl (pv1 (hA164.ev rfl)) un_38 ty_40 ze_40 (by decide) (cs := [v10_]) (bs_40_1_0s _ (SlAt.isSl (SlAt.of_row (hS99.ok_row 0 rfl))))) rfl rfl (by decide) ?_
   rintro a165 _ w167 ⟨b168, rfl, hS169⟩ hA166; clear hA164 hS99 a163
   refine stw hA166 (op_append hS169 rfl un_38 el_40 (hA166.ev rfl) (hA166.ev rfl) (i := 7) rfl (SlAt.of_blk (hS169.bk 0 rfl) rfl (Nat.le_of_ble_eq_true rfl)) (all_c (SlAt.one (SlAt.of_row (hS169.ok_row 1 rfl))) all_n) (by simp only [maxLen]; omega) (by omega)) rfl rfl (by decide) ?_
   intro a170 v173 w172 hS174 hA171
   have hS175 := hS174.row_say (i := 7) rfl (n' := (ov_ ++ [v10_]).length) (xs' := (ov_ ++ [v10_])) (by simp) rfl; clear hS174 hA166 hS169 a165
   refine sts hA171 (op_store hS175 rfl ty_38 (hA171.ev rfl) (hA171.ev rfl) (i := 9) rfl (vs := [v173]) (isSl_cells (SlAt.isSl (SlAt.of_row (hS175.ok_row 7 rfl)))) rfl (all_c (SlAt.one (SlAt.of_row (hS175.ok_row 7 rfl))) all_n) (Nat.le_of_ble_eq_true rfl)) rfl rfl ?_
   intro _ w176 hS177 hA178; clear hA171
   have hS179 : Sep NoB w w176 [(blk b168 40 [v10_]), (row v10_ 3 1 ((agU rs ((listsF R).getD q []) k).length) (ints (agU rs ((listsF R).getD q []) k))), (obR l69 (.loop (rc71 .busy none))), (marksR (D70 :: [])), G72, (blk b77 104 (ints ((listsF R).getD q []))), (lstR ov_ ((againstF R rs).take q)), (row v173 40 1 ((ov_ ++ [v10_]).length) (ov_ ++ [v10_])), (blk bl59 33 [vr]), (blk b44 38 [v173]), (blk bj24 119 [vr, vu, (Value.map (some bm25))]), (memo bm25 (KA rs)), (blk b9 35 [vu]), (blk b4 33 [vr]), (sl vr 2 R.length (pairs R)), (sl vu 3 rs.length (vtrips (runV lv rs))), (segsR false lv rs)] := hS177; clear hS177 hS175
   refine wl_nil ?_
   refine blk_n ?_
   have hS180 := hS179.row_say (i := 1) rfl (n' := (agU rs ((listsF R).getD q []) rs.length).length) (xs' := ints (agU rs ((listsF R).getD q []) rs.length)) (by rw [show k = rs.length by omega]) (by rw [show k = rs.length by omega]); clear hS179
   have hS181 : Sep NoB w w176 [(row v10_ 3 1 ((agU rs ((listsF R).getD q []) rs.length).length) (ints (agU rs ((listsF R).getD q []) rs.length))), (lstR ov_ ((againstF R rs).take q)), (blk b168 40 [v10_]), (obR l69 (.loop (rc71 .busy none))), (marksR (D70 :: [])), G72, (blk b77 104 (ints ((listsF R).getD q []))), (row v173 40 1 ((ov_ ++ [v10_]).length) (ov_ ++ [v10_])), (blk bl59 33 [vr]), (blk b44 38 [v173]), (blk bj24 119 [vr, vu, (Value.map (some bm25))]), (memo bm25 (KA rs)), (blk b9 35 [vu]), (blk b4 33 [vr]), (sl vr 2 R.length (pairs R)), (sl vu 3 rs.length (vtrips (runV lv rs))), (segsR false lv rs)] := hS180.keep [1, 6, 0, 2, 3, 4, 5, 7, 8, 9, 10, 11, 12, 13, 14, 15, 16] (by decide) _ rfl rfl; clear hS180
   have hS182 := hS181.lst_snoc; clear hS181
   have hS183 : Sep NoB w w176 [(obR l69 (.loop (rc71 .busy none))), (marksR (D70 :: [])), G72, (lstR (ov_ ++ [v10_]) ((againstF R rs).take q ++ [(agU rs ((listsF R).getD q []) rs.length)])), (row v173 40 1 ((ov_ ++ [v10_]).length) (ov_ ++ [v10_])), (blk bl59 33 [vr]), (blk b44 38 [v173]), (blk bj24 119 [vr, vu, (Value.map (some bm25))]), (memo bm25 (KA rs)), (blk b9 35 [vu]), (blk b4 33 [vr]), (sl vr 2 R.length (pairs R)), (sl vu 3 rs.length (vtrips (runV lv rs))), (segsR false lv rs)] := hS182.keep [2, 3, 4, 0, 6, 7, 8, 9, 10, 11, 12, 13, 14, 15] (by decide) _ rfl rfl; clear hS182
   exact re_n ⟨_, rfl, ⟨v173, (ov_ ++ [v10_]), rfl⟩⟩ (hS183.lst_say (i := 3) rfl (against_succ hq))
 intro L_ hL_ D188 a184 w185 hA187 hS186; obtain ⟨vo_, ov_, rfl⟩ := hL_; clear hA60 hS63
 have hS189 := hS186.lst_say (i := 2) (ls' := (againstF R rs)) rfl (List.take_of_length_le (by rw [against_len]; exact Nat.le_refl _)); clear hS186
 have hol := hS189.lst_len 2 rfl; have hagl := against_len R rs
 refine blk_n ?_
 refine then_n ?_
 refine c_seq ?_
 refine c_region ?_
 refine stw hA187 (op_alloc hS189 rfl ze_40 (cs := [(Value.slice none 0 0)]) rfl) rfl rfl (by decide) ?_
 rintro a190 _ w192 ⟨b193, rfl, hS194⟩ hA191; clear hA187 hS189 a184
 refine wl_nil ?_
 refine then_n ?_
 refine c_seq ?_
 refine c_region ?_
 refine stw hA191 (op_alloc hS194 rfl ze_120 (cs := [Value.nilFunc]) rfl) rfl rfl (by decide) ?_
 rintro a195 _ w197 ⟨b198, rfl, hS199⟩ hA196; clear hA191 hS194 a190
 refine wl_nil ?_
 refine then_n ?_
 refine c_seq ?_
 refine c_region ?_
 refine st hA196 (op_makeFunc rfl ev0 (ev4 (hA196.ev rfl) (hA196.ev rfl) (hA196.ev rfl) (hA196.ev rfl))) rfl rfl (by decide) fun a200 hA201 => ?_; clear hA196 a195
 refine sts hA201 (op_store hS199 rfl ty_120 (hA201.ev rfl) (hA201.ev rfl) (i := 0) rfl (vs := [(Value.func (.func 71) #[] #[(bptr b193 0), (bptr b44 0), (bptr b9 0), (bptr b198 0)])]) rfl rfl rfl (Nat.le_of_ble_eq_true rfl)) rfl rfl ?_
 intro _ w202 hS203 hA204; clear hA201
 have hS205 : Sep NoB w w202 [(blk b198 120 [(Value.func (.func 71) #[] #[(bptr b193 0), (bptr b44 0), (bptr b9 0), (bptr b198 0)])]), (blk b193 40 [(Value.slice none 0 0)]), (marksR (D188 :: [])), nilR, (lstR ov_ (againstF R rs)), (row vo_ 40 1 ov_.length ov_), (blk bl59 33 [vr]), (blk b44 38 [vo_]), (blk bj24 119 [vr, vu, (Value.map (some bm25))]), (memo bm25 (KA rs)), (blk b9 35 [vu]), (blk b4 33 [vr]), (sl vr 2 R.length (pairs R)), (sl vu 3 rs.length (vtrips (runV lv rs))), (segsR false lv rs)] := hS203; clear hS203 hS199
 refine wl_nil ?_
 refine then_n ?_
 refine c_seq ?_
 refine c_seq ?_
 refine c_region ?_
 refine st hA204 (op_load1 rfl ty_35 (hA204.ev rfl) (hS205.bk 10 rfl) rfl) rfl rfl (by decide) fun a206 hA207 => ?_; clear hA204 a200
 refine st hA207 (op_lenS rfl un_35 (hA207.ev rfl) (hS205.sk 13 rfl)) rfl rfl (by decide) fun a208 hA209 => ?_; clear hA207 a206
 refine st hA209 (op_add rfl (hA209.ev rfl) (evc _ _) (by omega) (by omega)) rfl rfl (by decide) fun a210 hA211 => ?_; clear hA209 a208
 refine st hA211 (op_move rfl (evc _ _)) rfl rfl (by decide) fun a212 hA213 => ?_; clear hA211 a210
 refine wl_nil ?_
 refine then_n ?_
 refine c_block ?_
 have hS214 := hS205.to_ro (i := 0) rfl; clear hS205
 have hS215 := hS214.to_ro (i := 7) rfl; clear hS214
 have hS216 := hS215.to_ro (i := 10) rfl; clear hS215
 have hS217 := (hS216.row_sl (i := 5) rfl).lst_ro (i := 4) rfl; clear hS216
 have hS218 := hS217.nil_row 3 1; clear hS217
 have hA219 := hA213.as [(55, (Value.int .i64 0)), (54, (Value.int .i64 ((rs.length : Int) + 1))), (14, (bptr b198 0)), (13, (bptr b193 0))] rfl; clear hA213
 refine c_loop (G := Nat) (fun (k : Nat) a_ w_ => ∃ vb_ : Value, ∃ best_ : List Int, Fr 63 (marks (D188 :: [])) [(55, (Value.int .i64 (k : Int))), (54, (Value.int .i64 ((rs.length : Int) + 1))), (14, (bptr b198 0)), (13, (bptr b193 0))] a_ ∧ Sep NoB w w_ [(row vb_ 3 1 best_.length (ints best_)), (rob b198 120 [(Value.func (.func 71) #[] #[(bptr b193 0), (bptr b44 0), (bptr b9 0), (bptr b198 0)])]), (blk b193 40 [vb_]), (marksR (D188 :: [])), nilR, (lstRo ov_ (againstF R rs)), (sl vo_ 1 ov_.length ov_), (blk bl59 33 [vr]), (rob b44 38 [vo_]), (blk bj24 119 [vr, vu, (Value.map (some bm25))]), (memo bm25 (KA rs)), (rob b9 35 [vu]), (blk b4 33 [vr]), (sl vr 2 R.length (pairs R)), (sl vu 3 rs.length (vtrips (runV lv rs))), (segsR false lv rs)] ∧ (k ≤ rs.length + 1) ∧ ((allUpto rs.length k).any (okB (againstF R rs)) = false)) (fun k => rs.length + 1 - k) 0 ⟨(Value.slice none 0 0), [], hA219.as _ rfl, hS218, by omega, rfl⟩ ?_
 clear hA219 hS218 a212
 rintro k a220 w222 ⟨vb_, best_, hA221, hS223, hk1, hno⟩
 refine c_seq ?_
 refine c_region ?_
 refine st hA221 (op_lss rfl (hA221.ev rfl) (hA221.ev rfl)) rfl rfl (by decide) fun a224 hA225 => ?_; clear hA221 a220
 refine wl_nil ?_
 refine then_n ?_
 refine c_seq ?_
 by_cases hb226 : (k : Int) < ((rs.length : Int) + 1)
 ·skip
  rw [decide_eq_true hb226] at hA225
  refine c_true hA225 rfl ?_
  refine c_skip ?_
  refine then_n ?_
  refine c_seq ?_
  refine c_block ?_
  refine c_seq ?_
  refine c_region ?_
  refine st hA225 (op_move rfl (hA225.ev rfl)) rfl rfl (by decide) fun a227 hA228 => ?_; clear hA225 a224
  refine st hA228 (op_assign rfl (hA228.ev rfl)) rfl rfl (by decide) fun a229 hA230 => ?_; clear hA228 a227
  refine wl_nil ?_
  refine then_n ?_
  refine c_seq ?_
  refine c_region ?_
  refine st hA230 (op_load1 rfl ty_120 (hA230.ev rfl) (hS223.rk 1 rfl) rfl) rfl rfl (by decide) fun a231 hA232 => ?_; clear hA230 a229
  refine st hA232 (op_move rfl (hA232.ev rfl)) rfl rfl (by decide) fun a233 hA234 => ?_; clear hA232 a231
  have hS238 := hS223.nil_row 3 1; clear hS223
  have hS239 : Sep NoB w w222 [(row (Value.slice none 0 0) 3 1 0 []), (blk b193 40 [vb_]), (row vb_ 3 1 best_.length (ints best_)), (rob b198 120 [(Value.func (.func 71) #[] #[(bptr b193 0), (bptr b44 0), (bptr b9 0), (bptr b198 0)])]), (rob b44 38 [vo_]), (rob b9 35 [vu]), (sl vo_ 1 ov_.length ov_), (lstRo ov_ (againstF R rs)), (sl vu 3 rs.length (vtrips (runV lv rs))), (marksR (D188 :: [])), nilR, (blk bl59 33 [vr]), (blk bj24 119 [vr, vu, (Value.map (some bm25))]), (memo bm25 (KA rs)), (blk b4 33 [vr]), (sl vr 2 R.length (pairs R)), (segsR false lv rs)] := hS238.keep [0, 3, 1, 2, 9, 12, 7, 6, 15, 4, 5, 8, 10, 11, 13, 14, 16] (by decide) _ rfl rfl; clear hS238
  refine stw hA234 (op_callv rfl (hA234.ev rfl) en_71 (ev3 (evc _ _) (evc _ _) (hA234.ev rfl)) (leave_ok b193 b44 b9 b198 vo_ vu ov_ lv (againstF R rs) rs hx.len (by rw [hagl]; omega) hags (by omega) k [] 0 _ _ _ _ (ownX [(row (Value.slice none 0 0) 3 1 0 []), (blk b193 40 [vb_]), (row vb_ 3 1 best_.length (ints best_)), (rob b198 120 [(Value.func (.func 71) #[] #[(bptr b193 0), (bptr b44 0), (bptr b9 0), (bptr b198 0)])]), (rob b44 38 [vo_]), (rob b9 35 [vu]), (sl vo_ 1 ov_.length ov_), (lstRo ov_ (againstF R rs)), (sl vu 3 rs.length (vtrips (runV lv rs)))]) (by simp only [List.length_nil]; omega) (Sep.enterG (A := [(row (Value.slice none 0 0) 3 1 0 []), (blk b193 40 [vb_]), (row vb_ 3 1 best_.length (ints best_)), (rob b198 120 [(Value.func (.func 71) #[] #[(bptr b193 0), (bptr b44 0), (bptr b9 0), (bptr b198 0)])]), (rob b44 38 [vo_]), (rob b9 35 [vu]), (sl vo_ 1 ov_.length ov_), (lstRo ov_ (againstF R rs)), (sl vu 3 rs.length (vtrips (runV lv rs)))]) (B := [(marksR (D188 :: [])), nilR, (blk bl59 33 [vr]), (blk bj24 119 [vr, vu, (Value.map (some bm25))]), (memo bm25 (KA rs)), (blk b4 33 [vr]), (sl vr 2 R.length (pairs R)), (segsR false lv rs)]) hS239))) rfl rfl (by decide) ?_
  rintro a235 _ w237 ⟨rfl, vb241, best242, hf243, hT240⟩ hA236; clear hA234 a233
  have hS244 : Sep NoB w w237 [(row (Value.slice none 0 0) 3 1 0 []), (blk b193 40 [vb241]), (row vb241 3 1 best242.length (ints best242)), (rob b198 120 [(Value.func (.func 71) #[] #[(bptr b193 0), (bptr b44 0), (bptr b9 0), (bptr b198 0)])]), (rob b44 38 [vo_]), (rob b9 35 [vu]), (sl vo_ 1 ov_.length ov_), (lstRo ov_ (againstF R rs)), (sl vu 3 rs.length (vtrips (runV lv rs))), (marksR (D188 :: [])), nilR, (blk bl59 33 [vr]), (blk bj24 119 [vr, vu, (Value.map (some bm25))]), (memo bm25 (KA rs)), (blk b4 33 [vr]), (sl vr 2 R.length (pairs R)), (segsR false lv rs)] := Sep.callG (A := [(row (Value.slice none 0 0) 3 1 0 []), (blk b193 40 [vb_]), (row vb_ 3 1 best_.length (ints best_)), (rob b198 120 [(Value.func (.func 71) #[] #[(bptr b193 0), (bptr b44 0), (bptr b9 0), (bptr b198 0)])]), (rob b44 38 [vo_]), (rob b9 35 [vu]), (sl vo_ 1 ov_.length ov_), (lstRo ov_ (againstF R rs)), (sl vu 3 rs.length (vtrips (runV lv rs)))]) (B := [(marksR (D188 :: [])), nilR, (blk bl59 33 [vr]), (blk bj24 119 [vr, vu, (Value.map (some bm25))]), (memo bm25 (KA rs)), (blk b4 33 [vr]), (sl vr 2 R.length (pairs R)), (segsR false lv rs)]) hS239 hT240 (lentOk_at ⟨.inl rfl, .inl rfl, .inl rfl, .inr ⟨3, rfl⟩, .inr ⟨4, rfl⟩, .inr ⟨5, rfl⟩, .inr ⟨6, rfl⟩, .inr ⟨7, rfl⟩, .inr ⟨8, rfl⟩, trivial⟩); clear hT240 hS239
  refine wl_nil ?_
  refine then_n ?_
  rcases Bool.eq_false_or_eq_true ((leaveB rs.length (againstF R rs) k [] 0)) with hb245 | hb245
  ·skip
   rw [hb245] at hA236
   refine c_true hA236 rfl ?_
   refine c_exit ?_
   refine blk_miss (by decide) ?_
   refine then_exit ?_
   refine then_exit ?_
   refine blk_hit ?_
   refine then_n ?_
   refine c_seq ?_
   have hA246 := hA236.as [(13, (bptr b193 0))] rfl; clear hA236
   refine c_region ?_
   refine st hA246 (op_load1 rfl ty_40 (hA246.ev rfl) (hS244.bk 1 rfl) rfl) rfl rfl (by decide) fun a247 hA248 => ?_; clear hA246 a235
   refine st hA248 (op_assign rfl (hA248.ev rfl)) rfl rfl (by decide) fun a249 hA250 => ?_; clear hA248 a247
   refine st hA250 (op_assign rfl (evc _ _)) rfl rfl (by decide) fun a251 hA252 => ?_; clear hA250 a249
   refine wl_nil ?_
   refine then_n ?_
   refine c_ret ?_
   have hS253 : Sep NoB w w237 [(marksR (D188 :: [])), (row (Value.slice none 0 0) 3 1 0 []), (blk b193 40 [vb241]), (row vb241 3 1 best242.length (ints best242)), (rob b198 120 [(Value.func (.func 71) #[] #[(bptr b193 0), (bptr b44 0), (bptr b9 0), (bptr b198 0)])]), (rob b44 38 [vo_]), (rob b9 35 [vu]), (sl vo_ 1 ov_.length ov_), (lstRo ov_ (againstF R rs)), (sl vu 3 rs.length (vtrips (runV lv rs))), nilR, (blk bl59 33 [vr]), (blk bj24 119 [vr, vu, (Value.map (some bm25))]), (memo bm25 (KA rs)), (blk b4 33 [vr]), (sl vr 2 R.length (pairs R)), (segsR false lv rs)] := hS244.keep [9, 0, 1, 2, 3, 4, 5, 6, 7, 8, 10, 11, 12, 13, 14, 15, 16] (by decide) _ rfl rfl; clear hS244
   refine fin_runM hA252 (.inl rfl) hS253 ?_
   intro w254 hS255; clear hS253
   refine ⟨_, (run_results2 hA252 rfl (.tmp rfl) (.tmp rfl)), ?_⟩
   rw [doubt_found (by omega) hno (hf243 (by assumption))]
   exact ⟨_, rfl, hS255.keep [2] (by decide) _ rfl rfl⟩
  ·skip
   rw [hb245] at hA236
   refine c_false hA236 rfl ?_
   refine c_skip ?_
   refine blk_n ?_
   refine then_n ?_
   have hA256 := hA236.as [(55, (Value.int .i64 (k : Int))), (54, (Value.int .i64 ((rs.length : Int) + 1))), (14, (bptr b198 0)), (13, (bptr b193 0))] rfl; clear hA236
   refine c_region ?_
   refine st hA256 (op_add rfl (hA256.ev rfl) (evc _ _) (by omega) (by omega)) rfl rfl (by decide) fun a257 hA258 => ?_; clear hA256 a235
   refine st hA258 (op_move rfl (hA258.ev rfl)) rfl rfl (by decide) fun a259 hA260 => ?_; clear hA258 a257
   refine wl_nil ?_
   have hS261 : Sep NoB w w237 [(row vb241 3 1 best242.length (ints best242)), (rob b198 120 [(Value.func (.func 71) #[] #[(bptr b193 0), (bptr b44 0), (bptr b9 0), (bptr b198 0)])]), (blk b193 40 [vb241]), (marksR (D188 :: [])), nilR, (lstRo ov_ (againstF R rs)), (sl vo_ 1 ov_.length ov_), (blk bl59 33 [vr]), (rob b44 38 [vo_]), (blk bj24 119 [vr, vu, (Value.map (some bm25))]), (memo bm25 (KA rs)), (rob b9 35 [vu]), (blk b4 33 [vr]), (sl vr 2 R.length (pairs R)), (sl vu 3 rs.length (vtrips (runV lv rs))), (segsR false lv rs)] := hS244.keep [2, 3, 1, 9, 10, 7, 6, 11, 4, 12, 13, 5, 14, 15, 8, 16] (by decide) _ rfl rfl; clear hS244
   exact then_n ⟨k + 1, ⟨vb241, best242, hA260.as _ rfl, hS261, by omega, all_go hno (by assumption)⟩, by omega⟩
 ·skip
  rw [decide_eq_false hb226] at hA225
  refine c_false hA225 rfl ?_
  refine c_exit ?_
  refine then_exit ?_
  refine then_exit ?_
  refine blk_hit ?_
  refine then_n ?_
  refine c_seq ?_
  refine c_region ?_
  refine st hA225 (op_load1 rfl ty_40 (hA225.ev rfl) (hS223.bk 2 rfl) rfl) rfl rfl (by decide) fun a262 hA263 => ?_; clear hA225 a224
  refine st hA263 (op_assign rfl (hA263.ev rfl)) rfl rfl (by decide) fun a264 hA265 => ?_; clear hA263 a262
  refine st hA265 (op_assign rfl (evc _ _)) rfl rfl (by decide) fun a266 hA267 => ?_; clear hA265 a264
  refine wl_nil ?_
  refine then_n ?_
  refine c_ret ?_
  have hS268 : Sep NoB w w222 [(marksR (D188 :: [])), (row vb_ 3 1 best_.length (ints best_)), (rob b198 120 [(Value.func (.func 71) #[] #[(bptr b193 0), (bptr b44 0), (bptr b9 0), (bptr b198 0)])]), (blk b193 40 [vb_]), nilR, (lstRo ov_ (againstF R rs)), (sl vo_ 1 ov_.length ov_), (blk bl59 33 [vr]), (rob b44 38 [vo_]), (blk bj24 119 [vr, vu, (Value.map (some bm25))]), (memo bm25 (KA rs)), (rob b9 35 [vu]), (blk b4 33 [vr]), (sl vr 2 R.length (pairs R)), (sl vu 3 rs.length (vtrips (runV lv rs))), (segsR false lv rs)] := hS223.keep [3, 0, 1, 2, 4, 5, 6, 7, 8, 9, 10, 11, 12, 13, 14, 15] (by decide) _ rfl rfl; clear hS223
  refine fin_runM hA267 (.inl rfl) hS268 ?_
  intro w269 hS270; clear hS268
  refine ⟨_, (run_results2 hA267 rfl (.tmp rfl) (.tmp rfl)), ?_⟩
  exact (all_not hmp (by omega) hno).elim
end Go.Proofs.Ytkkglkdnnfegkaa
