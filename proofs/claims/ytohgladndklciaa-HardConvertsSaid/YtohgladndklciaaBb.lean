/-
  When a table is one of a book: told by the first thing that is not right.
  The straight lines of a table that are not broken, in order; what a function that goes through them finds.
-/
import Derived.Test.YtohgladndklciaaBa
import Derived.Test.YtohgladndklciaaEnga
set_option linter.unusedSimpArgs false
set_option linter.unusedVariables false
namespace Go.Proofs.Ytohgladndklciaa
open Go.RowKit Go.Shelf Go.Eng Go.Hard
theorem fd_106_3 : fldK Try.prog 106 3 = some 3 := by kernel_rfl
theorem en_78 : ∀ args w, (callFunc 78 args).run Try.prog w = .ok (.enter 78 args) w := enters_of Try.func78 (by kernel_rfl) rfl
theorem en_69 : ∀ args w, (callFunc 69 args).run Try.prog w = .ok (.enter 69 args) w := enters_of Try.func69 (by kernel_rfl) rfl
theorem fd_46_2 : fldK Try.prog 46 2 = some 2 := by kernel_rfl
theorem ty_43 : tyK Try.prog 43 = some (false, 1) := by kernel_rfl
theorem un_43 : Try.prog.underlying 43 = some (.slice 75) := by kernel_rfl
theorem ty_75 : tyK Try.prog 75 = some (true, 2) := by kernel_rfl
theorem fd_75_0 : fldK Try.prog 75 0 = some 0 := by kernel_rfl
theorem ty_46 : tyK Try.prog 46 = some (true, 5) := by kernel_rfl
theorem en_54 : ∀ args w, (callFunc 54 args).run Try.prog w = .ok (.enter 54 args) w := enters_of Try.func54 (by kernel_rfl) rfl
theorem convclo_ok (j : Nat) (r1 r2 : Int) (t : TabD) (vr vb : Value) (b1 b2 : Nat) (w : World) (g1 : (blk b1 30 [.int .i64 r1, .int .i64 r2]).p w) (g2 : (blk b2 106 [.int .i64 t.frm, .int .i64 t.dst, vr, vb, .int .i64 t.err]).p w) (hr : SlAt w vr 2 t.rows.length (pairs t.rows)) (hb : SlAt w vb 1 t.brk.length (ints t.brk)) (hrl : t.rows.length ≤ 1000000) (hj : j + 1 < t.rows.length) :
  Calls Try.prog 78 #[(Value.int .i64 (j : Int)), (bptr b1 0), (bptr b2 0)] w (Ret fun v w' => v = .bool (brB t (r1, r2) j) ∧ Ext NoB w w') := by
 refine calls_enter Try.func78 rfl fun a0 hA0 => ?_
 replace hA0 : Fr 26 [] [(0, (Value.int .i64 (j : Int))), (1, (bptr b1 0)), (2, (bptr b2 0))] a0 := hA0
 have e2_ : (t.rows.getD ((j : Int) + 1).toNat (0, 0)).1 = (t.rows.getD (j + 1) (0, 0)).1 := by rw [show ((j : Int) + 1).toNat = j + 1 from by omega]
 have hS0 : Sep NoB w w [(rob b1 30 [(Value.int .i64 r1), (Value.int .i64 r2)]), (rob b2 106 [(Value.int .i64 t.frm), (Value.int .i64 t.dst), vr, vb, (Value.int .i64 t.err)]), (sl vr 2 t.rows.length (pairs t.rows)), (sl vb 1 t.brk.length (ints t.brk))] := sep_ro ⟨rfl, g1, rfl, g2, rfl, hr, rfl, hb, trivial⟩
 refine m2 ?_
 refine s1 hA0 (op_assign rfl (evc _ _)) fun a1 hA2 => ?_; clear hA0 a0
 refine n2 ?_
 have hA3 := hA2.as [(0, (Value.int .i64 (j : Int))), (1, (bptr b1 0)), (2, (bptr b2 0))] rfl; clear hA2
 by_cases hb5 : r2 ≤ ((t.rows.getD j (0, 0)).1)
 ·skip
  have hA6 := hA3.as [(0, (Value.int .i64 (j : Int))), (1, (bptr b1 0)), (2, (bptr b2 0))] rfl; clear hA3
  refine c_drawn mixed hA6 hS0 19 [[], [0], [], [2], [], [3, 4], [5], [6], [1, 7], [8], [9], [9, 10], [9], [9, 12], [9], [9, 14], [9, 13, 15], [9, 16], [9, 17]] [(Yd.val (bptr b1 1)), (Yd.val (Value.int .i64 r2)), (Yd.val (bptr b2 2)), (Yd.val vr), (Yd.val (Value.int .i64 (j : Int))), (Yd.val (eptr vr (j * 2))), (Yd.val (eptr vr (j * 2 + 0))), (Yd.val (Value.int .i64 ((t.rows.getD j (0, 0)).1))), (Yd.val (Value.bool true)), (Yd.val (Value.bool true)), (Yd.val undef), (Yd.val undef), (Yd.val undef), (Yd.val undef), (Yd.val undef), (Yd.val undef), (Yd.val undef), (Yd.val undef), (Yd.val undef)] (by decide +kernel) rfl rfl ?_ ?_
  ·skip
   refine dq (fun a w hA hS hd => op_field rfl fd_30_1 (hA.ev rfl)) ?_
   refine dq (fun a w hA hS hd => op_load1 rfl ty_3 (hq hd 0) (hS.rk 0 rfl) rfl) ?_
   refine dq (fun a w hA hS hd => op_field rfl fd_106_2 (hA.ev rfl)) ?_
   refine dq (fun a w hA hS hd => op_load1 rfl ty_104 (hq hd 2) (hS.rk 1 rfl) rfl) ?_
   refine dq (fun a w hA hS hd => op_move rfl (hA.ev rfl)) ?_
   refine dq (fun a w hA hS hd => op_indexS rfl un_104 ty_107 (hq hd 3) (i := j) (hq hd 4) (hS.sk 2 rfl) (by decide) (by omega)) ?_
   refine dq (fun a w hA hS hd => op_fieldS rfl fd_107_0 (hq hd 5) (hS.sk 2 rfl) (by rw [((hS.sk 2 rfl)).1]; omega)) ?_
   refine dq (fun a w hA hS hd => op_load1E rfl ty_3 (hq hd 6) (hS.sk 2 rfl) (pairs_at0 (by omega))) ?_
   refine ⟨fun a w hA hS hd => by have e1 := hx hd 1; have e7 := hx hd 7; exact opG_of rfl (dv (op_leq rfl (tmp_ev e1) (tmp_ev e7)) hS (by show Value.bool _ = _; simp only [decide_eq_true hb5, decide_true, decide_false, Bool.not_true, Bool.not_false])), ?_⟩
   refine dq (fun a w hA hS hd => op_move rfl (hq hd 8)) ?_
   refine dn 9 ?_
   refine dn 9 ?_
   refine dn 9 ?_
   refine dn 9 ?_
   refine dn 9 ?_
   refine dn 9 ?_
   refine dn 9 ?_
   refine dn 9 ?_
   refine dn 9 ?_
   trivial
  intro a8 w9 hA10 hS11 hH12; clear hA6 hS0
  have hA13 := hA10.add (hz hH12 9); clear hA10
  have hA14 := hA13.add (hz hH12 11); clear hA13
  have hA15 := hA14.add (hz hH12 18); clear hA14
  clear hH12
  refine s3 hA15 fun a16 hA17 => ?_; clear hA15 a8
  refine s1 hA17 (op_pick_t rfl (hA17.ev rfl) (evc _ _)) fun a18 hA19 => ?_; clear hA17 a16
  refine s1 hA19 (op_assign rfl (hA19.ev rfl)) fun a20 hA21 => ?_; clear hA19 a18
  refine n1 ?_
  refine c_ret ?_
  refine fin_run hA21 (.inl rfl) (run_results1 hA21 rfl (.tmp rfl)) ?_
  exact ⟨congrArg Value.bool (by unfold brB tx; dsimp only; (rw [Bool.eq_iff_iff]; (try simp only [Bool.true_and, Bool.false_and, Bool.and_true, Bool.and_false, Bool.false_or, Bool.true_or, Bool.or_false, Bool.or_true, true_and, and_true, false_and, and_false, false_or, or_false, true_or, or_true, Bool.and_eq_true, Bool.or_eq_true, Bool.not_eq_true', decide_eq_true_eq, decide_eq_false_iff_not, Bool.false_eq_true, Bool.true_eq_false, Bool.not_true, Bool.not_false, eq_self_iff_true, true_iff, false_iff, iff_true, iff_false, not_true, not_false_eq_true]); omega)), hS11.ext⟩
 ·skip
  have hA22 := hA3.as [(0, (Value.int .i64 (j : Int))), (1, (bptr b1 0)), (2, (bptr b2 0))] rfl; clear hA3
  refine c_drawn mixed hA22 hS0 19 [[], [0], [], [2], [], [3, 4], [5], [6], [1, 7], [8], [9], [9, 10], [9], [9, 12], [9], [9, 14], [9, 13, 15], [9, 16], [9, 17]] [(Yd.val (bptr b1 1)), (Yd.val (Value.int .i64 r2)), (Yd.val (bptr b2 2)), (Yd.val vr), (Yd.val (Value.int .i64 (j : Int))), (Yd.val (eptr vr (j * 2))), (Yd.val (eptr vr (j * 2 + 0))), (Yd.val (Value.int .i64 ((t.rows.getD j (0, 0)).1))), (Yd.val (Value.bool false)), (Yd.val (Value.bool false)), (Yd.val (bptr b1 0)), (Yd.val (Value.int .i64 r1)), (Yd.val (bptr b2 2)), (Yd.val vr), (Yd.val (Value.int .i64 (j : Int))), (Yd.val (Value.int .i64 ((j : Int) + 1))), (Yd.val (eptr vr ((j + 1) * 2))), (Yd.val (eptr vr ((j + 1) * 2 + 0))), (Yd.val (Value.int .i64 ((t.rows.getD (j + 1) (0, 0)).1)))] (by decide +kernel) rfl rfl ?_ ?_
  ·skip
   refine dq (fun a w hA hS hd => op_field rfl fd_30_1 (hA.ev rfl)) ?_
   refine dq (fun a w hA hS hd => op_load1 rfl ty_3 (hq hd 0) (hS.rk 0 rfl) rfl) ?_
   refine dq (fun a w hA hS hd => op_field rfl fd_106_2 (hA.ev rfl)) ?_
   refine dq (fun a w hA hS hd => op_load1 rfl ty_104 (hq hd 2) (hS.rk 1 rfl) rfl) ?_
   refine dq (fun a w hA hS hd => op_move rfl (hA.ev rfl)) ?_
   refine dq (fun a w hA hS hd => op_indexS rfl un_104 ty_107 (hq hd 3) (i := j) (hq hd 4) (hS.sk 2 rfl) (by decide) (by omega)) ?_
   refine dq (fun a w hA hS hd => op_fieldS rfl fd_107_0 (hq hd 5) (hS.sk 2 rfl) (by rw [((hS.sk 2 rfl)).1]; omega)) ?_
   refine dq (fun a w hA hS hd => op_load1E rfl ty_3 (hq hd 6) (hS.sk 2 rfl) (pairs_at0 (by omega))) ?_
   refine ⟨fun a w hA hS hd => by have e1 := hx hd 1; have e7 := hx hd 7; exact opG_of rfl (dv (op_leq rfl (tmp_ev e1) (tmp_ev e7)) hS (by show Value.bool _ = _; simp only [decide_eq_false hb5, decide_true, decide_false, Bool.not_true, Bool.not_false])), ?_⟩
   refine dq (fun a w hA hS hd => op_move rfl (hq hd 8)) ?_
   refine dy 9 (fun a w hA hS hd => op_field rfl fd_30_0 (hA.ev rfl)) ?_
   refine dy 9 (fun a w hA hS hd => op_load1 rfl ty_3 (hq hd 10) (hS.rk 0 rfl) rfl) ?_
   refine dy 9 (fun a w hA hS hd => op_field rfl fd_106_2 (hA.ev rfl)) ?_
   refine dy 9 (fun a w hA hS hd => op_load1 rfl ty_104 (hq hd 12) (hS.rk 1 rfl) rfl) ?_
   refine dy 9 (fun a w hA hS hd => op_move rfl (hA.ev rfl)) ?_
   refine dy 9 (fun a w hA hS hd => op_add rfl (hq hd 14) (evc _ _) (by omega) (by omega)) ?_
   refine dy 9 (fun a w hA hS hd => op_indexS rfl un_104 ty_107 (hq hd 13) (i := j + 1) ((hq hd 15).trans (congrArg (Value.int .i64) (show ((j : Int) + 1 : Int) = ((j + 1 : Nat) : Int) by omega))) (hS.sk 2 rfl) (by decide) (by omega)) ?_
   refine dy 9 (fun a w hA hS hd => op_fieldS rfl fd_107_0 (hq hd 16) (hS.sk 2 rfl) (by rw [((hS.sk 2 rfl)).1]; omega)) ?_
   refine dy 9 (fun a w hA hS hd => op_load1E rfl ty_3 (hq hd 17) (hS.sk 2 rfl) (pairs_at0 (by omega))) ?_
   trivial
  intro a24 w25 hA26 hS27 hH28; clear hA22 hS0
  have hA29 := hA26.add (hz hH28 9); clear hA26
  have hA30 := hA29.add (hz hH28 11); clear hA29
  have hA31 := hA30.add (hz hH28 18); clear hA30
  clear hH28
  refine s5 hA31 (op_geq rfl (hA31.ev rfl) (hA31.ev rfl)) fun a32 hA33 => ?_; clear hA31 a24
  refine s1 hA33 (op_pick_f rfl (hA33.ev rfl) (hA33.ev rfl)) fun a34 hA35 => ?_; clear hA33 a32
  refine s1 hA35 (op_assign rfl (hA35.ev rfl)) fun a36 hA37 => ?_; clear hA35 a34
  refine n1 ?_
  refine c_ret ?_
  refine fin_run hA37 (.inl rfl) (run_results1 hA37 rfl (.tmp rfl)) ?_
  exact ⟨congrArg Value.bool (by unfold brB tx; dsimp only; (rw [Bool.eq_iff_iff]; (try simp only [Bool.true_and, Bool.false_and, Bool.and_true, Bool.and_false, Bool.false_or, Bool.true_or, Bool.or_false, Bool.or_true, true_and, and_true, false_and, and_false, false_or, or_false, true_or, or_true, Bool.and_eq_true, Bool.or_eq_true, Bool.not_eq_true', decide_eq_true_eq, decide_eq_false_iff_not, Bool.false_eq_true, Bool.true_eq_false, Bool.not_true, Bool.not_false, eq_self_iff_true, true_iff, false_iff, iff_true, iff_false, not_true, not_false_eq_true]); omega)), hS27.ext⟩
theorem convclo_at (x : Int) (r1 r2 : Int) (t : TabD) (vr vb : Value) (b1 b2 : Nat) (w : World) (g1 : (blk b1 30 [.int .i64 r1, .int .i64 r2]).p w) (g2 : (blk b2 106 [.int .i64 t.frm, .int .i64 t.dst, vr, vb, .int .i64 t.err]).p w) (hr : SlAt w vr 2 t.rows.length (pairs t.rows)) (hb : SlAt w vb 1 t.brk.length (ints t.brk)) (hrl : t.rows.length ≤ 1000000) (hx : 0 ≤ x ∧ x ≤ (t.rows.length : Int) - 2) : Calls Try.prog 78 #[.int .i64 x, bptr b1 0, bptr b2 0] w (Ret fun v w' => v = .bool (brB t (r1, r2) x.toNat) ∧ Ext NoB w w') := by
 obtain ⟨j, rfl⟩ : ∃ j : Nat, x = (j : Int) := ⟨x.toNat, by omega⟩
 exact convclo_ok j r1 r2 t vr vb b1 b2 w g1 g2 hr hb hrl (by omega)
theorem converts_ok (r1 r2 : Int) (t : TabD) (vr vb : Value) (w : World) (hr : SlAt w vr 2 t.rows.length (pairs t.rows)) (hb : SlAt w vb 1 t.brk.length (ints t.brk)) (hrl : t.rows.length ≤ 1000000) (hbl : t.brk.length ≤ 1000000) (n : Int) (hV : TabV n t) :
  Calls Try.prog 49 #[(Value.agg #[(Value.int .i64 t.frm), (Value.int .i64 t.dst), vr, vb, (Value.int .i64 t.err)]), (Value.agg #[(Value.int .i64 r1), (Value.int .i64 r2)])] w (Ret fun v w' => v = .bool (convB t (r1, r2)) ∧ Ext NoB w w') := by
 refine calls_enter Try.func49 rfl fun a0 hA0 => ?_
 replace hA0 : Fr 31 [] [(0, (Value.agg #[(Value.int .i64 t.frm), (Value.int .i64 t.dst), vr, vb, (Value.int .i64 t.err)])), (1, (Value.agg #[(Value.int .i64 r1), (Value.int .i64 r2)]))] a0 := hA0
 have hln := hV.len; have e2_ : (t.rows.getD ((t.rows.length : Int) - 1).toNat (0, 0)).1 = (t.rows.getD (t.rows.length - 1) (0, 0)).1 := by rw [show ((t.rows.length : Int) - 1).toNat = t.rows.length - 1 from by omega]
 have hS0 : Sep NoB w w [(sl vr 2 t.rows.length (pairs t.rows)), (sl vb 1 t.brk.length (ints t.brk))] := sep_ro ⟨rfl, hr, rfl, hb, trivial⟩
 refine m2 ?_
 refine s2 hA0 (op_box hS0 rfl (hA0.ev rfl) (cs := [(Value.int .i64 t.frm), (Value.int .i64 t.dst), vr, vb, (Value.int .i64 t.err)]) rfl) ?_
 rintro a1 _ w3 ⟨b4, rfl, hS5⟩ hA2; clear hA0 hS0 a0
 refine s2 hA2 (op_box hS5 rfl (hA2.ev rfl) (cs := [(Value.int .i64 r1), (Value.int .i64 r2)]) rfl) ?_
 rintro a6 _ w8 ⟨b9, rfl, hS10⟩ hA7; clear hA2 hS5 a1
 refine s1 hA7 (op_assign rfl (evc _ _)) fun a11 hA12 => ?_; clear hA7 a6
 refine n2 ?_
 refine c_seq ?_
 have hA13 := hA12.as [(3, (bptr b9 0)), (2, (bptr b4 0))] rfl; clear hA12
 by_cases hb15 : r1 < ((t.rows.getD 0 (0, 0)).1)
 ·skip
  have hA16 := hA13.as [(3, (bptr b9 0)), (2, (bptr b4 0))] rfl; clear hA13
  refine c_drawn mixed hA16 hS10 20 [[], [0], [], [2], [3], [4], [5], [1, 6], [7], [8], [8, 9], [8], [8, 11], [8], [8, 13], [8, 14], [8, 15], [8, 12, 16], [8, 17], [8, 18]] [(Yd.val (bptr b9 0)), (Yd.val (Value.int .i64 r1)), (Yd.val (bptr b4 2)), (Yd.val vr), (Yd.val (eptr vr (0 * 2))), (Yd.val (eptr vr (0 * 2 + 0))), (Yd.val (Value.int .i64 ((t.rows.getD 0 (0, 0)).1))), (Yd.val (Value.bool true)), (Yd.val (Value.bool true)), (Yd.val undef), (Yd.val undef), (Yd.val undef), (Yd.val undef), (Yd.val undef), (Yd.val undef), (Yd.val undef), (Yd.val undef), (Yd.val undef), (Yd.val undef), (Yd.val undef)] (by decide +kernel) rfl rfl ?_ ?_
  ·skip
   refine dq (fun a w hA hS hd => op_field rfl fd_30_0 (hA.ev rfl)) ?_
   refine dq (fun a w hA hS hd => op_load1 rfl ty_3 (hq hd 0) (hS.bk 0 rfl) rfl) ?_
   refine dq (fun a w hA hS hd => op_field rfl fd_106_2 (hA.ev rfl)) ?_
   refine dq (fun a w hA hS hd => op_load1 rfl ty_104 (hq hd 2) (hS.bk 1 rfl) rfl) ?_
   refine dq (fun a w hA hS hd => op_indexS rfl un_104 ty_107 (hq hd 3) (i := 0) (show _ = Value.int .i64 ((0 : Nat) : Int) from (evc _ _)) (hS.sk 2 rfl) (by decide) (by omega)) ?_
   refine dq (fun a w hA hS hd => op_fieldS rfl fd_107_0 (hq hd 4) (hS.sk 2 rfl) (by rw [((hS.sk 2 rfl)).1]; omega)) ?_
   refine dq (fun a w hA hS hd => op_load1E rfl ty_3 (hq hd 5) (hS.sk 2 rfl) (pairs_at0 (by omega))) ?_
   refine ⟨fun a w hA hS hd => by have e1 := hx hd 1; have e6 := hx hd 6; exact opG_of rfl (dv (op_lss rfl (tmp_ev e1) (tmp_ev e6)) hS (by show Value.bool _ = _; simp only [decide_eq_true hb15, decide_true, decide_false, Bool.not_true, Bool.not_false])), ?_⟩
   refine dq (fun a w hA hS hd => op_move rfl (hq hd 7)) ?_
   refine dn 8 ?_
   refine dn 8 ?_
   refine dn 8 ?_
   refine dn 8 ?_
   refine dn 8 ?_
   refine dn 8 ?_
   refine dn 8 ?_
   refine dn 8 ?_
   refine dn 8 ?_
   refine dn 8 ?_
   refine dn 8 ?_
   trivial
  intro a18 w19 hA20 hS21 hH22; clear hA16 hS10
  have hA23 := hA20.add (hz hH22 8); clear hA20
  have hA24 := hA23.add (hz hH22 10); clear hA23
  have hA25 := hA24.add (hz hH22 19); clear hA24
  clear hH22
  refine s3 hA25 fun a26 hA27 => ?_; clear hA25 a18
  refine s1 hA27 (op_pick_t rfl (hA27.ev rfl) (evc _ _)) fun a28 hA29 => ?_; clear hA27 a26
  refine n1 ?_
  refine c_true hA29 rfl ?_
  refine c_seq ?_
  have hA30 := hA29.as [] rfl; clear hA29
  refine c_region ?_
  refine s1 hA30 (op_assign rfl (evc _ _)) fun a31 hA32 => ?_; clear hA30 a28
  refine n1 ?_
  refine c_ret ?_
  refine then_ret ?_
  refine fin_run hA32 (.inl rfl) (run_results1 hA32 rfl (.tmp rfl)) ?_
  exact ⟨congrArg Value.bool (Eq.symm (by first | exact conv_n1 (by unfold tx; dsimp only; omega) | exact conv_n2 (by unfold tx; dsimp only; omega))), hS21.ext⟩
 ·skip
  have hA33 := hA13.as [(3, (bptr b9 0)), (2, (bptr b4 0))] rfl; clear hA13
  refine c_drawn mixed hA33 hS10 20 [[], [0], [], [2], [3], [4], [5], [1, 6], [7], [8], [8, 9], [8], [8, 11], [8], [8, 13], [8, 14], [8, 15], [8, 12, 16], [8, 17], [8, 18]] [(Yd.val (bptr b9 0)), (Yd.val (Value.int .i64 r1)), (Yd.val (bptr b4 2)), (Yd.val vr), (Yd.val (eptr vr (0 * 2))), (Yd.val (eptr vr (0 * 2 + 0))), (Yd.val (Value.int .i64 ((t.rows.getD 0 (0, 0)).1))), (Yd.val (Value.bool false)), (Yd.val (Value.bool false)), (Yd.val (bptr b9 1)), (Yd.val (Value.int .i64 r2)), (Yd.val (bptr b4 2)), (Yd.val vr), (Yd.val (bptr b4 2)), (Yd.val vr), (Yd.val (Value.int .i64 (t.rows.length : Int))), (Yd.val (Value.int .i64 ((t.rows.length : Int) - 1))), (Yd.val (eptr vr (((t.rows.length : Int) - 1).toNat * 2))), (Yd.val (eptr vr (((t.rows.length : Int) - 1).toNat * 2 + 0))), (Yd.val (Value.int .i64 ((t.rows.getD (((t.rows.length : Int) - 1).toNat) (0, 0)).1)))] (by decide +kernel) rfl rfl ?_ ?_
  ·skip
   refine dq (fun a w hA hS hd => op_field rfl fd_30_0 (hA.ev rfl)) ?_
   refine dq (fun a w hA hS hd => op_load1 rfl ty_3 (hq hd 0) (hS.bk 0 rfl) rfl) ?_
   refine dq (fun a w hA hS hd => op_field rfl fd_106_2 (hA.ev rfl)) ?_
   refine dq (fun a w hA hS hd => op_load1 rfl ty_104 (hq hd 2) (hS.bk 1 rfl) rfl) ?_
   refine dq (fun a w hA hS hd => op_indexS rfl un_104 ty_107 (hq hd 3) (i := 0) (show _ = Value.int .i64 ((0 : Nat) : Int) from (evc _ _)) (hS.sk 2 rfl) (by decide) (by omega)) ?_
   refine dq (fun a w hA hS hd => op_fieldS rfl fd_107_0 (hq hd 4) (hS.sk 2 rfl) (by rw [((hS.sk 2 rfl)).1]; omega)) ?_
   refine dq (fun a w hA hS hd => op_load1E rfl ty_3 (hq hd 5) (hS.sk 2 rfl) (pairs_at0 (by omega))) ?_
   refine ⟨fun a w hA hS hd => by have e1 := hx hd 1; have e6 := hx hd 6; exact opG_of rfl (dv (op_lss rfl (tmp_ev e1) (tmp_ev e6)) hS (by show Value.bool _ = _; simp only [decide_eq_false hb15, decide_true, decide_false, Bool.not_true, Bool.not_false])), ?_⟩
   refine dq (fun a w hA hS hd => op_move rfl (hq hd 7)) ?_
   refine dy 8 (fun a w hA hS hd => op_field rfl fd_30_1 (hA.ev rfl)) ?_
   refine dy 8 (fun a w hA hS hd => op_load1 rfl ty_3 (hq hd 9) (hS.bk 0 rfl) rfl) ?_
   refine dy 8 (fun a w hA hS hd => op_field rfl fd_106_2 (hA.ev rfl)) ?_
   refine dy 8 (fun a w hA hS hd => op_load1 rfl ty_104 (hq hd 11) (hS.bk 1 rfl) rfl) ?_
   refine dy 8 (fun a w hA hS hd => op_field rfl fd_106_2 (hA.ev rfl)) ?_
   refine dy 8 (fun a w hA hS hd => op_load1 rfl ty_104 (hq hd 13) (hS.bk 1 rfl) rfl) ?_
   refine dy 8 (fun a w hA hS hd => op_lenS rfl un_104 (hq hd 14) (hS.sk 2 rfl)) ?_
   refine dy 8 (fun a w hA hS hd => op_sub rfl (hq hd 15) (evc _ _) (by omega) (by omega)) ?_
   refine dy 8 (fun a w hA hS hd => op_indexS rfl un_104 ty_107 (hq hd 12) (i := ((t.rows.length : Int) - 1).toNat) ((hq hd 16).trans (int_nat (by omega))) (hS.sk 2 rfl) (by decide) (by omega)) ?_
   refine dy 8 (fun a w hA hS hd => op_fieldS rfl fd_107_0 (hq hd 17) (hS.sk 2 rfl) (by rw [((hS.sk 2 rfl)).1]; omega)) ?_
   refine dy 8 (fun a w hA hS hd => op_load1E rfl ty_3 (hq hd 18) (hS.sk 2 rfl) (pairs_at0 (by omega))) ?_
   trivial
  intro a35 w36 hA37 hS38 hH39; clear hA33 hS10
  have hA40 := hA37.add (hz hH39 8); clear hA37
  have hA41 := hA40.add (hz hH39 10); clear hA40
  have hA42 := hA41.add (hz hH39 19); clear hA41
  clear hH39
  refine s5 hA42 (op_gtr rfl (hA42.ev rfl) (hA42.ev rfl)) fun a43 hA44 => ?_; clear hA42 a35
  refine s1 hA44 (op_pick_f rfl (hA44.ev rfl) (hA44.ev rfl)) fun a45 hA46 => ?_; clear hA44 a43
  refine n1 ?_
  by_cases hb47 : ((t.rows.getD (((t.rows.length : Int) - 1).toNat) (0, 0)).1) < r2
  ·skip
   rw [decide_eq_true hb47] at hA46
   refine c_true hA46 rfl ?_
   refine c_seq ?_
   have hA48 := hA46.as [] rfl; clear hA46
   refine c_region ?_
   refine s1 hA48 (op_assign rfl (evc _ _)) fun a49 hA50 => ?_; clear hA48 a45
   refine n1 ?_
   refine c_ret ?_
   refine then_ret ?_
   refine fin_run hA50 (.inl rfl) (run_results1 hA50 rfl (.tmp rfl)) ?_
   exact ⟨congrArg Value.bool (Eq.symm (by first | exact conv_n1 (by unfold tx; dsimp only; omega) | exact conv_n2 (by unfold tx; dsimp only; omega))), hS38.ext⟩
  ·skip
   rw [decide_eq_false hb47] at hA46
   refine c_false hA46 rfl ?_
   refine c_skip ?_
   refine then_n ?_
   refine m2 ?_
   refine s1 hA46 (op_field rfl fd_106_3 (hA46.ev rfl)) fun a51 hA52 => ?_; clear hA46 a45
   refine s1 hA52 (op_load1 rfl ty_44 (hA52.ev rfl) (hS38.bk 1 rfl) rfl) fun a53 hA54 => ?_; clear hA52 a51
   refine s1 hA54 (op_makeFunc rfl ev0 (ev2 (hA54.ev rfl) (hA54.ev rfl))) fun a55 hA56 => ?_; clear hA54 a53
   refine s2 hA56 (op_call rfl en_69 (ev2 (hA56.ev rfl) (hA56.ev rfl)) (all_int t.brk _ 78 #[] #[(bptr b9 0), (bptr b4 0)] (fun i => brB t (r1, r2) (t.brk.getD i 0).toNat) _ (hS38.sk 3 rfl) (by omega) ⟨en_78, fun i hi W hW => convclo_at _ _ _ t _ _ _ _ W ((hS38.step hW).bk 0 rfl) ((hS38.step hW).bk 1 rfl) ((hS38.step hW).sk 2 rfl) ((hS38.step hW).sk 3 rfl) hrl (hV.brk _ (getD_mem' hi))⟩)) ?_
   rintro a57 _ w59 ⟨rfl, hE60⟩ hA58; have hS61 := hS38.step hE60; clear hE60 hA56 hS38 a55
   refine s1 hA58 (op_assign rfl (hA58.ev rfl)) fun a62 hA63 => ?_; clear hA58 a57
   refine n1 ?_
   refine c_ret ?_
   refine fin_run hA63 (.inl rfl) (run_results1 hA63 rfl (.tmp rfl)) ?_
   exact ⟨congrArg Value.bool (Eq.symm (conv_y (by unfold tx; dsimp only; omega) (by unfold tx; dsimp only; omega))), hS61.ext⟩
theorem rconverts_ok (r1 r2 : Int) (t : TabD) (vr vb : Value) (w : World) (hr : SlAt w vr 2 t.rows.length (pairs t.rows)) (hb : SlAt w vb 1 t.brk.length (ints t.brk)) (hrl : t.rows.length ≤ 1000000) (hbl : t.brk.length ≤ 1000000) (n : Int) (hV : TabV n t) :
  Calls Try.prog 23 #[(Value.agg #[(Value.int .i64 t.frm), (Value.int .i64 t.dst), vr, vb, (Value.int .i64 t.err)]), (Value.agg #[(Value.int .i64 r1), (Value.int .i64 r2)])] w (Ret fun v w' => v = .bool (convB t (r1, r2)) ∧ Ext NoB w w') := by
 refine calls_enter Try.func23 rfl fun a0 hA0 => ?_
 replace hA0 : Fr 62 [] [(0, (Value.agg #[(Value.int .i64 t.frm), (Value.int .i64 t.dst), vr, vb, (Value.int .i64 t.err)])), (1, (Value.agg #[(Value.int .i64 r1), (Value.int .i64 r2)]))] a0 := hA0
 have hln := hV.len; have e2_ : (t.rows.getD ((t.rows.length : Int) - 1).toNat (0, 0)).1 = (t.rows.getD (t.rows.length - 1) (0, 0)).1 := by rw [show ((t.rows.length : Int) - 1).toNat = t.rows.length - 1 from by omega]
 have hS0 : Sep NoB w w [(sl vr 2 t.rows.length (pairs t.rows)), (sl vb 1 t.brk.length (ints t.brk))] := sep_ro ⟨rfl, hr, rfl, hb, trivial⟩
 refine m2 ?_
 refine s2 hA0 (op_box hS0 rfl (hA0.ev rfl) (cs := [(Value.int .i64 t.frm), (Value.int .i64 t.dst), vr, vb, (Value.int .i64 t.err)]) rfl) ?_
 rintro a1 _ w3 ⟨b4, rfl, hS5⟩ hA2; clear hA0 hS0 a0
 refine s2 hA2 (op_box hS5 rfl (hA2.ev rfl) (cs := [(Value.int .i64 r1), (Value.int .i64 r2)]) rfl) ?_
 rintro a6 _ w8 ⟨b9, rfl, hS10⟩ hA7; clear hA2 hS5 a1
 refine s1 hA7 (op_assign rfl (evc _ _)) fun a11 hA12 => ?_; clear hA7 a6
 refine n2 ?_
 refine c_seq ?_
 have hA13 := hA12.as [(3, (bptr b9 0)), (2, (bptr b4 0))] rfl; clear hA12
 by_cases hb15 : r1 < ((t.rows.getD 0 (0, 0)).1)
 ·skip
  have hA16 := hA13.as [(3, (bptr b9 0)), (2, (bptr b4 0))] rfl; clear hA13
  refine c_drawn mixed hA16 hS10 20 [[], [0], [], [2], [3], [4], [5], [1, 6], [7], [8], [8, 9], [8], [8, 11], [8], [8, 13], [8, 14], [8, 15], [8, 12, 16], [8, 17], [8, 18]] [(Yd.val (bptr b9 0)), (Yd.val (Value.int .i64 r1)), (Yd.val (bptr b4 2)), (Yd.val vr), (Yd.val (eptr vr (0 * 2))), (Yd.val (eptr vr (0 * 2 + 0))), (Yd.val (Value.int .i64 ((t.rows.getD 0 (0, 0)).1))), (Yd.val (Value.bool true)), (Yd.val (Value.bool true)), (Yd.val undef), (Yd.val undef), (Yd.val undef), (Yd.val undef), (Yd.val undef), (Yd.val undef), (Yd.val undef), (Yd.val undef), (Yd.val undef), (Yd.val undef), (Yd.val undef)] (by decide +kernel) rfl rfl ?_ ?_
  ·skip
   refine dq (fun a w hA hS hd => op_field rfl fd_27_0 (hA.ev rfl)) ?_
   refine dq (fun a w hA hS hd => op_load1 rfl ty_3 (hq hd 0) (hS.bk 0 rfl) rfl) ?_
   refine dq (fun a w hA hS hd => op_field rfl fd_46_2 (hA.ev rfl)) ?_
   refine dq (fun a w hA hS hd => op_load1 rfl ty_43 (hq hd 2) (hS.bk 1 rfl) rfl) ?_
   refine dq (fun a w hA hS hd => op_indexS rfl un_43 ty_75 (hq hd 3) (i := 0) (show _ = Value.int .i64 ((0 : Nat) : Int) from (evc _ _)) (hS.sk 2 rfl) (by decide) (by omega)) ?_
   refine dq (fun a w hA hS hd => op_fieldS rfl fd_75_0 (hq hd 4) (hS.sk 2 rfl) (by rw [((hS.sk 2 rfl)).1]; omega)) ?_
   refine dq (fun a w hA hS hd => op_load1E rfl ty_3 (hq hd 5) (hS.sk 2 rfl) (pairs_at0 (by omega))) ?_
   refine ⟨fun a w hA hS hd => by have e1 := hx hd 1; have e6 := hx hd 6; exact opG_of rfl (dv (op_lss rfl (tmp_ev e1) (tmp_ev e6)) hS (by show Value.bool _ = _; simp only [decide_eq_true hb15, decide_true, decide_false, Bool.not_true, Bool.not_false])), ?_⟩
   refine dq (fun a w hA hS hd => op_move rfl (hq hd 7)) ?_
   refine dn 8 ?_
   refine dn 8 ?_
   refine dn 8 ?_
   refine dn 8 ?_
   refine dn 8 ?_
   refine dn 8 ?_
   refine dn 8 ?_
   refine dn 8 ?_
   refine dn 8 ?_
   refine dn 8 ?_
   refine dn 8 ?_
   trivial
  intro a18 w19 hA20 hS21 hH22; clear hA16 hS10
  have hA23 := hA20.add (hz hH22 8); clear hA20
  have hA24 := hA23.add (hz hH22 10); clear hA23
  have hA25 := hA24.add (hz hH22 19); clear hA24
  clear hH22
  refine s3 hA25 fun a26 hA27 => ?_; clear hA25 a18
  refine s1 hA27 (op_pick_t rfl (hA27.ev rfl) (evc _ _)) fun a28 hA29 => ?_; clear hA27 a26
  refine n1 ?_
  refine c_true hA29 rfl ?_
  refine c_seq ?_
  have hA30 := hA29.as [] rfl; clear hA29
  refine c_region ?_
  refine s1 hA30 (op_assign rfl (evc _ _)) fun a31 hA32 => ?_; clear hA30 a28
  refine n1 ?_
  refine c_ret ?_
  refine then_ret ?_
  refine fin_run hA32 (.inl rfl) (run_results1 hA32 rfl (.tmp rfl)) ?_
  exact ⟨congrArg Value.bool (Eq.symm (by first | exact conv_n1 (by unfold tx; dsimp only; omega) | exact conv_n2 (by unfold tx; dsimp only; omega) | exact rconv_n (k := k) (by assumption) (by unfold tx; dsimp only; omega) (by unfold tx; dsimp only; have e3_ : (t.rows.getD ((k : Int) + 1).toNat (0, 0)).1 = (t.rows.getD (k + 1) (0, 0)).1 := (by rw [show ((k : Int) + 1).toNat = k + 1 from by omega]); omega))), hS21.ext⟩
 ·skip
  have hA33 := hA13.as [(3, (bptr b9 0)), (2, (bptr b4 0))] rfl; clear hA13
  refine c_drawn mixed hA33 hS10 20 [[], [0], [], [2], [3], [4], [5], [1, 6], [7], [8], [8, 9], [8], [8, 11], [8], [8, 13], [8, 14], [8, 15], [8, 12, 16], [8, 17], [8, 18]] [(Yd.val (bptr b9 0)), (Yd.val (Value.int .i64 r1)), (Yd.val (bptr b4 2)), (Yd.val vr), (Yd.val (eptr vr (0 * 2))), (Yd.val (eptr vr (0 * 2 + 0))), (Yd.val (Value.int .i64 ((t.rows.getD 0 (0, 0)).1))), (Yd.val (Value.bool false)), (Yd.val (Value.bool false)), (Yd.val (bptr b9 1)), (Yd.val (Value.int .i64 r2)), (Yd.val (bptr b4 2)), (Yd.val vr), (Yd.val (bptr b4 2)), (Yd.val vr), (Yd.val (Value.int .i64 (t.rows.length : Int))), (Yd.val (Value.int .i64 ((t.rows.length : Int) - 1))), (Yd.val (eptr vr (((t.rows.length : Int) - 1).toNat * 2))), (Yd.val (eptr vr (((t.rows.length : Int) - 1).toNat * 2 + 0))), (Yd.val (Value.int .i64 ((t.rows.getD (((t.rows.length : Int) - 1).toNat) (0, 0)).1)))] (by decide +kernel) rfl rfl ?_ ?_
  ·skip
   refine dq (fun a w hA hS hd => op_field rfl fd_27_0 (hA.ev rfl)) ?_
   refine dq (fun a w hA hS hd => op_load1 rfl ty_3 (hq hd 0) (hS.bk 0 rfl) rfl) ?_
   refine dq (fun a w hA hS hd => op_field rfl fd_46_2 (hA.ev rfl)) ?_
   refine dq (fun a w hA hS hd => op_load1 rfl ty_43 (hq hd 2) (hS.bk 1 rfl) rfl) ?_
   refine dq (fun a w hA hS hd => op_indexS rfl un_43 ty_75 (hq hd 3) (i := 0) (show _ = Value.int .i64 ((0 : Nat) : Int) from (evc _ _)) (hS.sk 2 rfl) (by decide) (by omega)) ?_
   refine dq (fun a w hA hS hd => op_fieldS rfl fd_75_0 (hq hd 4) (hS.sk 2 rfl) (by rw [((hS.sk 2 rfl)).1]; omega)) ?_
   refine dq (fun a w hA hS hd => op_load1E rfl ty_3 (hq hd 5) (hS.sk 2 rfl) (pairs_at0 (by omega))) ?_
   refine ⟨fun a w hA hS hd => by have e1 := hx hd 1; have e6 := hx hd 6; exact opG_of rfl (dv (op_lss rfl (tmp_ev e1) (tmp_ev e6)) hS (by show Value.bool _ = _; simp only [decide_eq_false hb15, decide_true, decide_false, Bool.not_true, Bool.not_false])), ?_⟩
   refine dq (fun a w hA hS hd => op_move rfl (hq hd 7)) ?_
   refine dy 8 (fun a w hA hS hd => op_field rfl fd_27_1 (hA.ev rfl)) ?_
   refine dy 8 (fun a w hA hS hd => op_load1 rfl ty_3 (hq hd 9) (hS.bk 0 rfl) rfl) ?_
   refine dy 8 (fun a w hA hS hd => op_field rfl fd_46_2 (hA.ev rfl)) ?_
   refine dy 8 (fun a w hA hS hd => op_load1 rfl ty_43 (hq hd 11) (hS.bk 1 rfl) rfl) ?_
   refine dy 8 (fun a w hA hS hd => op_field rfl fd_46_2 (hA.ev rfl)) ?_
   refine dy 8 (fun a w hA hS hd => op_load1 rfl ty_43 (hq hd 13) (hS.bk 1 rfl) rfl) ?_
   refine dy 8 (fun a w hA hS hd => op_lenS rfl un_43 (hq hd 14) (hS.sk 2 rfl)) ?_
   refine dy 8 (fun a w hA hS hd => op_sub rfl (hq hd 15) (evc _ _) (by omega) (by omega)) ?_
   refine dy 8 (fun a w hA hS hd => op_indexS rfl un_43 ty_75 (hq hd 12) (i := ((t.rows.length : Int) - 1).toNat) ((hq hd 16).trans (int_nat (by omega))) (hS.sk 2 rfl) (by decide) (by omega)) ?_
   refine dy 8 (fun a w hA hS hd => op_fieldS rfl fd_75_0 (hq hd 17) (hS.sk 2 rfl) (by rw [((hS.sk 2 rfl)).1]; omega)) ?_
   refine dy 8 (fun a w hA hS hd => op_load1E rfl ty_3 (hq hd 18) (hS.sk 2 rfl) (pairs_at0 (by omega))) ?_
   trivial
  intro a35 w36 hA37 hS38 hH39; clear hA33 hS10
  have hA40 := hA37.add (hz hH39 8); clear hA37
  have hA41 := hA40.add (hz hH39 10); clear hA40
  have hA42 := hA41.add (hz hH39 19); clear hA41
  clear hH39
  refine s5 hA42 (op_gtr rfl (hA42.ev rfl) (hA42.ev rfl)) fun a43 hA44 => ?_; clear hA42 a35
  refine s1 hA44 (op_pick_f rfl (hA44.ev rfl) (hA44.ev rfl)) fun a45 hA46 => ?_; clear hA44 a43
  refine n1 ?_
  by_cases hb47 : ((t.rows.getD (((t.rows.length : Int) - 1).toNat) (0, 0)).1) < r2
  ·skip
   rw [decide_eq_true hb47] at hA46
   refine c_true hA46 rfl ?_
   refine c_seq ?_
   have hA48 := hA46.as [] rfl; clear hA46
   refine c_region ?_
   refine s1 hA48 (op_assign rfl (evc _ _)) fun a49 hA50 => ?_; clear hA48 a45
   refine n1 ?_
   refine c_ret ?_
   refine then_ret ?_
   refine fin_run hA50 (.inl rfl) (run_results1 hA50 rfl (.tmp rfl)) ?_
   exact ⟨congrArg Value.bool (Eq.symm (by first | exact conv_n1 (by unfold tx; dsimp only; omega) | exact conv_n2 (by unfold tx; dsimp only; omega) | exact rconv_n (k := k) (by assumption) (by unfold tx; dsimp only; omega) (by unfold tx; dsimp only; have e3_ : (t.rows.getD ((k : Int) + 1).toNat (0, 0)).1 = (t.rows.getD (k + 1) (0, 0)).1 := (by rw [show ((k : Int) + 1).toNat = k + 1 from by omega]); omega))), hS38.ext⟩
  ·skip
   rw [decide_eq_false hb47] at hA46
   refine c_false hA46 rfl ?_
   refine c_skip ?_
   refine then_n ?_
   refine c_seq ?_
   refine m2 ?_
   refine s1 hA46 (op_assign rfl (evc _ _)) fun a51 hA52 => ?_; clear hA46 a45
   refine n1 ?_
   refine c_block ?_
   have hA53 := hA52.as [(5, (Value.int .i64 0)), (3, (bptr b9 0)), (2, (bptr b4 0))] rfl; clear hA52
   refine c_loop (G := Nat) (fun (k : Nat) a_ w_ => Fr 62 [] [(5, (Value.int .i64 (k : Int))), (3, (bptr b9 0)), (2, (bptr b4 0))] a_ ∧ Sep NoB w w_ [(blk b9 27 [(Value.int .i64 r1), (Value.int .i64 r2)]), (blk b4 46 [(Value.int .i64 t.frm), (Value.int .i64 t.dst), vr, vb, (Value.int .i64 t.err)]), (sl vr 2 t.rows.length (pairs t.rows)), (sl vb 1 t.brk.length (ints t.brk))] ∧ (k ≤ t.rows.length) ∧ (∀ i, i < k → ¬ ((i : Int) ∈ t.brk ∧ tx t i < r2 ∧ r1 < tx t (i + 1)))) (fun k => t.rows.length - k) 0 ⟨hA53.as _ rfl, hS38, by omega, (fun _ h => absurd h (Nat.not_lt_zero _))⟩ ?_
   clear hA53 hS38 a51
   rintro k a54 w56 ⟨hA55, hS57, hkk, hq_⟩
   refine c_seq ?_
   refine m2 ?_
   refine s1 hA55 (op_move rfl (hA55.ev rfl)) fun a58 hA59 => ?_; clear hA55 a54
   refine s1 hA59 (op_add rfl (hA59.ev rfl) (evc _ _) (by omega) (by omega)) fun a60 hA61 => ?_; clear hA59 a58
   refine s1 hA61 (op_field rfl fd_46_2 (hA61.ev rfl)) fun a62 hA63 => ?_; clear hA61 a60
   refine s1 hA63 (op_load1 rfl ty_43 (hA63.ev rfl) (hS57.bk 1 rfl) rfl) fun a64 hA65 => ?_; clear hA63 a62
   refine s1 hA65 (op_lenS rfl un_43 (hA65.ev rfl) (hS57.sk 2 rfl)) fun a66 hA67 => ?_; clear hA65 a64
   refine s1 hA67 (op_lss rfl (hA67.ev rfl) (hA67.ev rfl)) fun a68 hA69 => ?_; clear hA67 a66
   refine n1 ?_
   by_cases hb70 : ((k : Int) + 1) < (t.rows.length : Int)
   ·skip
    rw [decide_eq_true hb70] at hA69
    refine c_true hA69 rfl ?_
    refine c_skip ?_
    refine then_n ?_
    refine c_seq ?_
    refine c_block ?_
    refine c_seq ?_
    have hA71 := hA69.as [(5, (Value.int .i64 (k : Int))), (3, (bptr b9 0)), (2, (bptr b4 0))] rfl; clear hA69
    have hA72 := hA71.as [(5, (Value.int .i64 (k : Int))), (3, (bptr b9 0)), (2, (bptr b4 0))] rfl; clear hA71
    by_cases hb74 : (k : Int) ∈ t.brk
    ·skip
     have hA75 := hA72.as [(5, (Value.int .i64 (k : Int))), (3, (bptr b9 0)), (2, (bptr b4 0))] rfl; clear hA72
     by_cases hb77 : ((t.rows.getD k (0, 0)).1) < r2
     ·skip
      have hA78 := hA75.as [(5, (Value.int .i64 (k : Int))), (3, (bptr b9 0)), (2, (bptr b4 0))] rfl; clear hA75
      refine c_drawn mixed hA78 hS57 24 [[], [], [0, 1], [2], [3], [3, 4], [3], [3, 6], [3], [3, 7, 8], [3, 9], [3, 10], [3, 5, 11], [3, 12], [13], [14], [14, 15], [14], [14, 17], [14], [14, 19], [14, 18, 20], [14, 21], [14, 22]] [(Yd.val (Value.agg #[(Value.int .i64 t.frm), (Value.int .i64 t.dst), vr, vb, (Value.int .i64 t.err)])), (Yd.val (Value.int .i64 (k : Int))), (Yd.val (Value.bool true)), (Yd.val (Value.bool true)), (Yd.val (bptr b9 1)), (Yd.val (Value.int .i64 r2)), (Yd.val (bptr b4 2)), (Yd.val vr), (Yd.val (Value.int .i64 (k : Int))), (Yd.val (eptr vr (k * 2))), (Yd.val (eptr vr (k * 2 + 0))), (Yd.val (Value.int .i64 ((t.rows.getD k (0, 0)).1))), (Yd.val (Value.bool true)), (Yd.val (Value.bool true)), (Yd.val (Value.bool true)), (Yd.val (bptr b9 0)), (Yd.val (Value.int .i64 r1)), (Yd.val (bptr b4 2)), (Yd.val vr), (Yd.val (Value.int .i64 (k : Int))), (Yd.val (Value.int .i64 ((k : Int) + 1))), (Yd.val (eptr vr ((k + 1) * 2))), (Yd.val (eptr vr ((k + 1) * 2 + 0))), (Yd.val (Value.int .i64 ((t.rows.getD (k + 1) (0, 0)).1)))] (by decide +kernel) rfl rfl ?_ ?_
      ·skip
       refine dq (fun a w hA hS hd => op_loadA rfl ty_46 (hA.ev rfl) (hS.bk 1 rfl) (l := [(Value.int .i64 t.frm), (Value.int .i64 t.dst), vr, vb, (Value.int .i64 t.err)]) rfl rfl) ?_
       refine dq (fun a w hA hS hd => op_move rfl (hA.ev rfl)) ?_
       refine ⟨fun a w hA hS hd => by have e0 := hx hd 0; have e1 := hx hd 1; exact opG_of rfl (dx (op_call rfl en_54 (ev2 (tmp_ev e0) (tmp_ev e1)) (broken_ok (k : Int) t _ _ _ (hS.sk 2 rfl) (hS.sk 3 rfl) (by omega) (by omega))) hS (fun _ => (by show Value.bool _ = _; simp only [decide_eq_true hb74, decide_true, decide_false, Bool.not_true, Bool.not_false]))), ?_⟩
       refine dq (fun a w hA hS hd => op_move rfl (hq hd 2)) ?_
       refine dy 3 (fun a w hA hS hd => op_field rfl fd_27_1 (hA.ev rfl)) ?_
       refine dy 3 (fun a w hA hS hd => op_load1 rfl ty_3 (hq hd 4) (hS.bk 0 rfl) rfl) ?_
       refine dy 3 (fun a w hA hS hd => op_field rfl fd_46_2 (hA.ev rfl)) ?_
       refine dy 3 (fun a w hA hS hd => op_load1 rfl ty_43 (hq hd 6) (hS.bk 1 rfl) rfl) ?_
       refine dy 3 (fun a w hA hS hd => op_move rfl (hA.ev rfl)) ?_
       refine dy 3 (fun a w hA hS hd => op_indexS rfl un_43 ty_75 (hq hd 7) (i := k) (hq hd 8) (hS.sk 2 rfl) (by decide) (by omega)) ?_
       refine dy 3 (fun a w hA hS hd => op_fieldS rfl fd_75_0 (hq hd 9) (hS.sk 2 rfl) (by rw [((hS.sk 2 rfl)).1]; omega)) ?_
       refine dy 3 (fun a w hA hS hd => op_load1E rfl ty_3 (hq hd 10) (hS.sk 2 rfl) (pairs_at0 (by omega))) ?_
       refine ⟨fun a w hA hS hd => by have e3 := hx hd 3; have e5 := hx hd 5; have e11 := hx hd 11; exact opG_yes rfl rfl e3 (dv (op_gtr rfl (tmp_ev e5) (tmp_ev e11)) hS (by show Value.bool _ = _; simp only [decide_eq_true hb77, decide_true, decide_false, Bool.not_true, Bool.not_false])), ?_⟩
       refine dq (fun a w hA hS hd => op_pick_t rfl (hq hd 3) (hq hd 12)) ?_
       refine dq (fun a w hA hS hd => op_move rfl (hq hd 13)) ?_
       refine dy 14 (fun a w hA hS hd => op_field rfl fd_27_0 (hA.ev rfl)) ?_
       refine dy 14 (fun a w hA hS hd => op_load1 rfl ty_3 (hq hd 15) (hS.bk 0 rfl) rfl) ?_
       refine dy 14 (fun a w hA hS hd => op_field rfl fd_46_2 (hA.ev rfl)) ?_
       refine dy 14 (fun a w hA hS hd => op_load1 rfl ty_43 (hq hd 17) (hS.bk 1 rfl) rfl) ?_
       refine dy 14 (fun a w hA hS hd => op_move rfl (hA.ev rfl)) ?_
       refine dy 14 (fun a w hA hS hd => op_add rfl (hq hd 19) (evc _ _) (by omega) (by omega)) ?_
       refine dy 14 (fun a w hA hS hd => op_indexS rfl un_43 ty_75 (hq hd 18) (i := k + 1) ((hq hd 20).trans (congrArg (Value.int .i64) (show ((k : Int) + 1 : Int) = ((k + 1 : Nat) : Int) by omega))) (hS.sk 2 rfl) (by decide) (by omega)) ?_
       refine dy 14 (fun a w hA hS hd => op_fieldS rfl fd_75_0 (hq hd 21) (hS.sk 2 rfl) (by rw [((hS.sk 2 rfl)).1]; omega)) ?_
       refine dy 14 (fun a w hA hS hd => op_load1E rfl ty_3 (hq hd 22) (hS.sk 2 rfl) (pairs_at0 (by omega))) ?_
       trivial
      intro a80 w81 hA82 hS83 hH84; clear hA78 hS57
      have hA85 := hA82.add (hz hH84 14); clear hA82
      have hA86 := hA85.add (hz hH84 16); clear hA85
      have hA87 := hA86.add (hz hH84 23); clear hA86
      clear hH84
      refine s5 hA87 (op_lss rfl (hA87.ev rfl) (hA87.ev rfl)) fun a88 hA89 => ?_; clear hA87 a80
      refine s1 hA89 (op_pick_t rfl (hA89.ev rfl) (hA89.ev rfl)) fun a90 hA91 => ?_; clear hA89 a88
      refine n1 ?_
      by_cases hb92 : r1 < ((t.rows.getD (k + 1) (0, 0)).1)
      ·skip
       rw [decide_eq_true hb92] at hA91
       refine c_true hA91 rfl ?_
       refine c_seq ?_
       have hA93 := hA91.as [] rfl; clear hA91
       refine c_region ?_
       refine s1 hA93 (op_assign rfl (evc _ _)) fun a94 hA95 => ?_; clear hA93 a90
       refine n1 ?_
       refine c_ret ?_
       refine blk_ret ?_
       refine then_ret ?_
       refine then_ret ?_
       refine blk_ret ?_
       refine then_ret ?_
       refine fin_run hA95 (.inl rfl) (run_results1 hA95 rfl (.tmp rfl)) ?_
       exact ⟨congrArg Value.bool (Eq.symm (by first | exact conv_n1 (by unfold tx; dsimp only; omega) | exact conv_n2 (by unfold tx; dsimp only; omega) | exact rconv_n (k := k) (by assumption) (by unfold tx; dsimp only; omega) (by unfold tx; dsimp only; have e3_ : (t.rows.getD ((k : Int) + 1).toNat (0, 0)).1 = (t.rows.getD (k + 1) (0, 0)).1 := (by rw [show ((k : Int) + 1).toNat = k + 1 from by omega]); omega))), hS83.ext⟩
      ·skip
       rw [decide_eq_false hb92] at hA91
       refine c_false hA91 rfl ?_
       refine c_skip ?_
       refine blk_n ?_
       refine then_n ?_
       refine c_region ?_
       refine s1 hA91 (op_move rfl (hA91.ev rfl)) fun a96 hA97 => ?_; clear hA91 a90
       refine s1 hA97 (op_add rfl (hA97.ev rfl) (evc _ _) (by omega) (by omega)) fun a98 hA99 => ?_; clear hA97 a96
       refine s1 hA99 (op_assign rfl (hA99.ev rfl)) fun a100 hA101 => ?_; clear hA99 a98
       refine wl_nil ?_
       exact then_n ⟨k + 1, ⟨hA101.as _ rfl, hS83, by omega, (fun i hi => by rcases Nat.lt_succ_iff_lt_or_eq.1 hi with h | h; exact hq_ i h; subst h; (refine fun e_ => ?_; unfold tx at e_; have e3_ : (t.rows.getD ((i : Int) + 1).toNat (0, 0)).1 = (t.rows.getD (i + 1) (0, 0)).1 := (by rw [show ((i : Int) + 1).toNat = i + 1 from by omega]); first | exact absurd e_.1 (by assumption) | omega))⟩, by omega⟩
     ·skip
      have hA102 := hA75.as [(5, (Value.int .i64 (k : Int))), (3, (bptr b9 0)), (2, (bptr b4 0))] rfl; clear hA75
      refine c_drawn mixed hA102 hS57 24 [[], [], [0, 1], [2], [3], [3, 4], [3], [3, 6], [3], [3, 7, 8], [3, 9], [3, 10], [3, 5, 11], [3, 12], [13], [14], [14, 15], [14], [14, 17], [14], [14, 19], [14, 18, 20], [14, 21], [14, 22]] [(Yd.val (Value.agg #[(Value.int .i64 t.frm), (Value.int .i64 t.dst), vr, vb, (Value.int .i64 t.err)])), (Yd.val (Value.int .i64 (k : Int))), (Yd.val (Value.bool true)), (Yd.val (Value.bool true)), (Yd.val (bptr b9 1)), (Yd.val (Value.int .i64 r2)), (Yd.val (bptr b4 2)), (Yd.val vr), (Yd.val (Value.int .i64 (k : Int))), (Yd.val (eptr vr (k * 2))), (Yd.val (eptr vr (k * 2 + 0))), (Yd.val (Value.int .i64 ((t.rows.getD k (0, 0)).1))), (Yd.val (Value.bool false)), (Yd.val (Value.bool false)), (Yd.val (Value.bool false)), (Yd.val undef), (Yd.val undef), (Yd.val undef), (Yd.val undef), (Yd.val undef), (Yd.val undef), (Yd.val undef), (Yd.val undef), (Yd.val undef)] (by decide +kernel) rfl rfl ?_ ?_
      ·skip
       refine dq (fun a w hA hS hd => op_loadA rfl ty_46 (hA.ev rfl) (hS.bk 1 rfl) (l := [(Value.int .i64 t.frm), (Value.int .i64 t.dst), vr, vb, (Value.int .i64 t.err)]) rfl rfl) ?_
       refine dq (fun a w hA hS hd => op_move rfl (hA.ev rfl)) ?_
       refine ⟨fun a w hA hS hd => by have e0 := hx hd 0; have e1 := hx hd 1; exact opG_of rfl (dx (op_call rfl en_54 (ev2 (tmp_ev e0) (tmp_ev e1)) (broken_ok (k : Int) t _ _ _ (hS.sk 2 rfl) (hS.sk 3 rfl) (by omega) (by omega))) hS (fun _ => (by show Value.bool _ = _; simp only [decide_eq_true hb74, decide_true, decide_false, Bool.not_true, Bool.not_false]))), ?_⟩
       refine dq (fun a w hA hS hd => op_move rfl (hq hd 2)) ?_
       refine dy 3 (fun a w hA hS hd => op_field rfl fd_27_1 (hA.ev rfl)) ?_
       refine dy 3 (fun a w hA hS hd => op_load1 rfl ty_3 (hq hd 4) (hS.bk 0 rfl) rfl) ?_
       refine dy 3 (fun a w hA hS hd => op_field rfl fd_46_2 (hA.ev rfl)) ?_
       refine dy 3 (fun a w hA hS hd => op_load1 rfl ty_43 (hq hd 6) (hS.bk 1 rfl) rfl) ?_
       refine dy 3 (fun a w hA hS hd => op_move rfl (hA.ev rfl)) ?_
       refine dy 3 (fun a w hA hS hd => op_indexS rfl un_43 ty_75 (hq hd 7) (i := k) (hq hd 8) (hS.sk 2 rfl) (by decide) (by omega)) ?_
       refine dy 3 (fun a w hA hS hd => op_fieldS rfl fd_75_0 (hq hd 9) (hS.sk 2 rfl) (by rw [((hS.sk 2 rfl)).1]; omega)) ?_
       refine dy 3 (fun a w hA hS hd => op_load1E rfl ty_3 (hq hd 10) (hS.sk 2 rfl) (pairs_at0 (by omega))) ?_
       refine ⟨fun a w hA hS hd => by have e3 := hx hd 3; have e5 := hx hd 5; have e11 := hx hd 11; exact opG_yes rfl rfl e3 (dv (op_gtr rfl (tmp_ev e5) (tmp_ev e11)) hS (by show Value.bool _ = _; simp only [decide_eq_false hb77, decide_true, decide_false, Bool.not_true, Bool.not_false])), ?_⟩
       refine dq (fun a w hA hS hd => op_pick_t rfl (hq hd 3) (hq hd 12)) ?_
       refine dq (fun a w hA hS hd => op_move rfl (hq hd 13)) ?_
       refine dn 14 ?_
       refine dn 14 ?_
       refine dn 14 ?_
       refine dn 14 ?_
       refine dn 14 ?_
       refine dn 14 ?_
       refine dn 14 ?_
       refine dn 14 ?_
       refine dn 14 ?_
       trivial
      intro a104 w105 hA106 hS107 hH108; clear hA102 hS57
      have hA109 := hA106.add (hz hH108 14); clear hA106
      have hA110 := hA109.add (hz hH108 16); clear hA109
      have hA111 := hA110.add (hz hH108 23); clear hA110
      clear hH108
      refine s3 hA111 fun a112 hA113 => ?_; clear hA111 a104
      refine s1 hA113 (op_pick_f rfl (hA113.ev rfl) (evc _ _)) fun a114 hA115 => ?_; clear hA113 a112
      refine n1 ?_
      refine c_false hA115 rfl ?_
      refine c_skip ?_
      refine blk_n ?_
      refine then_n ?_
      refine c_region ?_
      refine s1 hA115 (op_move rfl (hA115.ev rfl)) fun a116 hA117 => ?_; clear hA115 a114
      refine s1 hA117 (op_add rfl (hA117.ev rfl) (evc _ _) (by omega) (by omega)) fun a118 hA119 => ?_; clear hA117 a116
      refine s1 hA119 (op_assign rfl (hA119.ev rfl)) fun a120 hA121 => ?_; clear hA119 a118
      refine wl_nil ?_
      exact then_n ⟨k + 1, ⟨hA121.as _ rfl, hS107, by omega, (fun i hi => by rcases Nat.lt_succ_iff_lt_or_eq.1 hi with h | h; exact hq_ i h; subst h; (refine fun e_ => ?_; unfold tx at e_; have e3_ : (t.rows.getD ((i : Int) + 1).toNat (0, 0)).1 = (t.rows.getD (i + 1) (0, 0)).1 := (by rw [show ((i : Int) + 1).toNat = i + 1 from by omega]); first | exact absurd e_.1 (by assumption) | omega))⟩, by omega⟩
    ·skip
     have hA122 := hA72.as [(5, (Value.int .i64 (k : Int))), (3, (bptr b9 0)), (2, (bptr b4 0))] rfl; clear hA72
     refine c_drawn mixed hA122 hS57 24 [[], [], [0, 1], [2], [3], [3, 4], [3], [3, 6], [3], [3, 7, 8], [3, 9], [3, 10], [3, 5, 11], [3, 12], [13], [14], [14, 15], [14], [14, 17], [14], [14, 19], [14, 18, 20], [14, 21], [14, 22]] [(Yd.val (Value.agg #[(Value.int .i64 t.frm), (Value.int .i64 t.dst), vr, vb, (Value.int .i64 t.err)])), (Yd.val (Value.int .i64 (k : Int))), (Yd.val (Value.bool false)), (Yd.val (Value.bool false)), (Yd.val undef), (Yd.val undef), (Yd.val undef), (Yd.val undef), (Yd.val undef), (Yd.val undef), (Yd.val undef), (Yd.val undef), (Yd.val undef), (Yd.val (Value.bool false)), (Yd.val (Value.bool false)), (Yd.val undef), (Yd.val undef), (Yd.val undef), (Yd.val undef), (Yd.val undef), (Yd.val undef), (Yd.val undef), (Yd.val undef), (Yd.val undef)] (by decide +kernel) rfl rfl ?_ ?_
     ·skip
      refine dq (fun a w hA hS hd => op_loadA rfl ty_46 (hA.ev rfl) (hS.bk 1 rfl) (l := [(Value.int .i64 t.frm), (Value.int .i64 t.dst), vr, vb, (Value.int .i64 t.err)]) rfl rfl) ?_
      refine dq (fun a w hA hS hd => op_move rfl (hA.ev rfl)) ?_
      refine ⟨fun a w hA hS hd => by have e0 := hx hd 0; have e1 := hx hd 1; exact opG_of rfl (dx (op_call rfl en_54 (ev2 (tmp_ev e0) (tmp_ev e1)) (broken_ok (k : Int) t _ _ _ (hS.sk 2 rfl) (hS.sk 3 rfl) (by omega) (by omega))) hS (fun _ => (by show Value.bool _ = _; simp only [decide_eq_false hb74, decide_true, decide_false, Bool.not_true, Bool.not_false]))), ?_⟩
      refine dq (fun a w hA hS hd => op_move rfl (hq hd 2)) ?_
      refine dn 3 ?_
      refine dn 3 ?_
      refine dn 3 ?_
      refine dn 3 ?_
      refine dn 3 ?_
      refine dn 3 ?_
      refine dn 3 ?_
      refine dn 3 ?_
      refine dn 3 ?_
      refine dq (fun a w hA hS hd => op_pick_f rfl (hq hd 3) (evc _ _)) ?_
      refine dq (fun a w hA hS hd => op_move rfl (hq hd 13)) ?_
      refine dn 14 ?_
      refine dn 14 ?_
      refine dn 14 ?_
      refine dn 14 ?_
      refine dn 14 ?_
      refine dn 14 ?_
      refine dn 14 ?_
      refine dn 14 ?_
      refine dn 14 ?_
      trivial
     intro a124 w125 hA126 hS127 hH128; clear hA122 hS57
     have hA129 := hA126.add (hz hH128 14); clear hA126
     have hA130 := hA129.add (hz hH128 16); clear hA129
     have hA131 := hA130.add (hz hH128 23); clear hA130
     clear hH128
     refine s3 hA131 fun a132 hA133 => ?_; clear hA131 a124
     refine s1 hA133 (op_pick_f rfl (hA133.ev rfl) (evc _ _)) fun a134 hA135 => ?_; clear hA133 a132
     refine n1 ?_
     refine c_false hA135 rfl ?_
     refine c_skip ?_
     refine blk_n ?_
     refine then_n ?_
     refine c_region ?_
     refine s1 hA135 (op_move rfl (hA135.ev rfl)) fun a136 hA137 => ?_; clear hA135 a134
     refine s1 hA137 (op_add rfl (hA137.ev rfl) (evc _ _) (by omega) (by omega)) fun a138 hA139 => ?_; clear hA137 a136
     refine s1 hA139 (op_assign rfl (hA139.ev rfl)) fun a140 hA141 => ?_; clear hA139 a138
     refine wl_nil ?_
     exact then_n ⟨k + 1, ⟨hA141.as _ rfl, hS127, by omega, (fun i hi => by rcases Nat.lt_succ_iff_lt_or_eq.1 hi with h | h; exact hq_ i h; subst h; (refine fun e_ => ?_; unfold tx at e_; have e3_ : (t.rows.getD ((i : Int) + 1).toNat (0, 0)).1 = (t.rows.getD (i + 1) (0, 0)).1 := (by rw [show ((i : Int) + 1).toNat = i + 1 from by omega]); first | exact absurd e_.1 (by assumption) | omega))⟩, by omega⟩
   ·skip
    rw [decide_eq_false hb70] at hA69
    refine c_false hA69 rfl ?_
    refine c_exit ?_
    refine then_exit ?_
    refine then_exit ?_
    refine blk_hit ?_
    refine then_n ?_
    refine c_seq ?_
    have hA142 := hA69.as [] rfl; clear hA69
    refine c_region ?_
    refine s1 hA142 (op_assign rfl (evc _ _)) fun a143 hA144 => ?_; clear hA142 a68
    refine n1 ?_
    refine c_ret ?_
    refine fin_run hA144 (.inl rfl) (run_results1 hA144 rfl (.tmp rfl)) ?_
    exact ⟨congrArg Value.bool (Eq.symm (rconv_y hV (by unfold tx; dsimp only; omega) (by unfold tx; dsimp only; omega) (fun i hi => hq_ i (by omega)))), hS57.ext⟩
end Go.Proofs.Ytohgladndklciaa

namespace Go.Proofs.Ytohgladndklciaa
open Go.RowKit Go.Shelf Go.Eng Go.Hard
theorem fd_75_1 : fldK Try.prog 75 1 = some 1 := by kernel_rfl
theorem ze_75 : (Try.prog.info? 75).bind (·.zero) = some (Value.agg #[(Value.int .i64 0), (Value.int .i64 0)]) := by kernel_rfl
theorem en_82 : ∀ args w, (callFunc 82 args).run Try.prog w = .ok (.enter 82 args) w := enters_of Try.func82 (by kernel_rfl) rfl
theorem bd_27_  (w : World) : (Instr.build 27 #[]).run Try.prog w = .ok (.agg #[(Value.int .i64 0), (Value.int .i64 0)]) w := by kernel_rfl
theorem en_55 : ∀ args w, (callFunc 55 args).run Try.prog w = .ok (.enter 55 args) w := enters_of Try.func55 (by kernel_rfl) rfl
theorem fd_46_4 : fldK Try.prog 46 4 = some 4 := by kernel_rfl
theorem upF_bd {n d : Int} (hn : -100000000000 ≤ n ∧ n ≤ 100000000000) (hd : 0 < d ∧ d ≤ 100000) : -100000000001 ≤ upF n d ∧ upF n d ≤ 100000000001 := by
 have := downF_bd (n := -n) (d := d) (by omega) hd
 unfold upF; unfold downF at this; omega
theorem rmade_ok (t : TabD) (vr vb : Value) (w : World) (hr : SlAt w vr 2 t.rows.length (pairs t.rows)) (hb : SlAt w vb 1 t.brk.length (ints t.brk)) (hrl : t.rows.length ≤ 1000000) (hbl : t.brk.length ≤ 1000000) (n : Int) (hV : TabV n t) (x : Int) :
  Calls Try.prog 55 #[(Value.agg #[(Value.int .i64 t.frm), (Value.int .i64 t.dst), vr, vb, (Value.int .i64 t.err)]), (Value.int .i64 x)] w (Ret fun v w' => v = .tuple #[.agg #[.int .i64 (madeV t x).1, .int .i64 (madeV t x).2], .bool (madeF t x).isSome] ∧ Ext NoB w w') := by
 refine calls_enter Try.func55 rfl fun a0 hA0 => ?_
 replace hA0 : Fr 104 [] [(0, (Value.agg #[(Value.int .i64 t.frm), (Value.int .i64 t.dst), vr, vb, (Value.int .i64 t.err)])), (1, (Value.int .i64 x))] a0 := hA0
 have hS0 : Sep NoB w w [(sl vr 2 t.rows.length (pairs t.rows)), (sl vb 1 t.brk.length (ints t.brk))] := sep_ro ⟨rfl, hr, rfl, hb, trivial⟩
 refine m2 ?_
 refine s2 hA0 (op_box hS0 rfl (hA0.ev rfl) (cs := [(Value.int .i64 t.frm), (Value.int .i64 t.dst), vr, vb, (Value.int .i64 t.err)]) rfl) ?_
 rintro a1 _ w3 ⟨b4, rfl, hS5⟩ hA2; clear hA0 hS0 a0
 refine s2 hA2 (op_alloc hS5 rfl ze_27 (cs := [(Value.int .i64 0), (Value.int .i64 0)]) rfl) ?_
 rintro a6 _ w8 ⟨b9, rfl, hS10⟩ hA7; clear hA2 hS5 a1
 refine s1 hA7 (op_assign rfl (evc _ _)) fun a11 hA12 => ?_; clear hA7 a6
 refine n2 ?_
 refine m2 ?_
 refine s1 hA12 (op_assign rfl (evc _ _)) fun a13 hA14 => ?_; clear hA12 a11
 refine n1 ?_
 refine c_block ?_
 have hA15 := hA14.as [(6, (Value.int .i64 0)), (4, (bptr b9 0)), (2, (bptr b4 0)), (1, (Value.int .i64 x))] rfl; clear hA14
 refine c_loop (G := Nat) (fun (k : Nat) a_ w_ => Fr 104 [] [(6, (Value.int .i64 (k : Int))), (4, (bptr b9 0)), (2, (bptr b4 0)), (1, (Value.int .i64 x))] a_ ∧ Sep NoB w w_ [(blk b9 27 [(Value.int .i64 0), (Value.int .i64 0)]), (blk b4 46 [(Value.int .i64 t.frm), (Value.int .i64 t.dst), vr, vb, (Value.int .i64 t.err)]), (sl vr 2 t.rows.length (pairs t.rows)), (sl vb 1 t.brk.length (ints t.brk))] ∧ (k ≤ t.rows.length) ∧ (∀ i, i < k → ¬ tx t i = x)) (fun k => t.rows.length - k) 0 ⟨hA15.as _ rfl, hS10, by omega, (fun _ h => absurd h (Nat.not_lt_zero _))⟩ ?_
 clear hA15 hS10 a13
 rintro k a16 w18 ⟨hA17, hS19, hkk, hrw⟩
 refine c_seq ?_
 refine m2 ?_
 refine s1 hA17 (op_move rfl (hA17.ev rfl)) fun a20 hA21 => ?_; clear hA17 a16
 refine s1 hA21 (op_field rfl fd_46_2 (hA21.ev rfl)) fun a22 hA23 => ?_; clear hA21 a20
 refine s1 hA23 (op_load1 rfl ty_43 (hA23.ev rfl) (hS19.bk 1 rfl) rfl) fun a24 hA25 => ?_; clear hA23 a22
 refine s1 hA25 (op_lenS rfl un_43 (hA25.ev rfl) (hS19.sk 2 rfl)) fun a26 hA27 => ?_; clear hA25 a24
 refine s1 hA27 (op_lss rfl (hA27.ev rfl) (hA27.ev rfl)) fun a28 hA29 => ?_; clear hA27 a26
 refine n1 ?_
 by_cases hb30 : (k : Int) < (t.rows.length : Int)
 ·skip
  rw [decide_eq_true hb30] at hA29
  refine c_true hA29 rfl ?_
  refine c_skip ?_
  refine then_n ?_
  refine c_seq ?_
  refine c_block ?_
  refine m2 ?_
  refine s1 hA29 (op_field rfl fd_46_2 (hA29.ev rfl)) fun a31 hA32 => ?_; clear hA29 a28
  refine s1 hA32 (op_load1 rfl ty_43 (hA32.ev rfl) (hS19.bk 1 rfl) rfl) fun a33 hA34 => ?_; clear hA32 a31
  refine s1 hA34 (op_move rfl (hA34.ev rfl)) fun a35 hA36 => ?_; clear hA34 a33
  refine s1 hA36 (op_indexS rfl un_43 ty_75 (hA36.ev rfl) (i := k) (hA36.ev rfl) (hS19.sk 2 rfl) (by decide) (by omega)) fun a37 hA38 => ?_; clear hA36 a35
  refine s1 hA38 (op_fieldS rfl fd_75_0 (hA38.ev rfl) (hS19.sk 2 rfl) (by rw [((hS19.sk 2 rfl)).1]; omega)) fun a39 hA40 => ?_; clear hA38 a37
  refine s1 hA40 (op_load1E rfl ty_3 (hA40.ev rfl) (hS19.sk 2 rfl) (pairs_at0 (by omega))) fun a41 hA42 => ?_; clear hA40 a39
  refine s1 hA42 (op_move rfl (hA42.ev rfl)) fun a43 hA44 => ?_; clear hA42 a41
  refine s1 hA44 (op_eql rfl (hA44.ev rfl) (hA44.ev rfl)) fun a45 hA46 => ?_; clear hA44 a43
  refine n1 ?_
  by_cases hb47 : ((t.rows.getD k (0, 0)).1) = x
  ·skip
   rw [decide_eq_true hb47] at hA46
   refine c_true hA46 rfl ?_
   refine c_seq ?_
   have hA48 := hA46.as [(6, (Value.int .i64 (k : Int))), (4, (bptr b9 0)), (2, (bptr b4 0))] rfl; clear hA46
   have hA49 := hA48.as [(6, (Value.int .i64 (k : Int))), (4, (bptr b9 0)), (2, (bptr b4 0))] rfl; clear hA48
   refine c_drawn mixed hA49 hS19 12 [[], [0], [], [1, 2], [3], [4], [], [6], [], [7, 8], [9], [10]] [(Yd.val (bptr b4 2)), (Yd.val vr), (Yd.val (Value.int .i64 (k : Int))), (Yd.val (eptr vr (k * 2))), (Yd.val (eptr vr (k * 2 + 1))), (Yd.val (Value.int .i64 ((t.rows.getD k (0, 0)).2))), (Yd.val (bptr b4 2)), (Yd.val vr), (Yd.val (Value.int .i64 (k : Int))), (Yd.val (eptr vr (k * 2))), (Yd.val (eptr vr (k * 2 + 1))), (Yd.val (Value.int .i64 ((t.rows.getD k (0, 0)).2)))] (by decide +kernel) rfl rfl ?_ ?_
   ·skip
    refine dq (fun a w hA hS hd => op_field rfl fd_46_2 (hA.ev rfl)) ?_
    refine dq (fun a w hA hS hd => op_load1 rfl ty_43 (hq hd 0) (hS.bk 1 rfl) rfl) ?_
    refine dq (fun a w hA hS hd => op_move rfl (hA.ev rfl)) ?_
    refine dq (fun a w hA hS hd => op_indexS rfl un_43 ty_75 (hq hd 1) (i := k) (hq hd 2) (hS.sk 2 rfl) (by decide) (by omega)) ?_
    refine dq (fun a w hA hS hd => op_fieldS rfl fd_75_1 (hq hd 3) (hS.sk 2 rfl) (by rw [((hS.sk 2 rfl)).1]; omega)) ?_
    refine dq (fun a w hA hS hd => op_load1E rfl ty_3 (hq hd 4) (hS.sk 2 rfl) (pairs_at1 (by omega))) ?_
    refine dq (fun a w hA hS hd => op_field rfl fd_46_2 (hA.ev rfl)) ?_
    refine dq (fun a w hA hS hd => op_load1 rfl ty_43 (hq hd 6) (hS.bk 1 rfl) rfl) ?_
    refine dq (fun a w hA hS hd => op_move rfl (hA.ev rfl)) ?_
    refine dq (fun a w hA hS hd => op_indexS rfl un_43 ty_75 (hq hd 7) (i := k) (hq hd 8) (hS.sk 2 rfl) (by decide) (by omega)) ?_
    refine dq (fun a w hA hS hd => op_fieldS rfl fd_75_1 (hq hd 9) (hS.sk 2 rfl) (by rw [((hS.sk 2 rfl)).1]; omega)) ?_
    refine dq (fun a w hA hS hd => op_load1E rfl ty_3 (hq hd 10) (hS.sk 2 rfl) (pairs_at1 (by omega))) ?_
    trivial
   intro a51 w52 hA53 hS54 hH55; clear hA49 hS19
   have hA56 := hA53.add (hz hH55 5); clear hA53
   have hA57 := hA56.add (hz hH55 11); clear hA56
   clear hH55
   refine s1 hA57 (op_build rfl (pv2 (hA57.ev rfl) (hA57.ev rfl)) (bd_27_0i_1i _ _)) fun a58 hA59 => ?_; clear hA57 a51
   refine s7 hA59 (op_store hS54 rfl ty_27 (hA59.ev rfl) (hA59.ev rfl) (i := 0) rfl (vs := [(Value.int .i64 ((t.rows.getD k (0, 0)).2)), (Value.int .i64 ((t.rows.getD k (0, 0)).2))]) rfl rfl rfl (Nat.le_of_ble_eq_true rfl)) ?_
   intro _ w60 hS61 hA62; clear hA59
   have hS63 : Sep NoB w w60 [(blk b9 27 [(Value.int .i64 ((t.rows.getD k (0, 0)).2)), (Value.int .i64 ((t.rows.getD k (0, 0)).2))]), (blk b4 46 [(Value.int .i64 t.frm), (Value.int .i64 t.dst), vr, vb, (Value.int .i64 t.err)]), (sl vr 2 t.rows.length (pairs t.rows)), (sl vb 1 t.brk.length (ints t.brk))] := hS61; clear hS61 hS54
   refine s1 hA62 (op_assign rfl (evc _ _)) fun a64 hA65 => ?_; clear hA62 a58
   refine n1 ?_
   refine c_ret ?_
   refine blk_ret ?_
   refine then_ret ?_
   refine then_ret ?_
   refine blk_ret ?_
   refine then_ret ?_
   refine fin_run hA65 (.inl rfl) (run_results2 hA65 rfl (.cellA rfl ty_27 (hS63.bk 0 rfl) (l := [(Value.int .i64 ((t.rows.getD k (0, 0)).2)), (Value.int .i64 ((t.rows.getD k (0, 0)).2))]) rfl rfl) (.tmp rfl)) ?_
   have hz := (made_row (k := k) (by omega) (fun i hi => hrw i (by omega)) (by assumption))
   exact ⟨by unfold madeV; rw [hz]; rfl, hS63.ext⟩
  ·skip
   rw [decide_eq_false hb47] at hA46
   refine c_false hA46 rfl ?_
   refine c_skip ?_
   refine blk_n ?_
   refine then_n ?_
   have hA66 := hA46.as [(6, (Value.int .i64 (k : Int))), (4, (bptr b9 0)), (2, (bptr b4 0)), (1, (Value.int .i64 x))] rfl; clear hA46
   refine c_region ?_
   refine s1 hA66 (op_move rfl (hA66.ev rfl)) fun a67 hA68 => ?_; clear hA66 a45
   refine s1 hA68 (op_add rfl (hA68.ev rfl) (evc _ _) (by omega) (by omega)) fun a69 hA70 => ?_; clear hA68 a67
   refine s1 hA70 (op_assign rfl (hA70.ev rfl)) fun a71 hA72 => ?_; clear hA70 a69
   refine wl_nil ?_
   exact then_n ⟨k + 1, ⟨hA72.as _ rfl, hS19, by omega, (fun i hi => by rcases Nat.lt_succ_iff_lt_or_eq.1 hi with h | h; exact hrw i h; subst h; assumption)⟩, by omega⟩
 ·skip
  rw [decide_eq_false hb30] at hA29
  refine c_false hA29 rfl ?_
  refine c_exit ?_
  refine then_exit ?_
  refine then_exit ?_
  refine blk_hit ?_
  refine then_n ?_
  refine c_seq ?_
  refine c_seq ?_
  have hA73 := hA29.as [(4, (bptr b9 0)), (2, (bptr b4 0)), (1, (Value.int .i64 x))] rfl; clear hA29
  refine c_region ?_
  refine s1 hA73 (op_assign rfl (evc _ _)) fun a74 hA75 => ?_; clear hA73 a28
  refine n1 ?_
  refine c_block ?_
  have hA76 := hA75.as [(7, (Value.int .i64 0)), (4, (bptr b9 0)), (2, (bptr b4 0)), (1, (Value.int .i64 x))] rfl; clear hA75
  refine c_loop (G := Nat) (fun (k1 : Nat) a_ w_ => Fr 104 [] [(7, (Value.int .i64 (k1 : Int))), (4, (bptr b9 0)), (2, (bptr b4 0)), (1, (Value.int .i64 x))] a_ ∧ Sep NoB w w_ [(blk b9 27 [(Value.int .i64 0), (Value.int .i64 0)]), (blk b4 46 [(Value.int .i64 t.frm), (Value.int .i64 t.dst), vr, vb, (Value.int .i64 t.err)]), (sl vr 2 t.rows.length (pairs t.rows)), (sl vb 1 t.brk.length (ints t.brk))] ∧ (k1 ≤ t.rows.length) ∧ (∀ i, i < k1 → inPiece t x i = false)) (fun k1 => t.rows.length - k1) 0 ⟨hA76.as _ rfl, hS19, by omega, (fun _ h => absurd h (Nat.not_lt_zero _))⟩ ?_
  clear hA76 hS19 a74
  rintro k1 a77 w79 ⟨hA78, hS80, hkk1, hpc⟩
  refine c_seq ?_
  refine m2 ?_
  refine s1 hA78 (op_move rfl (hA78.ev rfl)) fun a81 hA82 => ?_; clear hA78 a77
  refine s1 hA82 (op_add rfl (hA82.ev rfl) (evc _ _) (by omega) (by omega)) fun a83 hA84 => ?_; clear hA82 a81
  refine s1 hA84 (op_field rfl fd_46_2 (hA84.ev rfl)) fun a85 hA86 => ?_; clear hA84 a83
  refine s1 hA86 (op_load1 rfl ty_43 (hA86.ev rfl) (hS80.bk 1 rfl) rfl) fun a87 hA88 => ?_; clear hA86 a85
  refine s1 hA88 (op_lenS rfl un_43 (hA88.ev rfl) (hS80.sk 2 rfl)) fun a89 hA90 => ?_; clear hA88 a87
  refine s1 hA90 (op_lss rfl (hA90.ev rfl) (hA90.ev rfl)) fun a91 hA92 => ?_; clear hA90 a89
  refine n1 ?_
  by_cases hb93 : ((k1 : Int) + 1) < (t.rows.length : Int)
  ·skip
   rw [decide_eq_true hb93] at hA92
   refine c_true hA92 rfl ?_
   refine c_skip ?_
   refine then_n ?_
   refine c_seq ?_
   refine c_block ?_
   refine c_seq ?_
   have hA94 := hA92.as [(7, (Value.int .i64 (k1 : Int))), (4, (bptr b9 0)), (2, (bptr b4 0)), (1, (Value.int .i64 x))] rfl; clear hA92
   have hA95 := hA94.as [(7, (Value.int .i64 (k1 : Int))), (4, (bptr b9 0)), (2, (bptr b4 0)), (1, (Value.int .i64 x))] rfl; clear hA94
   refine c_drawCD mixed hA95 hS80 14 [(13, 11)] [[], [0], [], [1, 2], [3], [], [5], [], [7], [6, 8], [9], [], [], [4, 11]] [(fun (vs96 : Nat → Value) (v_ : Value) (rs_ : List Res) => v_ = (bptr b4 2) ∧ rs_ = []), (fun (vs96 : Nat → Value) (v_ : Value) (rs_ : List Res) => v_ = vr ∧ rs_ = []), (fun (vs96 : Nat → Value) (v_ : Value) (rs_ : List Res) => v_ = (Value.int .i64 (k1 : Int)) ∧ rs_ = []), (fun (vs96 : Nat → Value) (v_ : Value) (rs_ : List Res) => v_ = (eptr vr (k1 * 2)) ∧ rs_ = []), (fun (vs96 : Nat → Value) (v_ : Value) (rs_ : List Res) => v_ = (Value.agg #[(Value.int .i64 ((t.rows.getD k1 (0, 0)).1)), (Value.int .i64 ((t.rows.getD k1 (0, 0)).2))]) ∧ rs_ = []), (fun (vs96 : Nat → Value) (v_ : Value) (rs_ : List Res) => v_ = (bptr b4 2) ∧ rs_ = []), (fun (vs96 : Nat → Value) (v_ : Value) (rs_ : List Res) => v_ = vr ∧ rs_ = []), (fun (vs96 : Nat → Value) (v_ : Value) (rs_ : List Res) => v_ = (Value.int .i64 (k1 : Int)) ∧ rs_ = []), (fun (vs96 : Nat → Value) (v_ : Value) (rs_ : List Res) => v_ = (Value.int .i64 ((k1 : Int) + 1)) ∧ rs_ = []), (fun (vs96 : Nat → Value) (v_ : Value) (rs_ : List Res) => v_ = (eptr vr ((k1 + 1) * 2)) ∧ rs_ = []), (fun (vs96 : Nat → Value) (v_ : Value) (rs_ : List Res) => v_ = (Value.agg #[(Value.int .i64 ((t.rows.getD (k1 + 1) (0, 0)).1)), (Value.int .i64 ((t.rows.getD (k1 + 1) (0, 0)).2))]) ∧ rs_ = []), (fun (vs96 : Nat → Value) (v_ : Value) (rs_ : List Res) => ∃ (b11_ : Nat), v_ = (bptr b11_ 0) ∧ rs_ = [(blk b11_ 75 [(Value.int .i64 0), (Value.int .i64 0)])]), (fun (vs96 : Nat → Value) (v_ : Value) (rs_ : List Res) => ∃ (b12_ : Nat), v_ = (bptr b12_ 0) ∧ rs_ = [(blk b12_ 75 [(Value.int .i64 0), (Value.int .i64 0)])]), (fun (vs96 : Nat → Value) (v_ : Value) (rs_ : List Res) => ∃ (bf13_ : Nat), (vs96 11) = (bptr bf13_ 0) ∧ rs_ = [(blk bf13_ 75 [(Value.int .i64 ((t.rows.getD k1 (0, 0)).1)), (Value.int .i64 ((t.rows.getD k1 (0, 0)).2))])])] (by decide +kernel) (by decide +kernel) (by decide +kernel) (by decide +kernel) rfl rfl ⟨(fun _ _ _ _ _ h_ => h_), (fun _ _ _ _ _ h_ => h_), (fun _ _ _ _ _ h_ => h_), (fun _ _ _ _ _ h_ => h_), (fun _ _ _ _ _ h_ => h_), (fun _ _ _ _ _ h_ => h_), (fun _ _ _ _ _ h_ => h_), (fun _ _ _ _ _ h_ => h_), (fun _ _ _ _ _ h_ => h_), (fun _ _ _ _ _ h_ => h_), (fun _ _ _ _ _ h_ => h_), (fun _ _ _ _ _ h_ => h_), (fun _ _ _ _ _ h_ => h_), (fun _ _ _ _ he_ h_ => by dsimp only at h_ ⊢; rw [← he_ 11 (by decide)]; exact h_), trivial⟩ (by decide +kernel) ?_ ?_ ?_
   ·skip
    refine ⟨fun hj_ a w vs96 hA hS hd => ?_, ?_⟩
    ·skip
     exact opG_of rfl (vv (op_field rfl fd_46_2 (hA.ev rfl)) (And.intro rfl rfl))
    refine ⟨fun hj_ a w vs96 hA hS hd => ?_, ?_⟩
    ·skip
     obtain ⟨e0, rs0, hy0, hp0⟩ := hd 0 (by decide)
     obtain ⟨hv0, hr0⟩ := hy0; subst hr0
     rw [hv0] at e0
     exact opG_of rfl (vv (op_load1 rfl ty_43 (tmp_ev (slot_ev e0 rfl)) (hS.bk 1 rfl) rfl) (And.intro rfl rfl))
    refine ⟨fun hj_ a w vs96 hA hS hd => ?_, ?_⟩
    ·skip
     exact opG_of rfl (vv (op_move rfl (hA.ev rfl)) (And.intro rfl rfl))
    refine ⟨fun hj_ a w vs96 hA hS hd => ?_, ?_⟩
    ·skip
     obtain ⟨e1, rs1, hy1, hp1⟩ := hd 1 (by decide)
     obtain ⟨hv1, hr1⟩ := hy1; subst hr1
     rw [hv1] at e1
     obtain ⟨e2, rs2, hy2, hp2⟩ := hd 2 (by decide)
     obtain ⟨hv2, hr2⟩ := hy2; subst hr2
     rw [hv2] at e2
     exact opG_of rfl (vv (op_indexS rfl un_43 ty_75 (tmp_ev (slot_ev e1 rfl)) (i := k1) (tmp_ev (slot_ev e2 rfl)) (hS.sk 2 rfl) (by decide) (by omega)) (And.intro rfl rfl))
    refine ⟨fun hj_ a w vs96 hA hS hd => ?_, ?_⟩
    ·skip
     obtain ⟨e3, rs3, hy3, hp3⟩ := hd 3 (by decide)
     obtain ⟨hv3, hr3⟩ := hy3; subst hr3
     rw [hv3] at e3
     exact opG_of rfl (vv (op_loadAE rfl ty_75 (tmp_ev (slot_ev e3 rfl)) (hS.sk 2 rfl) (pairs_all (by omega)) rfl (by decide)) (And.intro rfl rfl))
    refine ⟨fun hj_ a w vs96 hA hS hd => ?_, ?_⟩
    ·skip
     exact opG_of rfl (vv (op_field rfl fd_46_2 (hA.ev rfl)) (And.intro rfl rfl))
    refine ⟨fun hj_ a w vs96 hA hS hd => ?_, ?_⟩
    ·skip
     obtain ⟨e5, rs5, hy5, hp5⟩ := hd 5 (by decide)
     obtain ⟨hv5, hr5⟩ := hy5; subst hr5
     rw [hv5] at e5
     exact opG_of rfl (vv (op_load1 rfl ty_43 (tmp_ev (slot_ev e5 rfl)) (hS.bk 1 rfl) rfl) (And.intro rfl rfl))
    refine ⟨fun hj_ a w vs96 hA hS hd => ?_, ?_⟩
    ·skip
     exact opG_of rfl (vv (op_move rfl (hA.ev rfl)) (And.intro rfl rfl))
    refine ⟨fun hj_ a w vs96 hA hS hd => ?_, ?_⟩
    ·skip
     obtain ⟨e7, rs7, hy7, hp7⟩ := hd 7 (by decide)
     obtain ⟨hv7, hr7⟩ := hy7; subst hr7
     rw [hv7] at e7
     exact opG_of rfl (vv (op_add rfl (tmp_ev (slot_ev e7 rfl)) (evc _ _) (by omega) (by omega)) (And.intro rfl rfl))
    refine ⟨fun hj_ a w vs96 hA hS hd => ?_, ?_⟩
    ·skip
     obtain ⟨e6, rs6, hy6, hp6⟩ := hd 6 (by decide)
     obtain ⟨hv6, hr6⟩ := hy6; subst hr6
     rw [hv6] at e6
     obtain ⟨e8, rs8, hy8, hp8⟩ := hd 8 (by decide)
     obtain ⟨hv8, hr8⟩ := hy8; subst hr8
     rw [hv8] at e8
     exact opG_of rfl (vv (op_indexS rfl un_43 ty_75 (tmp_ev (slot_ev e6 rfl)) (i := k1 + 1) ((tmp_ev (slot_ev e8 rfl)).trans (congrArg (Value.int .i64) (show ((k1 : Int) + 1 : Int) = ((k1 + 1 : Nat) : Int) by omega))) (hS.sk 2 rfl) (by decide) (by omega)) (And.intro rfl rfl))
    refine ⟨fun hj_ a w vs96 hA hS hd => ?_, ?_⟩
    ·skip
     obtain ⟨e9, rs9, hy9, hp9⟩ := hd 9 (by decide)
     obtain ⟨hv9, hr9⟩ := hy9; subst hr9
     rw [hv9] at e9
     exact opG_of rfl (vv (op_loadAE rfl ty_75 (tmp_ev (slot_ev e9 rfl)) (hS.sk 2 rfl) (pairs_all (by omega)) rfl (by decide)) (And.intro rfl rfl))
    refine ⟨fun hj_ a w vs96 hA hS hd => ?_, ?_⟩
    ·skip
     exact opG_of rfl (valloc rfl ze_75 (cs := [(Value.int .i64 0), (Value.int .i64 0)]) rfl (fun b_ => ⟨b_, rfl, rfl⟩))
    refine ⟨fun hj_ a w vs96 hA hS hd => ?_, ?_⟩
    ·skip
     exact opG_of rfl (valloc rfl ze_75 (cs := [(Value.int .i64 0), (Value.int .i64 0)]) rfl (fun b_ => ⟨b_, rfl, rfl⟩))
    refine ⟨fun hj_ => absurd hj_ (by decide), ?_⟩
    trivial
   ·skip
    refine ⟨fun o_ ho_ => ?_, ?_⟩
    ·skip
     obtain rfl := Option.some.inj ho_; clear ho_
     intro a w vs96 rs0 Lr hA hs0 hy0 hd hL hS
     obtain ⟨b11_, hv11, hr11⟩ := hy0; subst hr11
     rw [hv11] at hs0
     obtain ⟨e4, rs4, hy4, hp4⟩ := hd 4 (by decide) (by decide)
     obtain ⟨hv4, hr4⟩ := hy4; subst hr4
     rw [hv4] at e4
     exact opG_of rfl (opY_mono (op_store hS rfl ty_75 (tmp_ev (slot_ev hs0 rfl)) (tmp_ev (slot_ev e4 rfl)) (i := 0) rfl (vs := [(Value.int .i64 ((t.rows.getD k1 (0, 0)).1)), (Value.int .i64 ((t.rows.getD k1 (0, 0)).2))]) rfl rfl rfl (Nat.le_of_ble_eq_true rfl)) fun v_ w_ h_ => ⟨_, ⟨_, hv11, rfl⟩, h_⟩)
    trivial
   ·skip
    intro a97 w98 vs96 rsf102 hA99 hsl_ hH101 hrq hS100; clear hA95 hS80
    have hrq_11 := hrq (13, 11) (by decide)
    obtain ⟨hs_0, hy_0⟩ := hH101 0 (by decide) (by decide)
    obtain ⟨hv_0, hr_0⟩ := hy_0
    obtain ⟨hs_1, hy_1⟩ := hH101 1 (by decide) (by decide)
    obtain ⟨hv_1, hr_1⟩ := hy_1
    obtain ⟨hs_2, hy_2⟩ := hH101 2 (by decide) (by decide)
    obtain ⟨hv_2, hr_2⟩ := hy_2
    obtain ⟨hs_3, hy_3⟩ := hH101 3 (by decide) (by decide)
    obtain ⟨hv_3, hr_3⟩ := hy_3
    obtain ⟨hs_4, hy_4⟩ := hH101 4 (by decide) (by decide)
    obtain ⟨hv_4, hr_4⟩ := hy_4
    obtain ⟨hs_5, hy_5⟩ := hH101 5 (by decide) (by decide)
    obtain ⟨hv_5, hr_5⟩ := hy_5
    obtain ⟨hs_6, hy_6⟩ := hH101 6 (by decide) (by decide)
    obtain ⟨hv_6, hr_6⟩ := hy_6
    obtain ⟨hs_7, hy_7⟩ := hH101 7 (by decide) (by decide)
    obtain ⟨hv_7, hr_7⟩ := hy_7
    obtain ⟨hs_8, hy_8⟩ := hH101 8 (by decide) (by decide)
    obtain ⟨hv_8, hr_8⟩ := hy_8
    obtain ⟨hs_9, hy_9⟩ := hH101 9 (by decide) (by decide)
    obtain ⟨hv_9, hr_9⟩ := hy_9
    obtain ⟨hs_10, hy_10⟩ := hH101 10 (by decide) (by decide)
    obtain ⟨hv_10, hr_10⟩ := hy_10
    obtain ⟨hs_12, hy_12⟩ := hH101 12 (by decide) (by decide)
    obtain ⟨b12_, hv_12, hr_12⟩ := hy_12
    obtain ⟨hs_13, hy_13⟩ := hH101 13 (by decide) (by decide)
    obtain ⟨bf13_, hv_13, hr_13⟩ := hy_13
    have hS103 : Sep NoB w w98 [(blk b12_ 75 [(Value.int .i64 0), (Value.int .i64 0)]), (blk bf13_ 75 [(Value.int .i64 ((t.rows.getD k1 (0, 0)).1)), (Value.int .i64 ((t.rows.getD k1 (0, 0)).2))]), (blk b9 27 [(Value.int .i64 0), (Value.int .i64 0)]), (blk b4 46 [(Value.int .i64 t.frm), (Value.int .i64 t.dst), vr, vb, (Value.int .i64 t.err)]), (sl vr 2 t.rows.length (pairs t.rows)), (sl vb 1 t.brk.length (ints t.brk))] := by rw [show catR rsf102 0 14 = ([(blk b12_ 75 [(Value.int .i64 0), (Value.int .i64 0)]), (blk bf13_ 75 [(Value.int .i64 ((t.rows.getD k1 (0, 0)).1)), (Value.int .i64 ((t.rows.getD k1 (0, 0)).2))])] : List Res) by (try simp only [catR, hr_0, hr_1, hr_2, hr_3, hr_4, hr_5, hr_6, hr_7, hr_8, hr_9, hr_10, hr_12, hr_13, hrq_11]); (try rfl)] at hS100; exact hS100
    rw [hv_10] at hs_10
    have hA104 : Fr 104 [] [(58, (Value.agg #[(Value.int .i64 ((t.rows.getD (k1 + 1) (0, 0)).1)), (Value.int .i64 ((t.rows.getD (k1 + 1) (0, 0)).2))])), (7, (Value.int .i64 (k1 : Int))), (4, (bptr b9 0)), (2, (bptr b4 0)), (1, (Value.int .i64 x))] a97 := hA99.add (slot_ev hs_10 rfl); clear hA99
    rw [hv_12] at hs_12
    have hA105 : Fr 104 [] [(9, (bptr b12_ 0)), (58, (Value.agg #[(Value.int .i64 ((t.rows.getD (k1 + 1) (0, 0)).1)), (Value.int .i64 ((t.rows.getD (k1 + 1) (0, 0)).2))])), (7, (Value.int .i64 (k1 : Int))), (4, (bptr b9 0)), (2, (bptr b4 0)), (1, (Value.int .i64 x))] a97 := hA104.add (slot_ev hs_12 rfl); clear hA104
    have hf_11 := hsl_ 11 (by decide); rw [hv_13] at hf_11
    have hA106 : Fr 104 [] [(8, (bptr bf13_ 0)), (9, (bptr b12_ 0)), (58, (Value.agg #[(Value.int .i64 ((t.rows.getD (k1 + 1) (0, 0)).1)), (Value.int .i64 ((t.rows.getD (k1 + 1) (0, 0)).2))])), (7, (Value.int .i64 (k1 : Int))), (4, (bptr b9 0)), (2, (bptr b4 0)), (1, (Value.int .i64 x))] a97 := hA105.add (slot_ev hf_11 rfl); clear hA105
    clear hsl_ hf_11
    clear hH101 hS100 hs_0 hs_1 hs_2 hs_3 hs_4 hs_5 hs_6 hs_7 hs_8 hs_9 hs_10 hs_12 hs_13 hrq hrq_11
    clear hr_0
    clear hv_0
    clear hr_1
    clear hv_1
    clear hr_2
    clear hv_2
    clear hr_3
    clear hv_3
    clear hr_4
    clear hv_4
    clear hr_5
    clear hv_5
    clear hr_6
    clear hv_6
    clear hr_7
    clear hv_7
    clear hr_8
    clear hv_8
    clear hr_9
    clear hv_9
    clear hr_10
    clear hv_10
    clear hr_12
    clear hv_12
    clear hr_13
    clear hv_13
    refine s7 hA106 (op_store hS103 rfl ty_75 (hA106.ev rfl) (hA106.ev rfl) (i := 0) rfl (vs := [(Value.int .i64 ((t.rows.getD (k1 + 1) (0, 0)).1)), (Value.int .i64 ((t.rows.getD (k1 + 1) (0, 0)).2))]) rfl rfl rfl (Nat.le_of_ble_eq_true rfl)) ?_
    intro _ w107 hS108 hA109; clear hA106
    have hS110 : Sep NoB w w107 [(blk b12_ 75 [(Value.int .i64 ((t.rows.getD (k1 + 1) (0, 0)).1)), (Value.int .i64 ((t.rows.getD (k1 + 1) (0, 0)).2))]), (blk bf13_ 75 [(Value.int .i64 ((t.rows.getD k1 (0, 0)).1)), (Value.int .i64 ((t.rows.getD k1 (0, 0)).2))]), (blk b9 27 [(Value.int .i64 0), (Value.int .i64 0)]), (blk b4 46 [(Value.int .i64 t.frm), (Value.int .i64 t.dst), vr, vb, (Value.int .i64 t.err)]), (sl vr 2 t.rows.length (pairs t.rows)), (sl vb 1 t.brk.length (ints t.brk))] := hS108; clear hS108 hS103
    refine n4 ?_
    refine s1 hA109 (op_move rfl (hA109.ev rfl)) fun a111 hA112 => ?_; clear hA109 a97
    refine s1 hA112 (op_field rfl fd_75_0 (hA112.ev rfl)) fun a113 hA114 => ?_; clear hA112 a111
    refine s1 hA114 (op_load1 rfl ty_3 (hA114.ev rfl) (hS110.bk 1 rfl) rfl) fun a115 hA116 => ?_; clear hA114 a113
    refine s1 hA116 (op_gtr rfl (hA116.ev rfl) (hA116.ev rfl)) fun a117 hA118 => ?_; clear hA116 a115
    refine s1 hA118 (op_move rfl (hA118.ev rfl)) fun a119 hA120 => ?_; clear hA118 a117
    by_cases hb121 : ((t.rows.getD k1 (0, 0)).1) < x
    ·skip
     rw [decide_eq_true hb121] at hA120
     refine s5 hA120 (op_move rfl (hA120.ev rfl)) fun a122 hA123 => ?_; clear hA120 a119
     refine s5 hA123 (op_field rfl fd_75_0 (hA123.ev rfl)) fun a124 hA125 => ?_; clear hA123 a122
     refine s5 hA125 (op_load1 rfl ty_3 (hA125.ev rfl) (hS110.bk 0 rfl) rfl) fun a126 hA127 => ?_; clear hA125 a124
     refine s5 hA127 (op_lss rfl (hA127.ev rfl) (hA127.ev rfl)) fun a128 hA129 => ?_; clear hA127 a126
     refine s1 hA129 (op_pick_t rfl (hA129.ev rfl) (hA129.ev rfl)) fun a130 hA131 => ?_; clear hA129 a128
     refine s1 hA131 (op_move rfl (hA131.ev rfl)) fun a132 hA133 => ?_; clear hA131 a130
     by_cases hb134 : x < ((t.rows.getD (k1 + 1) (0, 0)).1)
     ·skip
      rw [decide_eq_true hb134] at hA133
      have hpb := piece_bds (v := x) (k := k1) hV (by omega) (by unfold tx; omega) (by unfold tx; omega); unfold pieceN pieceD tx ty at hpb; have hcn := hV.bnd k1 (by omega); have hcn1 := hV.bnd (k1 + 1) (by omega); unfold tx ty at hcn hcn1; have hdb := downF_bd hpb.1 hpb.2; have hub := upF_bd hpb.1 hpb.2
      refine s5 hA133 (op_loadA rfl ty_46 (hA133.ev rfl) (hS110.bk 3 rfl) (l := [(Value.int .i64 t.frm), (Value.int .i64 t.dst), vr, vb, (Value.int .i64 t.err)]) rfl rfl) fun a135 hA136 => ?_; clear hA133 a132
      refine s5 hA136 (op_move rfl (hA136.ev rfl)) fun a137 hA138 => ?_; clear hA136 a135
      refine s6 hA138 (op_call rfl en_54 (ev2 (hA138.ev rfl) (hA138.ev rfl)) (broken_ok (k1 : Int) t _ _ _ (hS110.sk 4 rfl) (hS110.sk 5 rfl) (by omega) (by omega))) ?_
      rintro a139 _ w141 ⟨rfl, hE142⟩ hA140; have hS143 := hS110.step hE142; clear hE142 hA138 hS110 a137
      refine s5 hA140 (op_not rfl (hA140.ev rfl)) fun a144 hA145 => ?_; clear hA140 a139
      refine s1 hA145 (op_pick_t rfl (hA145.ev rfl) (hA145.ev rfl)) fun a146 hA147 => ?_; clear hA145 a144
      refine n1 ?_
      by_cases hb148 : (k1 : Int) ∈ t.brk
      ·skip
       rw [decide_eq_true hb148] at hA147
       refine c_false hA147 rfl ?_
       refine c_skip ?_
       refine blk_n ?_
       refine then_n ?_
       have hA149 := hA147.as [(7, (Value.int .i64 (k1 : Int))), (4, (bptr b9 0)), (2, (bptr b4 0)), (1, (Value.int .i64 x))] rfl; clear hA147
       refine c_region ?_
       refine s1 hA149 (op_move rfl (hA149.ev rfl)) fun a150 hA151 => ?_; clear hA149 a146
       refine s1 hA151 (op_add rfl (hA151.ev rfl) (evc _ _) (by omega) (by omega)) fun a152 hA153 => ?_; clear hA151 a150
       refine s1 hA153 (op_assign rfl (hA153.ev rfl)) fun a154 hA155 => ?_; clear hA153 a152
       refine wl_nil ?_
       have hS156 : Sep NoB w w141 [(blk b9 27 [(Value.int .i64 0), (Value.int .i64 0)]), (blk b4 46 [(Value.int .i64 t.frm), (Value.int .i64 t.dst), vr, vb, (Value.int .i64 t.err)]), (sl vr 2 t.rows.length (pairs t.rows)), (sl vb 1 t.brk.length (ints t.brk))] := hS143.keep [2, 3, 4, 5] (by decide) _ rfl rfl; clear hS143
       exact then_n ⟨k1 + 1, ⟨hA155.as _ rfl, hS156, by omega, (fun i hi => by rcases Nat.lt_succ_iff_lt_or_eq.1 hi with h | h; exact hpc i h; subst h; first | exact piece_n (.inl (by assumption)) | exact piece_n (.inr (.inl (by assumption))) | exact piece_n (.inr (.inr (by assumption))))⟩, by omega⟩
      ·skip
       rw [decide_eq_false hb148] at hA147
       refine c_true hA147 rfl ?_
       refine c_seq ?_
       have hA157 := hA147.as [(8, (bptr bf13_ 0)), (9, (bptr b12_ 0)), (4, (bptr b9 0)), (1, (Value.int .i64 x))] rfl; clear hA147
       have hA158 := hA157.as [(8, (bptr bf13_ 0)), (9, (bptr b12_ 0)), (4, (bptr b9 0)), (1, (Value.int .i64 x))] rfl; clear hA157
       refine c_drawn mixed hA158 hS143 16 [[], [], [1], [0, 2], [], [4], [], [6], [5, 7], [3, 8], [], [10], [], [12], [11, 13], [9]] [(Yd.val (Value.int .i64 x)), (Yd.val (bptr bf13_ 0)), (Yd.val (Value.int .i64 ((t.rows.getD k1 (0, 0)).1))), (Yd.val (Value.int .i64 (x - ((t.rows.getD k1 (0, 0)).1)))), (Yd.val (bptr b12_ 1)), (Yd.val (Value.int .i64 ((t.rows.getD (k1 + 1) (0, 0)).2))), (Yd.val (bptr bf13_ 1)), (Yd.val (Value.int .i64 ((t.rows.getD k1 (0, 0)).2))), (Yd.val (Value.int .i64 (((t.rows.getD (k1 + 1) (0, 0)).2) - ((t.rows.getD k1 (0, 0)).2)))), (Yd.val (Value.int .i64 ((x - ((t.rows.getD k1 (0, 0)).1)) * (((t.rows.getD (k1 + 1) (0, 0)).2) - ((t.rows.getD k1 (0, 0)).2))))), (Yd.val (bptr b12_ 0)), (Yd.val (Value.int .i64 ((t.rows.getD (k1 + 1) (0, 0)).1))), (Yd.val (bptr bf13_ 0)), (Yd.val (Value.int .i64 ((t.rows.getD k1 (0, 0)).1))), (Yd.val (Value.int .i64 (((t.rows.getD (k1 + 1) (0, 0)).1) - ((t.rows.getD k1 (0, 0)).1)))), (Yd.val (Value.int .i64 ((x - ((t.rows.getD k1 (0, 0)).1)) * (((t.rows.getD (k1 + 1) (0, 0)).2) - ((t.rows.getD k1 (0, 0)).2)))))] (by decide +kernel) rfl rfl ?_ ?_
       ·skip
        refine dq (fun a w hA hS hd => op_move rfl (hA.ev rfl)) ?_
        refine dq (fun a w hA hS hd => op_field rfl fd_75_0 (hA.ev rfl)) ?_
        refine dq (fun a w hA hS hd => op_load1 rfl ty_3 (hq hd 1) (hS.bk 1 rfl) rfl) ?_
        refine dq (fun a w hA hS hd => op_sub rfl (hq hd 0) (hq hd 2) (by omega) (by omega)) ?_
        refine dq (fun a w hA hS hd => op_field rfl fd_75_1 (hA.ev rfl)) ?_
        refine dq (fun a w hA hS hd => op_load1 rfl ty_3 (hq hd 4) (hS.bk 0 rfl) rfl) ?_
        refine dq (fun a w hA hS hd => op_field rfl fd_75_1 (hA.ev rfl)) ?_
        refine dq (fun a w hA hS hd => op_load1 rfl ty_3 (hq hd 6) (hS.bk 1 rfl) rfl) ?_
        refine dq (fun a w hA hS hd => op_sub rfl (hq hd 5) (hq hd 7) (by omega) (by omega)) ?_
        refine dq (fun a w hA hS hd => op_mul rfl (hq hd 3) (hq hd 8) (by omega) (by omega)) ?_
        refine dq (fun a w hA hS hd => op_field rfl fd_75_0 (hA.ev rfl)) ?_
        refine dq (fun a w hA hS hd => op_load1 rfl ty_3 (hq hd 10) (hS.bk 0 rfl) rfl) ?_
        refine dq (fun a w hA hS hd => op_field rfl fd_75_0 (hA.ev rfl)) ?_
        refine dq (fun a w hA hS hd => op_load1 rfl ty_3 (hq hd 12) (hS.bk 1 rfl) rfl) ?_
        refine dq (fun a w hA hS hd => op_sub rfl (hq hd 11) (hq hd 13) (by omega) (by omega)) ?_
        refine dq (fun a w hA hS hd => op_assign rfl (hq hd 9)) ?_
        trivial
       intro a160 w161 hA162 hS163 hH164; clear hA158 hS143
       have hA165 := hA162.add (hz hH164 14); clear hA162
       have hA166 := hA165.add (hz hH164 15); clear hA165
       clear hH164
       refine s1 hA166 (op_assign rfl (hA166.ev rfl)) fun a167 hA168 => ?_; clear hA166 a160
       refine n2 ?_
       have hA169 := hA168.as [(11, (Value.int .i64 (((t.rows.getD (k1 + 1) (0, 0)).1) - ((t.rows.getD k1 (0, 0)).1)))), (10, (Value.int .i64 ((x - ((t.rows.getD k1 (0, 0)).1)) * (((t.rows.getD (k1 + 1) (0, 0)).2) - ((t.rows.getD k1 (0, 0)).2))))), (8, (bptr bf13_ 0)), (4, (bptr b9 0))] rfl; clear hA168
       refine c_drawn mixed hA169 hS163 12 [[], [0], [], [], [2, 3], [1, 4], [], [6], [], [], [8, 9], [7, 10]] [(Yd.val (bptr bf13_ 1)), (Yd.val (Value.int .i64 ((t.rows.getD k1 (0, 0)).2))), (Yd.val (Value.int .i64 ((x - ((t.rows.getD k1 (0, 0)).1)) * (((t.rows.getD (k1 + 1) (0, 0)).2) - ((t.rows.getD k1 (0, 0)).2))))), (Yd.val (Value.int .i64 (((t.rows.getD (k1 + 1) (0, 0)).1) - ((t.rows.getD k1 (0, 0)).1)))), (Yd.val (Value.int .i64 (downF ((x - ((t.rows.getD k1 (0, 0)).1)) * (((t.rows.getD (k1 + 1) (0, 0)).2) - ((t.rows.getD k1 (0, 0)).2))) (((t.rows.getD (k1 + 1) (0, 0)).1) - ((t.rows.getD k1 (0, 0)).1))))), (Yd.val (Value.int .i64 (((t.rows.getD k1 (0, 0)).2) + (downF ((x - ((t.rows.getD k1 (0, 0)).1)) * (((t.rows.getD (k1 + 1) (0, 0)).2) - ((t.rows.getD k1 (0, 0)).2))) (((t.rows.getD (k1 + 1) (0, 0)).1) - ((t.rows.getD k1 (0, 0)).1)))))), (Yd.val (bptr bf13_ 1)), (Yd.val (Value.int .i64 ((t.rows.getD k1 (0, 0)).2))), (Yd.val (Value.int .i64 ((x - ((t.rows.getD k1 (0, 0)).1)) * (((t.rows.getD (k1 + 1) (0, 0)).2) - ((t.rows.getD k1 (0, 0)).2))))), (Yd.val (Value.int .i64 (((t.rows.getD (k1 + 1) (0, 0)).1) - ((t.rows.getD k1 (0, 0)).1)))), (Yd.val (Value.int .i64 (upF ((x - ((t.rows.getD k1 (0, 0)).1)) * (((t.rows.getD (k1 + 1) (0, 0)).2) - ((t.rows.getD k1 (0, 0)).2))) (((t.rows.getD (k1 + 1) (0, 0)).1) - ((t.rows.getD k1 (0, 0)).1))))), (Yd.val (Value.int .i64 (((t.rows.getD k1 (0, 0)).2) + (upF ((x - ((t.rows.getD k1 (0, 0)).1)) * (((t.rows.getD (k1 + 1) (0, 0)).2) - ((t.rows.getD k1 (0, 0)).2))) (((t.rows.getD (k1 + 1) (0, 0)).1) - ((t.rows.getD k1 (0, 0)).1))))))] (by decide +kernel) rfl rfl ?_ ?_
       ·skip
        refine dq (fun a w hA hS hd => op_field rfl fd_75_1 (hA.ev rfl)) ?_
        refine dq (fun a w hA hS hd => op_load1 rfl ty_3 (hq hd 0) (hS.bk 1 rfl) rfl) ?_
        refine dq (fun a w hA hS hd => op_move rfl (hA.ev rfl)) ?_
        refine dq (fun a w hA hS hd => op_move rfl (hA.ev rfl)) ?_
        refine ⟨fun a w hA hS hd => by have e2 := hx hd 2; have e3 := hx hd 3; exact opG_of rfl (dx (op_call rfl en_81 (ev2 (tmp_ev e2) (tmp_ev e3)) (rdown_ok _ _ _ (by omega) (by omega))) hS (fun _ => rfl)), ?_⟩
        refine dq (fun a w hA hS hd => op_add rfl (hq hd 1) (hq hd 4) (by omega) (by omega)) ?_
        refine dq (fun a w hA hS hd => op_field rfl fd_75_1 (hA.ev rfl)) ?_
        refine dq (fun a w hA hS hd => op_load1 rfl ty_3 (hq hd 6) (hS.bk 1 rfl) rfl) ?_
        refine dq (fun a w hA hS hd => op_move rfl (hA.ev rfl)) ?_
        refine dq (fun a w hA hS hd => op_move rfl (hA.ev rfl)) ?_
        refine ⟨fun a w hA hS hd => by have e8 := hx hd 8; have e9 := hx hd 9; exact opG_of rfl (dx (op_call rfl en_82 (ev2 (tmp_ev e8) (tmp_ev e9)) (rup_ok _ _ _ (by omega) (by omega))) hS (fun _ => rfl)), ?_⟩
        refine dq (fun a w hA hS hd => op_add rfl (hq hd 7) (hq hd 10) (by omega) (by omega)) ?_
        trivial
       intro a171 w172 hA173 hS174 hH175; clear hA169 hS163
       have hA176 := hA173.add (hz hH175 5); clear hA173
       have hA177 := hA176.add (hz hH175 11); clear hA176
       clear hH175
       refine s1 hA177 (op_build rfl (pv2 (hA177.ev rfl) (hA177.ev rfl)) (bd_27_0i_1i _ _)) fun a178 hA179 => ?_; clear hA177 a171
       refine s7 hA179 (op_store hS174 rfl ty_27 (hA179.ev rfl) (hA179.ev rfl) (i := 2) rfl (vs := [(Value.int .i64 (((t.rows.getD k1 (0, 0)).2) + (downF ((x - ((t.rows.getD k1 (0, 0)).1)) * (((t.rows.getD (k1 + 1) (0, 0)).2) - ((t.rows.getD k1 (0, 0)).2))) (((t.rows.getD (k1 + 1) (0, 0)).1) - ((t.rows.getD k1 (0, 0)).1))))), (Value.int .i64 (((t.rows.getD k1 (0, 0)).2) + (upF ((x - ((t.rows.getD k1 (0, 0)).1)) * (((t.rows.getD (k1 + 1) (0, 0)).2) - ((t.rows.getD k1 (0, 0)).2))) (((t.rows.getD (k1 + 1) (0, 0)).1) - ((t.rows.getD k1 (0, 0)).1)))))]) rfl rfl rfl (Nat.le_of_ble_eq_true rfl)) ?_
       intro _ w180 hS181 hA182; clear hA179
       have hS183 : Sep NoB w w180 [(blk b12_ 75 [(Value.int .i64 ((t.rows.getD (k1 + 1) (0, 0)).1)), (Value.int .i64 ((t.rows.getD (k1 + 1) (0, 0)).2))]), (blk bf13_ 75 [(Value.int .i64 ((t.rows.getD k1 (0, 0)).1)), (Value.int .i64 ((t.rows.getD k1 (0, 0)).2))]), (blk b9 27 [(Value.int .i64 (((t.rows.getD k1 (0, 0)).2) + (downF ((x - ((t.rows.getD k1 (0, 0)).1)) * (((t.rows.getD (k1 + 1) (0, 0)).2) - ((t.rows.getD k1 (0, 0)).2))) (((t.rows.getD (k1 + 1) (0, 0)).1) - ((t.rows.getD k1 (0, 0)).1))))), (Value.int .i64 (((t.rows.getD k1 (0, 0)).2) + (upF ((x - ((t.rows.getD k1 (0, 0)).1)) * (((t.rows.getD (k1 + 1) (0, 0)).2) - ((t.rows.getD k1 (0, 0)).2))) (((t.rows.getD (k1 + 1) (0, 0)).1) - ((t.rows.getD k1 (0, 0)).1)))))]), (blk b4 46 [(Value.int .i64 t.frm), (Value.int .i64 t.dst), vr, vb, (Value.int .i64 t.err)]), (sl vr 2 t.rows.length (pairs t.rows)), (sl vb 1 t.brk.length (ints t.brk))] := hS181; clear hS181 hS174
       refine s1 hA182 (op_assign rfl (evc _ _)) fun a184 hA185 => ?_; clear hA182 a178
       refine n1 ?_
       refine c_ret ?_
       refine blk_ret ?_
       refine then_ret ?_
       refine then_ret ?_
       refine blk_ret ?_
       refine then_ret ?_
       refine fin_run hA185 (.inl rfl) (run_results2 hA185 rfl (.cellA rfl ty_27 (hS183.bk 2 rfl) (l := [(Value.int .i64 (((t.rows.getD k1 (0, 0)).2) + (downF ((x - ((t.rows.getD k1 (0, 0)).1)) * (((t.rows.getD (k1 + 1) (0, 0)).2) - ((t.rows.getD k1 (0, 0)).2))) (((t.rows.getD (k1 + 1) (0, 0)).1) - ((t.rows.getD k1 (0, 0)).1))))), (Value.int .i64 (((t.rows.getD k1 (0, 0)).2) + (upF ((x - ((t.rows.getD k1 (0, 0)).1)) * (((t.rows.getD (k1 + 1) (0, 0)).2) - ((t.rows.getD k1 (0, 0)).2))) (((t.rows.getD (k1 + 1) (0, 0)).1) - ((t.rows.getD k1 (0, 0)).1)))))]) rfl rfl) (.tmp rfl)) ?_
       have hz := (made_piece (k := k1) (fun i hi => hrw i (by omega)) (by omega) hpc (piece_y (by assumption) (by assumption) (by assumption)))
       exact ⟨by unfold madeV; rw [hz]; rfl, hS183.ext⟩
     ·skip
      rw [decide_eq_false hb134] at hA133
      refine s3 hA133 fun a186 hA187 => ?_; clear hA133 a132
      refine s3 hA187 fun a188 hA189 => ?_; clear hA187 a186
      refine s3 hA189 fun a190 hA191 => ?_; clear hA189 a188
      refine s3 hA191 fun a192 hA193 => ?_; clear hA191 a190
      refine s1 hA193 (op_pick_f rfl (hA193.ev rfl) (evc _ _)) fun a194 hA195 => ?_; clear hA193 a192
      refine n1 ?_
      refine c_false hA195 rfl ?_
      refine c_skip ?_
      refine blk_n ?_
      refine then_n ?_
      have hA196 := hA195.as [(7, (Value.int .i64 (k1 : Int))), (4, (bptr b9 0)), (2, (bptr b4 0)), (1, (Value.int .i64 x))] rfl; clear hA195
      refine c_region ?_
      refine s1 hA196 (op_move rfl (hA196.ev rfl)) fun a197 hA198 => ?_; clear hA196 a194
      refine s1 hA198 (op_add rfl (hA198.ev rfl) (evc _ _) (by omega) (by omega)) fun a199 hA200 => ?_; clear hA198 a197
      refine s1 hA200 (op_assign rfl (hA200.ev rfl)) fun a201 hA202 => ?_; clear hA200 a199
      refine wl_nil ?_
      have hS203 : Sep NoB w w107 [(blk b9 27 [(Value.int .i64 0), (Value.int .i64 0)]), (blk b4 46 [(Value.int .i64 t.frm), (Value.int .i64 t.dst), vr, vb, (Value.int .i64 t.err)]), (sl vr 2 t.rows.length (pairs t.rows)), (sl vb 1 t.brk.length (ints t.brk))] := hS110.keep [2, 3, 4, 5] (by decide) _ rfl rfl; clear hS110
      exact then_n ⟨k1 + 1, ⟨hA202.as _ rfl, hS203, by omega, (fun i hi => by rcases Nat.lt_succ_iff_lt_or_eq.1 hi with h | h; exact hpc i h; subst h; first | exact piece_n (.inl (by assumption)) | exact piece_n (.inr (.inl (by assumption))) | exact piece_n (.inr (.inr (by assumption))))⟩, by omega⟩
    ·skip
     rw [decide_eq_false hb121] at hA120
     refine s3 hA120 fun a204 hA205 => ?_; clear hA120 a119
     refine s3 hA205 fun a206 hA207 => ?_; clear hA205 a204
     refine s3 hA207 fun a208 hA209 => ?_; clear hA207 a206
     refine s3 hA209 fun a210 hA211 => ?_; clear hA209 a208
     refine s1 hA211 (op_pick_f rfl (hA211.ev rfl) (evc _ _)) fun a212 hA213 => ?_; clear hA211 a210
     refine s1 hA213 (op_move rfl (hA213.ev rfl)) fun a214 hA215 => ?_; clear hA213 a212
     refine s3 hA215 fun a216 hA217 => ?_; clear hA215 a214
     refine s3 hA217 fun a218 hA219 => ?_; clear hA217 a216
     refine s3 hA219 fun a220 hA221 => ?_; clear hA219 a218
     refine s3 hA221 fun a222 hA223 => ?_; clear hA221 a220
     refine s1 hA223 (op_pick_f rfl (hA223.ev rfl) (evc _ _)) fun a224 hA225 => ?_; clear hA223 a222
     refine n1 ?_
     refine c_false hA225 rfl ?_
     refine c_skip ?_
     refine blk_n ?_
     refine then_n ?_
     have hA226 := hA225.as [(7, (Value.int .i64 (k1 : Int))), (4, (bptr b9 0)), (2, (bptr b4 0)), (1, (Value.int .i64 x))] rfl; clear hA225
     refine c_region ?_
     refine s1 hA226 (op_move rfl (hA226.ev rfl)) fun a227 hA228 => ?_; clear hA226 a224
     refine s1 hA228 (op_add rfl (hA228.ev rfl) (evc _ _) (by omega) (by omega)) fun a229 hA230 => ?_; clear hA228 a227
     refine s1 hA230 (op_assign rfl (hA230.ev rfl)) fun a231 hA232 => ?_; clear hA230 a229
     refine wl_nil ?_
     have hS233 : Sep NoB w w107 [(blk b9 27 [(Value.int .i64 0), (Value.int .i64 0)]), (blk b4 46 [(Value.int .i64 t.frm), (Value.int .i64 t.dst), vr, vb, (Value.int .i64 t.err)]), (sl vr 2 t.rows.length (pairs t.rows)), (sl vb 1 t.brk.length (ints t.brk))] := hS110.keep [2, 3, 4, 5] (by decide) _ rfl rfl; clear hS110
     exact then_n ⟨k1 + 1, ⟨hA232.as _ rfl, hS233, by omega, (fun i hi => by rcases Nat.lt_succ_iff_lt_or_eq.1 hi with h | h; exact hpc i h; subst h; first | exact piece_n (.inl (by assumption)) | exact piece_n (.inr (.inl (by assumption))) | exact piece_n (.inr (.inr (by assumption))))⟩, by omega⟩
  ·skip
   rw [decide_eq_false hb93] at hA92
   refine c_false hA92 rfl ?_
   refine c_exit ?_
   refine then_exit ?_
   refine then_exit ?_
   refine blk_hit ?_
   refine then_n ?_
   refine c_seq ?_
   have hA234 := hA92.as [(4, (bptr b9 0))] rfl; clear hA92
   refine c_region ?_
   refine s1 hA234 (op_build rfl pv0 bd_27_) fun a235 hA236 => ?_; clear hA234 a91
   refine s7 hA236 (op_store hS80 rfl ty_27 (hA236.ev rfl) (hA236.ev rfl) (i := 0) rfl (vs := [(Value.int .i64 0), (Value.int .i64 0)]) rfl rfl rfl (Nat.le_of_ble_eq_true rfl)) ?_
   intro _ w237 hS238 hA239; clear hA236
   have hS240 : Sep NoB w w237 [(blk b9 27 [(Value.int .i64 0), (Value.int .i64 0)]), (blk b4 46 [(Value.int .i64 t.frm), (Value.int .i64 t.dst), vr, vb, (Value.int .i64 t.err)]), (sl vr 2 t.rows.length (pairs t.rows)), (sl vb 1 t.brk.length (ints t.brk))] := hS238; clear hS238 hS80
   refine s1 hA239 (op_assign rfl (evc _ _)) fun a241 hA242 => ?_; clear hA239 a235
   refine n1 ?_
   refine c_ret ?_
   refine fin_run hA242 (.inl rfl) (run_results2 hA242 rfl (.cellA rfl ty_27 (hS240.bk 0 rfl) (l := [(Value.int .i64 0), (Value.int .i64 0)]) rfl rfl) (.tmp rfl)) ?_
   have hz := (made_no (fun i hi => hrw i (by omega)) (fun i hi => hpc i (by omega)))
   exact ⟨by unfold madeV; rw [hz]; rfl, hS240.ext⟩
theorem rconvert_ok (r1 r2 : Int) (t : TabD) (vr vb : Value) (w : World) (hr : SlAt w vr 2 t.rows.length (pairs t.rows)) (hb : SlAt w vb 1 t.brk.length (ints t.brk)) (hrl : t.rows.length ≤ 1000000) (hbl : t.brk.length ≤ 1000000) (n : Int) (hV : TabV n t) :
  Calls Try.prog 24 #[(Value.agg #[(Value.int .i64 t.frm), (Value.int .i64 t.dst), vr, vb, (Value.int .i64 t.err)]), (Value.agg #[(Value.int .i64 r1), (Value.int .i64 r2)])] w (Ret fun v w' => v = .agg #[.int .i64 (convF t (r1, r2)).1, .int .i64 (convF t (r1, r2)).2] ∧ Ext NoB w w') := by
 refine calls_enter Try.func24 rfl fun a0 hA0 => ?_
 replace hA0 : Fr 40 [] [(0, (Value.agg #[(Value.int .i64 t.frm), (Value.int .i64 t.dst), vr, vb, (Value.int .i64 t.err)])), (1, (Value.agg #[(Value.int .i64 r1), (Value.int .i64 r2)]))] a0 := hA0
 have hm1 := madeV_bd hV r1; have hm2 := madeV_bd hV r2; have her := hV.err
 have hS0 : Sep NoB w w [(sl vr 2 t.rows.length (pairs t.rows)), (sl vb 1 t.brk.length (ints t.brk))] := sep_ro ⟨rfl, hr, rfl, hb, trivial⟩
 refine m2 ?_
 refine s2 hA0 (op_box hS0 rfl (hA0.ev rfl) (cs := [(Value.int .i64 t.frm), (Value.int .i64 t.dst), vr, vb, (Value.int .i64 t.err)]) rfl) ?_
 rintro a1 _ w3 ⟨b4, rfl, hS5⟩ hA2; clear hA0 hS0 a0
 refine s2 hA2 (op_box hS5 rfl (hA2.ev rfl) (cs := [(Value.int .i64 r1), (Value.int .i64 r2)]) rfl) ?_
 rintro a6 _ w8 ⟨b9, rfl, hS10⟩ hA7; clear hA2 hS5 a1
 refine s2 hA7 (op_alloc hS10 rfl ze_27 (cs := [(Value.int .i64 0), (Value.int .i64 0)]) rfl) ?_
 rintro a11 _ w13 ⟨b14, rfl, hS15⟩ hA12; clear hA7 hS10 a6
 refine n4 ?_
 refine s1 hA12 (op_loadA rfl ty_46 (hA12.ev rfl) (hS15.bk 2 rfl) (l := [(Value.int .i64 t.frm), (Value.int .i64 t.dst), vr, vb, (Value.int .i64 t.err)]) rfl rfl) fun a16 hA17 => ?_; clear hA12 a11
 refine s1 hA17 (op_field rfl fd_27_0 (hA17.ev rfl)) fun a18 hA19 => ?_; clear hA17 a16
 refine s1 hA19 (op_load1 rfl ty_3 (hA19.ev rfl) (hS15.bk 1 rfl) rfl) fun a20 hA21 => ?_; clear hA19 a18
 refine s2 hA21 (op_call rfl en_55 (ev2 (hA21.ev rfl) (hA21.ev rfl)) (rmade_ok t _ _ _ (hS15.sk 3 rfl) (hS15.sk 4 rfl) (by omega) (by omega) _ hV r1)) ?_
 rintro a22 _ w24 ⟨rfl, hE25⟩ hA23; have hS26 := hS15.step hE25; clear hE25 hA21 hS15 a20
 refine s1 hA23 (op_move rfl (hA23.ev rfl)) fun a27 hA28 => ?_; clear hA23 a22
 refine s1 hA28 (op_extract rfl (hA28.ev rfl) rfl) fun a29 hA30 => ?_; clear hA28 a27
 refine s1 hA30 (op_extract rfl (hA30.ev rfl) rfl) fun a31 hA32 => ?_; clear hA30 a29
 refine s2 hA32 (op_alloc hS26 rfl ze_27 (cs := [(Value.int .i64 0), (Value.int .i64 0)]) rfl) ?_
 rintro a33 _ w35 ⟨b36, rfl, hS37⟩ hA34; clear hA32 hS26 a31
 refine s7 hA34 (op_store hS37 rfl ty_27 (hA34.ev rfl) (hA34.ev rfl) (i := 0) rfl (vs := [(Value.int .i64 ((madeV t r1).1)), (Value.int .i64 ((madeV t r1).2))]) rfl rfl rfl (Nat.le_of_ble_eq_true rfl)) ?_
 intro _ w38 hS39 hA40; clear hA34
 have hS41 : Sep NoB w w38 [(blk b36 27 [(Value.int .i64 ((madeV t r1).1)), (Value.int .i64 ((madeV t r1).2))]), (blk b14 27 [(Value.int .i64 0), (Value.int .i64 0)]), (blk b9 27 [(Value.int .i64 r1), (Value.int .i64 r2)]), (blk b4 46 [(Value.int .i64 t.frm), (Value.int .i64 t.dst), vr, vb, (Value.int .i64 t.err)]), (sl vr 2 t.rows.length (pairs t.rows)), (sl vb 1 t.brk.length (ints t.brk))] := hS39; clear hS39 hS37
 refine s1 hA40 (op_assign rfl (hA40.ev rfl)) fun a42 hA43 => ?_; clear hA40 a33
 refine n2 ?_
 have hA44 := hA43.as [(5, (bptr b36 0)), (4, (bptr b14 0)), (3, (bptr b9 0)), (2, (bptr b4 0))] rfl; clear hA43
 refine c_region ?_
 refine s1 hA44 (op_loadA rfl ty_46 (hA44.ev rfl) (hS41.bk 3 rfl) (l := [(Value.int .i64 t.frm), (Value.int .i64 t.dst), vr, vb, (Value.int .i64 t.err)]) rfl rfl) fun a45 hA46 => ?_; clear hA44 a42
 refine s1 hA46 (op_field rfl fd_27_1 (hA46.ev rfl)) fun a47 hA48 => ?_; clear hA46 a45
 refine s1 hA48 (op_load1 rfl ty_3 (hA48.ev rfl) (hS41.bk 2 rfl) rfl) fun a49 hA50 => ?_; clear hA48 a47
 refine s2 hA50 (op_call rfl en_55 (ev2 (hA50.ev rfl) (hA50.ev rfl)) (rmade_ok t _ _ _ (hS41.sk 4 rfl) (hS41.sk 5 rfl) (by omega) (by omega) _ hV r2)) ?_
 rintro a51 _ w53 ⟨rfl, hE54⟩ hA52; have hS55 := hS41.step hE54; clear hE54 hA50 hS41 a49
 refine s1 hA52 (op_move rfl (hA52.ev rfl)) fun a56 hA57 => ?_; clear hA52 a51
 refine s1 hA57 (op_extract rfl (hA57.ev rfl) rfl) fun a58 hA59 => ?_; clear hA57 a56
 refine s1 hA59 (op_extract rfl (hA59.ev rfl) rfl) fun a60 hA61 => ?_; clear hA59 a58
 refine s2 hA61 (op_alloc hS55 rfl ze_27 (cs := [(Value.int .i64 0), (Value.int .i64 0)]) rfl) ?_
 rintro a62 _ w64 ⟨b65, rfl, hS66⟩ hA63; clear hA61 hS55 a60
 refine s7 hA63 (op_store hS66 rfl ty_27 (hA63.ev rfl) (hA63.ev rfl) (i := 0) rfl (vs := [(Value.int .i64 ((madeV t r2).1)), (Value.int .i64 ((madeV t r2).2))]) rfl rfl rfl (Nat.le_of_ble_eq_true rfl)) ?_
 intro _ w67 hS68 hA69; clear hA63
 have hS70 : Sep NoB w w67 [(blk b65 27 [(Value.int .i64 ((madeV t r2).1)), (Value.int .i64 ((madeV t r2).2))]), (blk b36 27 [(Value.int .i64 ((madeV t r1).1)), (Value.int .i64 ((madeV t r1).2))]), (blk b14 27 [(Value.int .i64 0), (Value.int .i64 0)]), (blk b9 27 [(Value.int .i64 r1), (Value.int .i64 r2)]), (blk b4 46 [(Value.int .i64 t.frm), (Value.int .i64 t.dst), vr, vb, (Value.int .i64 t.err)]), (sl vr 2 t.rows.length (pairs t.rows)), (sl vb 1 t.brk.length (ints t.brk))] := hS68; clear hS68 hS66
 refine s1 hA69 (op_assign rfl (hA69.ev rfl)) fun a71 hA72 => ?_; clear hA69 a62
 refine n2 ?_
 have hA73 := hA72.as [(7, (bptr b65 0)), (5, (bptr b36 0)), (4, (bptr b14 0)), (2, (bptr b4 0))] rfl; clear hA72
 refine c_region ?_
 refine s1 hA73 (op_field rfl fd_27_0 (hA73.ev rfl)) fun a74 hA75 => ?_; clear hA73 a71
 refine s1 hA75 (op_load1 rfl ty_3 (hA75.ev rfl) (hS70.bk 1 rfl) rfl) fun a76 hA77 => ?_; clear hA75 a74
 refine s1 hA77 (op_field rfl fd_27_0 (hA77.ev rfl)) fun a78 hA79 => ?_; clear hA77 a76
 refine s1 hA79 (op_load1 rfl ty_3 (hA79.ev rfl) (hS70.bk 0 rfl) rfl) fun a80 hA81 => ?_; clear hA79 a78
 refine s1 hA81 (op_min rfl (hA81.ev rfl) (hA81.ev rfl)) fun a82 hA83 => ?_; clear hA81 a80
 refine s1 hA83 (op_field rfl fd_46_4 (hA83.ev rfl)) fun a84 hA85 => ?_; clear hA83 a82
 refine s1 hA85 (op_load1 rfl ty_3 (hA85.ev rfl) (hS70.bk 4 rfl) rfl) fun a86 hA87 => ?_; clear hA85 a84
 refine s1 hA87 (op_sub rfl (hA87.ev rfl) (hA87.ev rfl) (by omega) (by omega)) fun a88 hA89 => ?_; clear hA87 a86
 refine s1 hA89 (op_field rfl fd_27_1 (hA89.ev rfl)) fun a90 hA91 => ?_; clear hA89 a88
 refine s1 hA91 (op_load1 rfl ty_3 (hA91.ev rfl) (hS70.bk 1 rfl) rfl) fun a92 hA93 => ?_; clear hA91 a90
 refine s1 hA93 (op_field rfl fd_27_1 (hA93.ev rfl)) fun a94 hA95 => ?_; clear hA93 a92
 refine s1 hA95 (op_load1 rfl ty_3 (hA95.ev rfl) (hS70.bk 0 rfl) rfl) fun a96 hA97 => ?_; clear hA95 a94
 refine s1 hA97 (op_max rfl (hA97.ev rfl) (hA97.ev rfl)) fun a98 hA99 => ?_; clear hA97 a96
 refine s1 hA99 (op_field rfl fd_46_4 (hA99.ev rfl)) fun a100 hA101 => ?_; clear hA99 a98
 refine s1 hA101 (op_load1 rfl ty_3 (hA101.ev rfl) (hS70.bk 4 rfl) rfl) fun a102 hA103 => ?_; clear hA101 a100
 refine s1 hA103 (op_add rfl (hA103.ev rfl) (hA103.ev rfl) (by omega) (by omega)) fun a104 hA105 => ?_; clear hA103 a102
 refine s1 hA105 (op_build rfl (pv2 (hA105.ev rfl) (hA105.ev rfl)) (bd_27_0i_1i _ _)) fun a106 hA107 => ?_; clear hA105 a104
 refine s7 hA107 (op_store hS70 rfl ty_27 (hA107.ev rfl) (hA107.ev rfl) (i := 2) rfl (vs := [(Value.int .i64 ((min ((madeV t r1).1) ((madeV t r2).1)) - t.err)), (Value.int .i64 ((max ((madeV t r1).2) ((madeV t r2).2)) + t.err))]) rfl rfl rfl (Nat.le_of_ble_eq_true rfl)) ?_
 intro _ w108 hS109 hA110; clear hA107
 have hS111 : Sep NoB w w108 [(blk b65 27 [(Value.int .i64 ((madeV t r2).1)), (Value.int .i64 ((madeV t r2).2))]), (blk b36 27 [(Value.int .i64 ((madeV t r1).1)), (Value.int .i64 ((madeV t r1).2))]), (blk b14 27 [(Value.int .i64 ((min ((madeV t r1).1) ((madeV t r2).1)) - t.err)), (Value.int .i64 ((max ((madeV t r1).2) ((madeV t r2).2)) + t.err))]), (blk b9 27 [(Value.int .i64 r1), (Value.int .i64 r2)]), (blk b4 46 [(Value.int .i64 t.frm), (Value.int .i64 t.dst), vr, vb, (Value.int .i64 t.err)]), (sl vr 2 t.rows.length (pairs t.rows)), (sl vb 1 t.brk.length (ints t.brk))] := hS109; clear hS109 hS70
 refine n1 ?_
 refine c_ret ?_
 refine fin_run hA110 (.inl rfl) (run_results1 hA110 rfl (.cellA rfl ty_27 (hS111.bk 2 rfl) (l := [(Value.int .i64 ((min ((madeV t r1).1) ((madeV t r2).1)) - t.err)), (Value.int .i64 ((max ((madeV t r1).2) ((madeV t r2).2)) + t.err))]) rfl rfl)) ?_
 exact ⟨rfl, hS111.ext⟩
end Go.Proofs.Ytohgladndklciaa

namespace Go.Hard
section
variable {n : Int} {t : TabD} {k : Nat}
theorem tabB_iff : tabB n t = true ↔ inB t.frm 0 (n - 1) = true ∧ inB t.dst 0 (n - 1) = true ∧ t.frm ≠ t.dst ∧ inB t.err 0 1000 = true ∧ 2 ≤ (t.rows.length : Int) ∧ (∀ i, i < t.rows.length → rowB (t.rows.getD i (0, 0)) = true) ∧ (∀ i, i < t.rows.length - 1 → stepB (risesB t) (t.rows.getD i (0, 0)) (t.rows.getD (i + 1) (0, 0)) = true) ∧ ∀ i, i < t.brk.length → brkB t i = true := by
  unfold tabB headB
  simp only [Bool.and_eq_true, Bool.not_eq_true', decide_eq_false_iff_not, decide_eq_true_eq, allI_iff, ne_eq, and_assoc]
theorem tab_head (h : inB t.frm 0 (n - 1) = false ∨ inB t.dst 0 (n - 1) = false ∨ t.frm = t.dst ∨ inB t.err 0 1000 = false ∨ (t.rows.length : Int) < 2) : tabB n t = false := by
  cases hb : tabB n t with
  | false => rfl
  | true =>
    have g := tabB_iff.1 hb
    rcases h with h | h | h | h | h
    · rw [h] at g; cases g.1
    · rw [h] at g; cases g.2.1
    · exact absurd h g.2.2.1
    · rw [h] at g; cases g.2.2.2.1
    · have := g.2.2.2.2.1; omega
theorem tab_row (hk : k < t.rows.length) (h : rowB (t.rows.getD k (0, 0)) = false) : tabB n t = false := by
  cases hb : tabB n t with
  | false => rfl
  | true => have g := (tabB_iff.1 hb).2.2.2.2.2.1 k hk; rw [h] at g; cases g
theorem tab_step (hk : k + 1 < t.rows.length) (h : stepB (risesB t) (t.rows.getD k (0, 0)) (t.rows.getD (k + 1) (0, 0)) = false) : tabB n t = false := by
  cases hb : tabB n t with
  | false => rfl
  | true => have g := (tabB_iff.1 hb).2.2.2.2.2.2.1 k (by omega); rw [h] at g; cases g
theorem tab_brk (hk : k < t.brk.length) (h : brkB t k = false) : tabB n t = false := by
  cases hb : tabB n t with
  | false => rfl
  | true => have g := (tabB_iff.1 hb).2.2.2.2.2.2.2 k hk; rw [h] at g; cases g
theorem step_n {r : Bool} {a b : Int × Int} (h : ¬ a.1 < b.1 ∨ b.2 = a.2 ∨ decide (a.2 < b.2) ≠ r) : stepB r a b = false := by
  cases hb : stepB r a b with
  | false => rfl
  | true =>
    unfold stepB at hb
    simp only [Bool.and_eq_true, decide_eq_true_eq, Bool.not_eq_true', decide_eq_false_iff_not, beq_iff_eq] at hb
    rcases h with h | h | h
    · exact absurd hb.1.1 h
    · exact absurd h hb.1.2
    · exact absurd hb.2 h
theorem step_y {r : Bool} {a b : Int × Int} (h1 : a.1 < b.1) (h2 : ¬ b.2 = a.2) (h3 : decide (a.2 < b.2) = r) : stepB r a b = true := by
  unfold stepB
  simp only [Bool.and_eq_true, decide_eq_true_eq, Bool.not_eq_true', decide_eq_false_iff_not, beq_iff_eq]
  exact ⟨⟨h1, h2⟩, h3⟩
theorem brk_y0 (h : inB (t.brk.getD 0 0) 0 ((t.rows.length : Int) - 2) = true) : brkB t 0 = true := by
  unfold brkB; rw [show lastU t 0 = -1 from rfl]; rw [inB_iff] at h ⊢; omega
theorem brk_y1 (h : inB (t.brk.getD (k + 1) 0) 0 ((t.rows.length : Int) - 2) = true) (h2 : t.brk.getD k 0 < t.brk.getD (k + 1) 0) : brkB t (k + 1) = true := by
  unfold brkB lastU; rw [inB_iff] at h ⊢; dsimp only; omega
theorem brk_n {i : Nat} (hp : ∀ j, j < i → 0 ≤ t.brk.getD j 0) (h : inB (t.brk.getD i 0) 0 ((t.rows.length : Int) - 2) = false) : brkB t i = false := by
  cases hb : brkB t i with
  | false => rfl
  | true =>
    unfold brkB at hb
    rw [inB_iff] at hb
    have : inB (t.brk.getD i 0) 0 ((t.rows.length : Int) - 2) = true := by
      rw [inB_iff]
      cases i with
      | zero => rw [show lastU t 0 = -1 from rfl] at hb; omega
      | succ j => have := hp j (by omega); unfold lastU at hb; dsimp only at hb; omega
    rw [this] at h; cases h
theorem brk_n1 (h : ¬ t.brk.getD k 0 < t.brk.getD (k + 1) 0) : brkB t (k + 1) = false := by
  cases hb : brkB t (k + 1) with
  | false => rfl
  | true => unfold brkB lastU at hb; rw [inB_iff] at hb; dsimp only at hb; omega
end
end Go.Hard

namespace Go.Proofs.Ytohgladndklciaa
open Go.RowKit Go.Shelf Go.Eng Go.Hard
end Go.Proofs.Ytohgladndklciaa

namespace Go.Proofs.Ytohgladndklciaa
open Go.RowKit Go.Shelf Go.Eng Go.Hard
theorem fd_46_0 : fldK Try.prog 46 0 = some 0 := by kernel_rfl
theorem fd_46_1 : fldK Try.prog 46 1 = some 1 := by kernel_rfl
theorem un_4 : Try.prog.underlying 4 = some .bool := by kernel_rfl
theorem neq_n {r : Bool} {a b : Int × Int} (h : (decide (a.2 < b.2) == r) = false) : stepB r a b = false := step_n (.inr (.inr (fun e => by rw [e] at h; simp at h)))
theorem neq_y {r : Bool} {a b : Int × Int} (h1 : a.1 < b.1) (h2 : ¬ b.2 = a.2) (h : (decide (a.2 < b.2) == r) = true) : stepB r a b = true := step_y h1 h2 (by simpa using h)
theorem back1 {k : Nat} (h : 0 < (k : Int)) : ∃ i, k = i + 1 := ⟨k - 1, by omega⟩
theorem pred1 (i : Nat) : ((((i + 1 : Nat) : Int)) - 1).toNat = i := by omega
set_option maxHeartbeats 4000000 in
theorem istable_ok (n : Int) (hn : 1 ≤ n ∧ n ≤ 4) (t : TabD) (vr vb : Value) (w : World) (hr : SlAt w vr 2 t.rows.length (pairs t.rows)) (hb : SlAt w vb 1 t.brk.length (ints t.brk)) (hrl : t.rows.length ≤ 1000000) (hbl : t.brk.length ≤ 1000000) :
  Calls Try.prog 51 #[(Value.int .i64 n), (Value.agg #[(Value.int .i64 t.frm), (Value.int .i64 t.dst), vr, vb, (Value.int .i64 t.err)])] w (Ret fun v w' => v = .bool (tabB n t) ∧ Ext NoB w w') := by
 refine calls_enter Try.func51 rfl fun a0 hA0 => ?_
 replace hA0 : Fr 165 [] [(0, (Value.int .i64 n)), (1, (Value.agg #[(Value.int .i64 t.frm), (Value.int .i64 t.dst), vr, vb, (Value.int .i64 t.err)]))] a0 := hA0
 have hS0 : Sep NoB w w [(sl vr 2 t.rows.length (pairs t.rows)), (sl vb 1 t.brk.length (ints t.brk))] := sep_ro ⟨rfl, hr, rfl, hb, trivial⟩
 refine m2 ?_
 refine s2 hA0 (op_box hS0 rfl (hA0.ev rfl) (cs := [(Value.int .i64 t.frm), (Value.int .i64 t.dst), vr, vb, (Value.int .i64 t.err)]) rfl) ?_
 rintro a1 _ w3 ⟨b4, rfl, hS5⟩ hA2; clear hA0 hS0 a0
 refine s1 hA2 (op_assign rfl (evc _ _)) fun a6 hA7 => ?_; clear hA2 a1
 refine n2 ?_
 refine m2 ?_
 refine s1 hA7 (op_field rfl fd_46_0 (hA7.ev rfl)) fun a8 hA9 => ?_; clear hA7 a6
 refine s1 hA9 (op_load1 rfl ty_3 (hA9.ev rfl) (hS5.bk 0 rfl) rfl) fun a10 hA11 => ?_; clear hA9 a8
 refine s1 hA11 (op_move rfl (hA11.ev rfl)) fun a12 hA13 => ?_; clear hA11 a10
 refine s1 hA13 (op_sub rfl (hA13.ev rfl) (evc _ _) (by omega) (by omega)) fun a14 hA15 => ?_; clear hA13 a12
 refine s2 hA15 (op_call rfl en_22 (ev3 (hA15.ev rfl) (evc _ _) (hA15.ev rfl)) (In_ok _ _ _ _)) ?_
 rintro a16 _ W_ ⟨rfl, hW_⟩ hA17; have hW2_ := hW_.symm; subst hW2_; clear hW_ hA15 a14
 refine s1 hA17 (op_not rfl (hA17.ev rfl)) fun a19 hA20 => ?_; clear hA17 a16
 refine s1 hA20 (op_move rfl (hA20.ev rfl)) fun a21 hA22 => ?_; clear hA20 a19
 rcases Bool.eq_false_or_eq_true ((inB t.frm 0 (n - 1))) with hb23 | hb23
 ·skip
  rw [hb23] at hA22
  refine s5 hA22 (op_field rfl fd_46_1 (hA22.ev rfl)) fun a24 hA25 => ?_; clear hA22 a21
  refine s5 hA25 (op_load1 rfl ty_3 (hA25.ev rfl) (hS5.bk 0 rfl) rfl) fun a26 hA27 => ?_; clear hA25 a24
  refine s5 hA27 (op_move rfl (hA27.ev rfl)) fun a28 hA29 => ?_; clear hA27 a26
  refine s5 hA29 (op_sub rfl (hA29.ev rfl) (evc _ _) (by omega) (by omega)) fun a30 hA31 => ?_; clear hA29 a28
  refine s6 hA31 (op_call rfl en_22 (ev3 (hA31.ev rfl) (evc _ _) (hA31.ev rfl)) (In_ok _ _ _ _)) ?_
  rintro a32 _ W_ ⟨rfl, hW_⟩ hA33; have hW2_ := hW_.symm; subst hW2_; clear hW_ hA31 a30
  refine s5 hA33 (op_not rfl (hA33.ev rfl)) fun a35 hA36 => ?_; clear hA33 a32
  refine s1 hA36 (op_pick_f rfl (hA36.ev rfl) (hA36.ev rfl)) fun a37 hA38 => ?_; clear hA36 a35
  refine s1 hA38 (op_move rfl (hA38.ev rfl)) fun a39 hA40 => ?_; clear hA38 a37
  rcases Bool.eq_false_or_eq_true ((inB t.dst 0 (n - 1))) with hb41 | hb41
  ·skip
   rw [hb41] at hA40
   refine s5 hA40 (op_field rfl fd_46_0 (hA40.ev rfl)) fun a42 hA43 => ?_; clear hA40 a39
   refine s5 hA43 (op_load1 rfl ty_3 (hA43.ev rfl) (hS5.bk 0 rfl) rfl) fun a44 hA45 => ?_; clear hA43 a42
   refine s5 hA45 (op_field rfl fd_46_1 (hA45.ev rfl)) fun a46 hA47 => ?_; clear hA45 a44
   refine s5 hA47 (op_load1 rfl ty_3 (hA47.ev rfl) (hS5.bk 0 rfl) rfl) fun a48 hA49 => ?_; clear hA47 a46
   refine s5 hA49 (op_eql rfl (hA49.ev rfl) (hA49.ev rfl)) fun a50 hA51 => ?_; clear hA49 a48
   refine s1 hA51 (op_pick_f rfl (hA51.ev rfl) (hA51.ev rfl)) fun a52 hA53 => ?_; clear hA51 a50
   refine s1 hA53 (op_move rfl (hA53.ev rfl)) fun a54 hA55 => ?_; clear hA53 a52
   by_cases hb56 : t.frm = t.dst
   ·skip
    rw [decide_eq_true hb56] at hA55
    refine s3 hA55 fun a57 hA58 => ?_; clear hA55 a54
    refine s3 hA58 fun a59 hA60 => ?_; clear hA58 a57
    refine s3 hA60 fun a61 hA62 => ?_; clear hA60 a59
    refine s3 hA62 fun a63 hA64 => ?_; clear hA62 a61
    refine s1 hA64 (op_pick_t rfl (hA64.ev rfl) (evc _ _)) fun a65 hA66 => ?_; clear hA64 a63
    refine s1 hA66 (op_move rfl (hA66.ev rfl)) fun a67 hA68 => ?_; clear hA66 a65
    refine s3 hA68 fun a69 hA70 => ?_; clear hA68 a67
    refine s3 hA70 fun a71 hA72 => ?_; clear hA70 a69
    refine s3 hA72 fun a73 hA74 => ?_; clear hA72 a71
    refine s3 hA74 fun a75 hA76 => ?_; clear hA74 a73
    refine s1 hA76 (op_pick_t rfl (hA76.ev rfl) (evc _ _)) fun a77 hA78 => ?_; clear hA76 a75
    refine n1 ?_
    refine c_true hA78 rfl ?_
    refine c_seq ?_
    have hA79 := hA78.as [] rfl; clear hA78
    refine c_region ?_
    refine s1 hA79 (op_assign rfl (evc _ _)) fun a80 hA81 => ?_; clear hA79 a77
    refine n1 ?_
    refine c_ret ?_
    refine then_ret ?_
    refine fin_run hA81 (.inl rfl) (run_results1 hA81 rfl (.tmp rfl)) ?_
    exact ⟨congrArg Value.bool (Eq.symm (tab_head (by first | exact .inl (by assumption) | exact .inr (.inl (by assumption)) | exact .inr (.inr (.inl (by assumption))) | exact .inr (.inr (.inr (.inl (by assumption)))) | exact .inr (.inr (.inr (.inr (by omega))))))), hS5.ext⟩
   ·skip
    rw [decide_eq_false hb56] at hA55
    refine s5 hA55 (op_field rfl fd_46_4 (hA55.ev rfl)) fun a82 hA83 => ?_; clear hA55 a54
    refine s5 hA83 (op_load1 rfl ty_3 (hA83.ev rfl) (hS5.bk 0 rfl) rfl) fun a84 hA85 => ?_; clear hA83 a82
    refine s6 hA85 (op_call rfl en_22 (ev3 (hA85.ev rfl) (evc _ _) (evc _ _)) (In_ok _ _ _ _)) ?_
    rintro a86 _ W_ ⟨rfl, hW_⟩ hA87; have hW2_ := hW_.symm; subst hW2_; clear hW_ hA85 a84
    refine s5 hA87 (op_not rfl (hA87.ev rfl)) fun a89 hA90 => ?_; clear hA87 a86
    refine s1 hA90 (op_pick_f rfl (hA90.ev rfl) (hA90.ev rfl)) fun a91 hA92 => ?_; clear hA90 a89
    refine s1 hA92 (op_move rfl (hA92.ev rfl)) fun a93 hA94 => ?_; clear hA92 a91
    rcases Bool.eq_false_or_eq_true ((inB t.err 0 1000)) with hb95 | hb95
    ·skip
     rw [hb95] at hA94
     refine s5 hA94 (op_field rfl fd_46_2 (hA94.ev rfl)) fun a96 hA97 => ?_; clear hA94 a93
     refine s5 hA97 (op_load1 rfl ty_43 (hA97.ev rfl) (hS5.bk 0 rfl) rfl) fun a98 hA99 => ?_; clear hA97 a96
     refine s5 hA99 (op_lenS rfl un_43 (hA99.ev rfl) (hS5.sk 1 rfl)) fun a100 hA101 => ?_; clear hA99 a98
     refine s5 hA101 (op_lss rfl (hA101.ev rfl) (evc _ _)) fun a102 hA103 => ?_; clear hA101 a100
     refine s1 hA103 (op_pick_f rfl (hA103.ev rfl) (hA103.ev rfl)) fun a104 hA105 => ?_; clear hA103 a102
     refine n1 ?_
     by_cases hb106 : (t.rows.length : Int) < 2
     ·skip
      rw [decide_eq_true hb106] at hA105
      refine c_true hA105 rfl ?_
      refine c_seq ?_
      have hA107 := hA105.as [] rfl; clear hA105
      refine c_region ?_
      refine s1 hA107 (op_assign rfl (evc _ _)) fun a108 hA109 => ?_; clear hA107 a104
      refine n1 ?_
      refine c_ret ?_
      refine then_ret ?_
      refine fin_run hA109 (.inl rfl) (run_results1 hA109 rfl (.tmp rfl)) ?_
      exact ⟨congrArg Value.bool (Eq.symm (tab_head (by first | exact .inl (by assumption) | exact .inr (.inl (by assumption)) | exact .inr (.inr (.inl (by assumption))) | exact .inr (.inr (.inr (.inl (by assumption)))) | exact .inr (.inr (.inr (.inr (by omega))))))), hS5.ext⟩
     ·skip
      rw [decide_eq_false hb106] at hA105
      refine c_false hA105 rfl ?_
      refine c_skip ?_
      refine then_n ?_
      refine c_seq ?_
      have hA110 := hA105.as [(3, (bptr b4 0))] rfl; clear hA105
      have hA111 := hA110.as [(3, (bptr b4 0))] rfl; clear hA110
      refine c_drawn mixed hA111 hS5 10 [[], [0], [1], [2], [3], [], [5], [6], [7], [8]] [(Yd.val (bptr b4 2)), (Yd.val vr), (Yd.val (eptr vr (1 * 2))), (Yd.val (eptr vr (1 * 2 + 1))), (Yd.val (Value.int .i64 ((t.rows.getD 1 (0, 0)).2))), (Yd.val (bptr b4 2)), (Yd.val vr), (Yd.val (eptr vr (0 * 2))), (Yd.val (eptr vr (0 * 2 + 1))), (Yd.val (Value.int .i64 ((t.rows.getD 0 (0, 0)).2)))] (by decide +kernel) rfl rfl ?_ ?_
      ·skip
       refine dq (fun a w hA hS hd => op_field rfl fd_46_2 (hA.ev rfl)) ?_
       refine dq (fun a w hA hS hd => op_load1 rfl ty_43 (hq hd 0) (hS.bk 0 rfl) rfl) ?_
       refine dq (fun a w hA hS hd => op_indexS rfl un_43 ty_75 (hq hd 1) (i := 1) (show _ = Value.int .i64 ((1 : Nat) : Int) from (evc _ _)) (hS.sk 1 rfl) (by decide) (by omega)) ?_
       refine dq (fun a w hA hS hd => op_fieldS rfl fd_75_1 (hq hd 2) (hS.sk 1 rfl) (by rw [((hS.sk 1 rfl)).1]; omega)) ?_
       refine dq (fun a w hA hS hd => op_load1E rfl ty_3 (hq hd 3) (hS.sk 1 rfl) (pairs_at1 (by omega))) ?_
       refine dq (fun a w hA hS hd => op_field rfl fd_46_2 (hA.ev rfl)) ?_
       refine dq (fun a w hA hS hd => op_load1 rfl ty_43 (hq hd 5) (hS.bk 0 rfl) rfl) ?_
       refine dq (fun a w hA hS hd => op_indexS rfl un_43 ty_75 (hq hd 6) (i := 0) (show _ = Value.int .i64 ((0 : Nat) : Int) from (evc _ _)) (hS.sk 1 rfl) (by decide) (by omega)) ?_
       refine dq (fun a w hA hS hd => op_fieldS rfl fd_75_1 (hq hd 7) (hS.sk 1 rfl) (by rw [((hS.sk 1 rfl)).1]; omega)) ?_
       refine dq (fun a w hA hS hd => op_load1E rfl ty_3 (hq hd 8) (hS.sk 1 rfl) (pairs_at1 (by omega))) ?_
       trivial
      intro a113 w114 hA115 hS116 hH117; clear hA111 hS5
      have hA118 := hA115.add (hz hH117 4); clear hA115
      have hA119 := hA118.add (hz hH117 9); clear hA118
      clear hH117
      refine s1 hA119 (op_gtr rfl (hA119.ev rfl) (hA119.ev rfl)) fun a120 hA121 => ?_; clear hA119 a113
      refine s1 hA121 (op_assign rfl (hA121.ev rfl)) fun a122 hA123 => ?_; clear hA121 a120
      refine n2 ?_
      refine m2 ?_
      refine s1 hA123 (op_assign rfl (evc _ _)) fun a124 hA125 => ?_; clear hA123 a122
      refine n1 ?_
      refine c_block ?_
      have hA126 := hA125.as [(6, (Value.int .i64 0)), (5, (Value.bool (decide (((t.rows.getD 0 (0, 0)).2) < ((t.rows.getD 1 (0, 0)).2))))), (3, (bptr b4 0))] rfl; clear hA125
      refine c_loop (G := Nat) (fun (k : Nat) a_ w_ => Fr 165 [] [(6, (Value.int .i64 (k : Int))), (5, (Value.bool (decide (((t.rows.getD 0 (0, 0)).2) < ((t.rows.getD 1 (0, 0)).2))))), (3, (bptr b4 0))] a_ ∧ Sep NoB w w_ [(blk b4 46 [(Value.int .i64 t.frm), (Value.int .i64 t.dst), vr, vb, (Value.int .i64 t.err)]), (sl vr 2 t.rows.length (pairs t.rows)), (sl vb 1 t.brk.length (ints t.brk))] ∧ (k ≤ t.rows.length) ∧ (∀ i, i < k → rowB (t.rows.getD i (0, 0)) = true) ∧ (∀ i, i + 1 < k → stepB (risesB t) (t.rows.getD i (0, 0)) (t.rows.getD (i + 1) (0, 0)) = true)) (fun k => t.rows.length - k) 0 ⟨hA126.as _ rfl, hS116, by omega, (fun _ h => absurd h (Nat.not_lt_zero _)), (fun _ h => absurd h (Nat.not_lt_zero _))⟩ ?_
      clear hA126 hS116 a124
      rintro k a127 w129 ⟨hA128, hS130, hkk, hrw, hst⟩
      refine c_seq ?_
      refine m2 ?_
      refine s1 hA128 (op_move rfl (hA128.ev rfl)) fun a131 hA132 => ?_; clear hA128 a127
      refine s1 hA132 (op_field rfl fd_46_2 (hA132.ev rfl)) fun a133 hA134 => ?_; clear hA132 a131
      refine s1 hA134 (op_load1 rfl ty_43 (hA134.ev rfl) (hS130.bk 0 rfl) rfl) fun a135 hA136 => ?_; clear hA134 a133
      refine s1 hA136 (op_lenS rfl un_43 (hA136.ev rfl) (hS130.sk 1 rfl)) fun a137 hA138 => ?_; clear hA136 a135
      refine s1 hA138 (op_lss rfl (hA138.ev rfl) (hA138.ev rfl)) fun a139 hA140 => ?_; clear hA138 a137
      refine n1 ?_
      by_cases hb141 : (k : Int) < (t.rows.length : Int)
      ·skip
       rw [decide_eq_true hb141] at hA140
       refine c_true hA140 rfl ?_
       refine c_skip ?_
       refine then_n ?_
       refine c_seq ?_
       refine c_block ?_
       refine c_seq ?_
       refine m2 ?_
       refine s1 hA140 (op_field rfl fd_46_2 (hA140.ev rfl)) fun a142 hA143 => ?_; clear hA140 a139
       refine s1 hA143 (op_load1 rfl ty_43 (hA143.ev rfl) (hS130.bk 0 rfl) rfl) fun a144 hA145 => ?_; clear hA143 a142
       refine s1 hA145 (op_move rfl (hA145.ev rfl)) fun a146 hA147 => ?_; clear hA145 a144
       refine s1 hA147 (op_indexS rfl un_43 ty_75 (hA147.ev rfl) (i := k) (hA147.ev rfl) (hS130.sk 1 rfl) (by decide) (by omega)) fun a148 hA149 => ?_; clear hA147 a146
       refine s1 hA149 (op_fieldS rfl fd_75_0 (hA149.ev rfl) (hS130.sk 1 rfl) (by rw [((hS130.sk 1 rfl)).1]; omega)) fun a150 hA151 => ?_; clear hA149 a148
       refine s1 hA151 (op_load1E rfl ty_3 (hA151.ev rfl) (hS130.sk 1 rfl) (pairs_at0 (by omega))) fun a152 hA153 => ?_; clear hA151 a150
       refine s2 hA153 (op_call rfl en_22 (ev3 (hA153.ev rfl) (evc _ _) (evc _ _)) (In_ok _ _ _ _)) ?_
       rintro a154 _ W_ ⟨rfl, hW_⟩ hA155; have hW2_ := hW_.symm; subst hW2_; clear hW_ hA153 a152
       refine s1 hA155 (op_not rfl (hA155.ev rfl)) fun a157 hA158 => ?_; clear hA155 a154
       refine s1 hA158 (op_move rfl (hA158.ev rfl)) fun a159 hA160 => ?_; clear hA158 a157
       rcases Bool.eq_false_or_eq_true ((inB ((t.rows.getD k (0, 0)).1) 1 100000)) with hb161 | hb161
       ·skip
        rw [hb161] at hA160
        refine s5 hA160 (op_field rfl fd_46_2 (hA160.ev rfl)) fun a162 hA163 => ?_; clear hA160 a159
        refine s5 hA163 (op_load1 rfl ty_43 (hA163.ev rfl) (hS130.bk 0 rfl) rfl) fun a164 hA165 => ?_; clear hA163 a162
        refine s5 hA165 (op_move rfl (hA165.ev rfl)) fun a166 hA167 => ?_; clear hA165 a164
        refine s5 hA167 (op_indexS rfl un_43 ty_75 (hA167.ev rfl) (i := k) (hA167.ev rfl) (hS130.sk 1 rfl) (by decide) (by omega)) fun a168 hA169 => ?_; clear hA167 a166
        refine s5 hA169 (op_fieldS rfl fd_75_1 (hA169.ev rfl) (hS130.sk 1 rfl) (by rw [((hS130.sk 1 rfl)).1]; omega)) fun a170 hA171 => ?_; clear hA169 a168
        refine s5 hA171 (op_load1E rfl ty_3 (hA171.ev rfl) (hS130.sk 1 rfl) (pairs_at1 (by omega))) fun a172 hA173 => ?_; clear hA171 a170
        refine s6 hA173 (op_call rfl en_22 (ev3 (hA173.ev rfl) (evc _ _) (evc _ _)) (In_ok _ _ _ _)) ?_
        rintro a174 _ W_ ⟨rfl, hW_⟩ hA175; have hW2_ := hW_.symm; subst hW2_; clear hW_ hA173 a172
        refine s5 hA175 (op_not rfl (hA175.ev rfl)) fun a177 hA178 => ?_; clear hA175 a174
        refine s1 hA178 (op_pick_f rfl (hA178.ev rfl) (hA178.ev rfl)) fun a179 hA180 => ?_; clear hA178 a177
        refine n1 ?_
        rcases Bool.eq_false_or_eq_true ((inB ((t.rows.getD k (0, 0)).2) 1 100000)) with hb181 | hb181
        ·skip
         rw [hb181] at hA180
         refine c_false hA180 rfl ?_
         refine c_skip ?_
         refine then_n ?_
         refine c_seq ?_
         have hA182 := hA180.as [(6, (Value.int .i64 (k : Int))), (5, (Value.bool (decide (((t.rows.getD 0 (0, 0)).2) < ((t.rows.getD 1 (0, 0)).2))))), (3, (bptr b4 0))] rfl; clear hA180
         have hA183 := hA182.as [(6, (Value.int .i64 (k : Int))), (5, (Value.bool (decide (((t.rows.getD 0 (0, 0)).2) < ((t.rows.getD 1 (0, 0)).2))))), (3, (bptr b4 0))] rfl; clear hA182
         by_cases hb185 : 0 < (k : Int)
         ·skip
          have hA186 := hA183.as [(6, (Value.int .i64 (k : Int))), (5, (Value.bool (decide (((t.rows.getD 0 (0, 0)).2) < ((t.rows.getD 1 (0, 0)).2))))), (3, (bptr b4 0))] rfl; clear hA183
          by_cases hb188 : ((t.rows.getD k (0, 0)).1) ≤ ((t.rows.getD (((k : Int) - 1).toNat) (0, 0)).1)
          ·skip
           have hA189 := hA186.as [(6, (Value.int .i64 (k : Int))), (5, (Value.bool (decide (((t.rows.getD 0 (0, 0)).2) < ((t.rows.getD 1 (0, 0)).2))))), (3, (bptr b4 0))] rfl; clear hA186
           refine c_drawn mixed hA189 hS130 49 [[], [0], [1], [2], [2, 3], [2], [2, 4, 5], [2, 6], [2, 7], [2], [2, 9], [2], [2, 11], [2, 10, 12], [2, 13], [2, 14], [2, 8, 15], [2, 16], [17], [17, 18], [17], [17, 19, 20], [17, 21], [17, 22], [17], [17, 24], [17], [17, 26], [17, 25, 27], [17, 28], [17, 29], [17, 23, 30], [2, 17, 31], [2, 32], [33], [33, 34], [33], [33, 35, 36], [33, 37], [33, 38], [33], [33, 40], [33], [33, 42], [33, 41, 43], [33, 44], [33, 45], [33, 39, 46], [33]] [(Yd.val (Value.int .i64 (k : Int))), (Yd.val (Value.bool true)), (Yd.val (Value.bool true)), (Yd.val (bptr b4 2)), (Yd.val vr), (Yd.val (Value.int .i64 (k : Int))), (Yd.val (eptr vr (k * 2))), (Yd.val (eptr vr (k * 2 + 0))), (Yd.val (Value.int .i64 ((t.rows.getD k (0, 0)).1))), (Yd.val (bptr b4 2)), (Yd.val vr), (Yd.val (Value.int .i64 (k : Int))), (Yd.val (Value.int .i64 ((k : Int) - 1))), (Yd.val (eptr vr (((k : Int) - 1).toNat * 2))), (Yd.val (eptr vr (((k : Int) - 1).toNat * 2 + 0))), (Yd.val (Value.int .i64 ((t.rows.getD (((k : Int) - 1).toNat) (0, 0)).1))), (Yd.val (Value.bool true)), (Yd.val (Value.bool true)), (Yd.val undef), (Yd.val undef), (Yd.val undef), (Yd.val undef), (Yd.val undef), (Yd.val undef), (Yd.val undef), (Yd.val undef), (Yd.val undef), (Yd.val undef), (Yd.val undef), (Yd.val undef), (Yd.val undef), (Yd.val undef), (Yd.val (Value.bool true)), (Yd.val (Value.bool true)), (Yd.val undef), (Yd.val undef), (Yd.val undef), (Yd.val undef), (Yd.val undef), (Yd.val undef), (Yd.val undef), (Yd.val undef), (Yd.val undef), (Yd.val undef), (Yd.val undef), (Yd.val undef), (Yd.val undef), (Yd.val undef), (Yd.val undef)] (by decide +kernel) rfl rfl ?_ ?_
           ·skip
            refine dq (fun a w hA hS hd => op_move rfl (hA.ev rfl)) ?_
            refine ⟨fun a w hA hS hd => by have e0 := hx hd 0; exact opG_of rfl (dv (op_gtr rfl (tmp_ev e0) (evc _ _)) hS (by show Value.bool _ = _; simp only [decide_eq_true hb185, decide_true, decide_false, Bool.not_true, Bool.not_false])), ?_⟩
            refine dq (fun a w hA hS hd => op_move rfl (hq hd 1)) ?_
            refine dy 2 (fun a w hA hS hd => op_field rfl fd_46_2 (hA.ev rfl)) ?_
            refine dy 2 (fun a w hA hS hd => op_load1 rfl ty_43 (hq hd 3) (hS.bk 0 rfl) rfl) ?_
            refine dy 2 (fun a w hA hS hd => op_move rfl (hA.ev rfl)) ?_
            refine dy 2 (fun a w hA hS hd => op_indexS rfl un_43 ty_75 (hq hd 4) (i := k) (hq hd 5) (hS.sk 1 rfl) (by decide) (by omega)) ?_
            refine dy 2 (fun a w hA hS hd => op_fieldS rfl fd_75_0 (hq hd 6) (hS.sk 1 rfl) (by rw [((hS.sk 1 rfl)).1]; omega)) ?_
            refine dy 2 (fun a w hA hS hd => op_load1E rfl ty_3 (hq hd 7) (hS.sk 1 rfl) (pairs_at0 (by omega))) ?_
            refine dy 2 (fun a w hA hS hd => op_field rfl fd_46_2 (hA.ev rfl)) ?_
            refine dy 2 (fun a w hA hS hd => op_load1 rfl ty_43 (hq hd 9) (hS.bk 0 rfl) rfl) ?_
            refine dy 2 (fun a w hA hS hd => op_move rfl (hA.ev rfl)) ?_
            refine dy 2 (fun a w hA hS hd => op_sub rfl (hq hd 11) (evc _ _) (by omega) (by omega)) ?_
            refine dy 2 (fun a w hA hS hd => op_indexS rfl un_43 ty_75 (hq hd 10) (i := ((k : Int) - 1).toNat) ((hq hd 12).trans (int_nat (by omega))) (hS.sk 1 rfl) (by decide) (by omega)) ?_
            refine dy 2 (fun a w hA hS hd => op_fieldS rfl fd_75_0 (hq hd 13) (hS.sk 1 rfl) (by rw [((hS.sk 1 rfl)).1]; omega)) ?_
            refine dy 2 (fun a w hA hS hd => op_load1E rfl ty_3 (hq hd 14) (hS.sk 1 rfl) (pairs_at0 (by omega))) ?_
            refine ⟨fun a w hA hS hd => by have e2 := hx hd 2; have e8 := hx hd 8; have e15 := hx hd 15; exact opG_yes rfl rfl e2 (dv (op_leq rfl (tmp_ev e8) (tmp_ev e15)) hS (by show Value.bool _ = _; simp only [decide_eq_true hb188, decide_true, decide_false, Bool.not_true, Bool.not_false])), ?_⟩
            refine dy 2 (fun a w hA hS hd => op_move rfl (hq hd 16)) ?_
            refine dn 17 ?_
            refine dn 17 ?_
            refine dn 17 ?_
            refine dn 17 ?_
            refine dn 17 ?_
            refine dn 17 ?_
            refine dn 17 ?_
            refine dn 17 ?_
            refine dn 17 ?_
            refine dn 17 ?_
            refine dn 17 ?_
            refine dn 17 ?_
            refine dn 17 ?_
            refine dn 17 ?_
            refine dy 2 (fun a w hA hS hd => op_pick_t rfl (hq hd 17) (evc _ _)) ?_
            refine dy 2 (fun a w hA hS hd => op_move rfl (hq hd 32)) ?_
            refine dn 33 ?_
            refine dn 33 ?_
            refine dn 33 ?_
            refine dn 33 ?_
            refine dn 33 ?_
            refine dn 33 ?_
            refine dn 33 ?_
            refine dn 33 ?_
            refine dn 33 ?_
            refine dn 33 ?_
            refine dn 33 ?_
            refine dn 33 ?_
            refine dn 33 ?_
            refine dn 33 ?_
            refine dn 33 ?_
            trivial
           intro a191 w192 hA193 hS194 hH195; clear hA189 hS130
           have hA196 := hA193.add (hz hH195 2); clear hA193
           have hA197 := hA196.add (hz hH195 33); clear hA196
           have hA198 := hA197.add (hz hH195 47); clear hA197
           have hA199 := hA198.add (hz hH195 48); clear hA198
           clear hH195
           refine s3 hA199 fun a200 hA201 => ?_; clear hA199 a191
           refine s5 hA201 (op_pick_t rfl (hA201.ev rfl) (evc _ _)) fun a202 hA203 => ?_; clear hA201 a200
           refine s1 hA203 (op_pick_t rfl (hA203.ev rfl) (hA203.ev rfl)) fun a204 hA205 => ?_; clear hA203 a202
           refine n1 ?_
           refine c_true hA205 rfl ?_
           refine c_seq ?_
           have hA206 := hA205.as [] rfl; clear hA205
           refine c_region ?_
           refine s1 hA206 (op_assign rfl (evc _ _)) fun a207 hA208 => ?_; clear hA206 a204
           refine n1 ?_
           refine c_ret ?_
           refine blk_ret ?_
           refine then_ret ?_
           refine then_ret ?_
           refine blk_ret ?_
           refine then_ret ?_
           refine fin_run hA208 (.inl rfl) (run_results1 hA208 rfl (.tmp rfl)) ?_
           exact ⟨congrArg Value.bool (Eq.symm (by first | exact tab_row (k := k) (by omega) (by unfold rowB; rw [Bool.and_eq_false_iff]; first | exact .inl (by assumption) | exact .inr (by assumption)) | (obtain ⟨i, rfl⟩ := back1 (k := k) (by omega); simp only [pred1] at *; exact tab_step (k := i) (by omega) (by first | exact neq_n (by assumption) | exact step_n (.inl (by omega)) | exact step_n (.inr (.inl (by omega))))))), hS194.ext⟩
          ·skip
           have hA209 := hA186.as [(6, (Value.int .i64 (k : Int))), (5, (Value.bool (decide (((t.rows.getD 0 (0, 0)).2) < ((t.rows.getD 1 (0, 0)).2))))), (3, (bptr b4 0))] rfl; clear hA186
           by_cases hb211 : ((t.rows.getD k (0, 0)).2) = ((t.rows.getD (((k : Int) - 1).toNat) (0, 0)).2)
           ·skip
            have hA212 := hA209.as [(6, (Value.int .i64 (k : Int))), (5, (Value.bool (decide (((t.rows.getD 0 (0, 0)).2) < ((t.rows.getD 1 (0, 0)).2))))), (3, (bptr b4 0))] rfl; clear hA209
            refine c_drawn mixed hA212 hS130 49 [[], [0], [1], [2], [2, 3], [2], [2, 4, 5], [2, 6], [2, 7], [2], [2, 9], [2], [2, 11], [2, 10, 12], [2, 13], [2, 14], [2, 8, 15], [2, 16], [17], [17, 18], [17], [17, 19, 20], [17, 21], [17, 22], [17], [17, 24], [17], [17, 26], [17, 25, 27], [17, 28], [17, 29], [17, 23, 30], [2, 17, 31], [2, 32], [33], [33, 34], [33], [33, 35, 36], [33, 37], [33, 38], [33], [33, 40], [33], [33, 42], [33, 41, 43], [33, 44], [33, 45], [33, 39, 46], [33]] [(Yd.val (Value.int .i64 (k : Int))), (Yd.val (Value.bool true)), (Yd.val (Value.bool true)), (Yd.val (bptr b4 2)), (Yd.val vr), (Yd.val (Value.int .i64 (k : Int))), (Yd.val (eptr vr (k * 2))), (Yd.val (eptr vr (k * 2 + 0))), (Yd.val (Value.int .i64 ((t.rows.getD k (0, 0)).1))), (Yd.val (bptr b4 2)), (Yd.val vr), (Yd.val (Value.int .i64 (k : Int))), (Yd.val (Value.int .i64 ((k : Int) - 1))), (Yd.val (eptr vr (((k : Int) - 1).toNat * 2))), (Yd.val (eptr vr (((k : Int) - 1).toNat * 2 + 0))), (Yd.val (Value.int .i64 ((t.rows.getD (((k : Int) - 1).toNat) (0, 0)).1))), (Yd.val (Value.bool false)), (Yd.val (Value.bool false)), (Yd.val (bptr b4 2)), (Yd.val vr), (Yd.val (Value.int .i64 (k : Int))), (Yd.val (eptr vr (k * 2))), (Yd.val (eptr vr (k * 2 + 1))), (Yd.val (Value.int .i64 ((t.rows.getD k (0, 0)).2))), (Yd.val (bptr b4 2)), (Yd.val vr), (Yd.val (Value.int .i64 (k : Int))), (Yd.val (Value.int .i64 ((k : Int) - 1))), (Yd.val (eptr vr (((k : Int) - 1).toNat * 2))), (Yd.val (eptr vr (((k : Int) - 1).toNat * 2 + 1))), (Yd.val (Value.int .i64 ((t.rows.getD (((k : Int) - 1).toNat) (0, 0)).2))), (Yd.val (Value.bool true)), (Yd.val (Value.bool true)), (Yd.val (Value.bool true)), (Yd.val undef), (Yd.val undef), (Yd.val undef), (Yd.val undef), (Yd.val undef), (Yd.val undef), (Yd.val undef), (Yd.val undef), (Yd.val undef), (Yd.val undef), (Yd.val undef), (Yd.val undef), (Yd.val undef), (Yd.val undef), (Yd.val undef)] (by decide +kernel) rfl rfl ?_ ?_
            ·skip
             refine dq (fun a w hA hS hd => op_move rfl (hA.ev rfl)) ?_
             refine ⟨fun a w hA hS hd => by have e0 := hx hd 0; exact opG_of rfl (dv (op_gtr rfl (tmp_ev e0) (evc _ _)) hS (by show Value.bool _ = _; simp only [decide_eq_true hb185, decide_true, decide_false, Bool.not_true, Bool.not_false])), ?_⟩
             refine dq (fun a w hA hS hd => op_move rfl (hq hd 1)) ?_
             refine dy 2 (fun a w hA hS hd => op_field rfl fd_46_2 (hA.ev rfl)) ?_
             refine dy 2 (fun a w hA hS hd => op_load1 rfl ty_43 (hq hd 3) (hS.bk 0 rfl) rfl) ?_
             refine dy 2 (fun a w hA hS hd => op_move rfl (hA.ev rfl)) ?_
             refine dy 2 (fun a w hA hS hd => op_indexS rfl un_43 ty_75 (hq hd 4) (i := k) (hq hd 5) (hS.sk 1 rfl) (by decide) (by omega)) ?_
             refine dy 2 (fun a w hA hS hd => op_fieldS rfl fd_75_0 (hq hd 6) (hS.sk 1 rfl) (by rw [((hS.sk 1 rfl)).1]; omega)) ?_
             refine dy 2 (fun a w hA hS hd => op_load1E rfl ty_3 (hq hd 7) (hS.sk 1 rfl) (pairs_at0 (by omega))) ?_
             refine dy 2 (fun a w hA hS hd => op_field rfl fd_46_2 (hA.ev rfl)) ?_
             refine dy 2 (fun a w hA hS hd => op_load1 rfl ty_43 (hq hd 9) (hS.bk 0 rfl) rfl) ?_
             refine dy 2 (fun a w hA hS hd => op_move rfl (hA.ev rfl)) ?_
             refine dy 2 (fun a w hA hS hd => op_sub rfl (hq hd 11) (evc _ _) (by omega) (by omega)) ?_
             refine dy 2 (fun a w hA hS hd => op_indexS rfl un_43 ty_75 (hq hd 10) (i := ((k : Int) - 1).toNat) ((hq hd 12).trans (int_nat (by omega))) (hS.sk 1 rfl) (by decide) (by omega)) ?_
             refine dy 2 (fun a w hA hS hd => op_fieldS rfl fd_75_0 (hq hd 13) (hS.sk 1 rfl) (by rw [((hS.sk 1 rfl)).1]; omega)) ?_
             refine dy 2 (fun a w hA hS hd => op_load1E rfl ty_3 (hq hd 14) (hS.sk 1 rfl) (pairs_at0 (by omega))) ?_
             refine ⟨fun a w hA hS hd => by have e2 := hx hd 2; have e8 := hx hd 8; have e15 := hx hd 15; exact opG_yes rfl rfl e2 (dv (op_leq rfl (tmp_ev e8) (tmp_ev e15)) hS (by show Value.bool _ = _; simp only [decide_eq_false hb188, decide_true, decide_false, Bool.not_true, Bool.not_false])), ?_⟩
             refine dy 2 (fun a w hA hS hd => op_move rfl (hq hd 16)) ?_
             refine dy 17 (fun a w hA hS hd => op_field rfl fd_46_2 (hA.ev rfl)) ?_
             refine dy 17 (fun a w hA hS hd => op_load1 rfl ty_43 (hq hd 18) (hS.bk 0 rfl) rfl) ?_
             refine dy 17 (fun a w hA hS hd => op_move rfl (hA.ev rfl)) ?_
             refine dy 17 (fun a w hA hS hd => op_indexS rfl un_43 ty_75 (hq hd 19) (i := k) (hq hd 20) (hS.sk 1 rfl) (by decide) (by omega)) ?_
             refine dy 17 (fun a w hA hS hd => op_fieldS rfl fd_75_1 (hq hd 21) (hS.sk 1 rfl) (by rw [((hS.sk 1 rfl)).1]; omega)) ?_
             refine dy 17 (fun a w hA hS hd => op_load1E rfl ty_3 (hq hd 22) (hS.sk 1 rfl) (pairs_at1 (by omega))) ?_
             refine dy 17 (fun a w hA hS hd => op_field rfl fd_46_2 (hA.ev rfl)) ?_
             refine dy 17 (fun a w hA hS hd => op_load1 rfl ty_43 (hq hd 24) (hS.bk 0 rfl) rfl) ?_
             refine dy 17 (fun a w hA hS hd => op_move rfl (hA.ev rfl)) ?_
             refine dy 17 (fun a w hA hS hd => op_sub rfl (hq hd 26) (evc _ _) (by omega) (by omega)) ?_
             refine dy 17 (fun a w hA hS hd => op_indexS rfl un_43 ty_75 (hq hd 25) (i := ((k : Int) - 1).toNat) ((hq hd 27).trans (int_nat (by omega))) (hS.sk 1 rfl) (by decide) (by omega)) ?_
             refine dy 17 (fun a w hA hS hd => op_fieldS rfl fd_75_1 (hq hd 28) (hS.sk 1 rfl) (by rw [((hS.sk 1 rfl)).1]; omega)) ?_
             refine dy 17 (fun a w hA hS hd => op_load1E rfl ty_3 (hq hd 29) (hS.sk 1 rfl) (pairs_at1 (by omega))) ?_
             refine ⟨fun a w hA hS hd => by have e17 := hx hd 17; have e23 := hx hd 23; have e30 := hx hd 30; exact opG_yes rfl rfl e17 (dv (op_eql rfl (tmp_ev e23) (tmp_ev e30)) hS (by show Value.bool _ = _; simp only [decide_eq_true hb211, decide_true, decide_false, Bool.not_true, Bool.not_false])), ?_⟩
             refine dy 2 (fun a w hA hS hd => op_pick_f rfl (hq hd 17) (hq hd 31)) ?_
             refine dy 2 (fun a w hA hS hd => op_move rfl (hq hd 32)) ?_
             refine dn 33 ?_
             refine dn 33 ?_
             refine dn 33 ?_
             refine dn 33 ?_
             refine dn 33 ?_
             refine dn 33 ?_
             refine dn 33 ?_
             refine dn 33 ?_
             refine dn 33 ?_
             refine dn 33 ?_
             refine dn 33 ?_
             refine dn 33 ?_
             refine dn 33 ?_
             refine dn 33 ?_
             refine dn 33 ?_
             trivial
            intro a214 w215 hA216 hS217 hH218; clear hA212 hS130
            have hA219 := hA216.add (hz hH218 2); clear hA216
            have hA220 := hA219.add (hz hH218 33); clear hA219
            have hA221 := hA220.add (hz hH218 47); clear hA220
            have hA222 := hA221.add (hz hH218 48); clear hA221
            clear hH218
            refine s3 hA222 fun a223 hA224 => ?_; clear hA222 a214
            refine s5 hA224 (op_pick_t rfl (hA224.ev rfl) (evc _ _)) fun a225 hA226 => ?_; clear hA224 a223
            refine s1 hA226 (op_pick_t rfl (hA226.ev rfl) (hA226.ev rfl)) fun a227 hA228 => ?_; clear hA226 a225
            refine n1 ?_
            refine c_true hA228 rfl ?_
            refine c_seq ?_
            have hA229 := hA228.as [] rfl; clear hA228
            refine c_region ?_
            refine s1 hA229 (op_assign rfl (evc _ _)) fun a230 hA231 => ?_; clear hA229 a227
            refine n1 ?_
            refine c_ret ?_
            refine blk_ret ?_
            refine then_ret ?_
            refine then_ret ?_
            refine blk_ret ?_
            refine then_ret ?_
            refine fin_run hA231 (.inl rfl) (run_results1 hA231 rfl (.tmp rfl)) ?_
            exact ⟨congrArg Value.bool (Eq.symm (by first | exact tab_row (k := k) (by omega) (by unfold rowB; rw [Bool.and_eq_false_iff]; first | exact .inl (by assumption) | exact .inr (by assumption)) | (obtain ⟨i, rfl⟩ := back1 (k := k) (by omega); simp only [pred1] at *; exact tab_step (k := i) (by omega) (by first | exact neq_n (by assumption) | exact step_n (.inl (by omega)) | exact step_n (.inr (.inl (by omega))))))), hS217.ext⟩
           ·skip
            have hA232 := hA209.as [(6, (Value.int .i64 (k : Int))), (5, (Value.bool (decide (((t.rows.getD 0 (0, 0)).2) < ((t.rows.getD 1 (0, 0)).2))))), (3, (bptr b4 0))] rfl; clear hA209
            refine c_drawn mixed hA232 hS130 49 [[], [0], [1], [2], [2, 3], [2], [2, 4, 5], [2, 6], [2, 7], [2], [2, 9], [2], [2, 11], [2, 10, 12], [2, 13], [2, 14], [2, 8, 15], [2, 16], [17], [17, 18], [17], [17, 19, 20], [17, 21], [17, 22], [17], [17, 24], [17], [17, 26], [17, 25, 27], [17, 28], [17, 29], [17, 23, 30], [2, 17, 31], [2, 32], [33], [33, 34], [33], [33, 35, 36], [33, 37], [33, 38], [33], [33, 40], [33], [33, 42], [33, 41, 43], [33, 44], [33, 45], [33, 39, 46], [33]] [(Yd.val (Value.int .i64 (k : Int))), (Yd.val (Value.bool true)), (Yd.val (Value.bool true)), (Yd.val (bptr b4 2)), (Yd.val vr), (Yd.val (Value.int .i64 (k : Int))), (Yd.val (eptr vr (k * 2))), (Yd.val (eptr vr (k * 2 + 0))), (Yd.val (Value.int .i64 ((t.rows.getD k (0, 0)).1))), (Yd.val (bptr b4 2)), (Yd.val vr), (Yd.val (Value.int .i64 (k : Int))), (Yd.val (Value.int .i64 ((k : Int) - 1))), (Yd.val (eptr vr (((k : Int) - 1).toNat * 2))), (Yd.val (eptr vr (((k : Int) - 1).toNat * 2 + 0))), (Yd.val (Value.int .i64 ((t.rows.getD (((k : Int) - 1).toNat) (0, 0)).1))), (Yd.val (Value.bool false)), (Yd.val (Value.bool false)), (Yd.val (bptr b4 2)), (Yd.val vr), (Yd.val (Value.int .i64 (k : Int))), (Yd.val (eptr vr (k * 2))), (Yd.val (eptr vr (k * 2 + 1))), (Yd.val (Value.int .i64 ((t.rows.getD k (0, 0)).2))), (Yd.val (bptr b4 2)), (Yd.val vr), (Yd.val (Value.int .i64 (k : Int))), (Yd.val (Value.int .i64 ((k : Int) - 1))), (Yd.val (eptr vr (((k : Int) - 1).toNat * 2))), (Yd.val (eptr vr (((k : Int) - 1).toNat * 2 + 1))), (Yd.val (Value.int .i64 ((t.rows.getD (((k : Int) - 1).toNat) (0, 0)).2))), (Yd.val (Value.bool false)), (Yd.val (Value.bool false)), (Yd.val (Value.bool false)), (Yd.val (bptr b4 2)), (Yd.val vr), (Yd.val (Value.int .i64 (k : Int))), (Yd.val (eptr vr (k * 2))), (Yd.val (eptr vr (k * 2 + 1))), (Yd.val (Value.int .i64 ((t.rows.getD k (0, 0)).2))), (Yd.val (bptr b4 2)), (Yd.val vr), (Yd.val (Value.int .i64 (k : Int))), (Yd.val (Value.int .i64 ((k : Int) - 1))), (Yd.val (eptr vr (((k : Int) - 1).toNat * 2))), (Yd.val (eptr vr (((k : Int) - 1).toNat * 2 + 1))), (Yd.val (Value.int .i64 ((t.rows.getD (((k : Int) - 1).toNat) (0, 0)).2))), (Yd.val (Value.bool (decide (((t.rows.getD (((k : Int) - 1).toNat) (0, 0)).2) < ((t.rows.getD k (0, 0)).2))))), (Yd.val (Value.bool (decide (((t.rows.getD 0 (0, 0)).2) < ((t.rows.getD 1 (0, 0)).2)))))] (by decide +kernel) rfl rfl ?_ ?_
            ·skip
             refine dq (fun a w hA hS hd => op_move rfl (hA.ev rfl)) ?_
             refine ⟨fun a w hA hS hd => by have e0 := hx hd 0; exact opG_of rfl (dv (op_gtr rfl (tmp_ev e0) (evc _ _)) hS (by show Value.bool _ = _; simp only [decide_eq_true hb185, decide_true, decide_false, Bool.not_true, Bool.not_false])), ?_⟩
             refine dq (fun a w hA hS hd => op_move rfl (hq hd 1)) ?_
             refine dy 2 (fun a w hA hS hd => op_field rfl fd_46_2 (hA.ev rfl)) ?_
             refine dy 2 (fun a w hA hS hd => op_load1 rfl ty_43 (hq hd 3) (hS.bk 0 rfl) rfl) ?_
             refine dy 2 (fun a w hA hS hd => op_move rfl (hA.ev rfl)) ?_
             refine dy 2 (fun a w hA hS hd => op_indexS rfl un_43 ty_75 (hq hd 4) (i := k) (hq hd 5) (hS.sk 1 rfl) (by decide) (by omega)) ?_
             refine dy 2 (fun a w hA hS hd => op_fieldS rfl fd_75_0 (hq hd 6) (hS.sk 1 rfl) (by rw [((hS.sk 1 rfl)).1]; omega)) ?_
             refine dy 2 (fun a w hA hS hd => op_load1E rfl ty_3 (hq hd 7) (hS.sk 1 rfl) (pairs_at0 (by omega))) ?_
             refine dy 2 (fun a w hA hS hd => op_field rfl fd_46_2 (hA.ev rfl)) ?_
             refine dy 2 (fun a w hA hS hd => op_load1 rfl ty_43 (hq hd 9) (hS.bk 0 rfl) rfl) ?_
             refine dy 2 (fun a w hA hS hd => op_move rfl (hA.ev rfl)) ?_
             refine dy 2 (fun a w hA hS hd => op_sub rfl (hq hd 11) (evc _ _) (by omega) (by omega)) ?_
             refine dy 2 (fun a w hA hS hd => op_indexS rfl un_43 ty_75 (hq hd 10) (i := ((k : Int) - 1).toNat) ((hq hd 12).trans (int_nat (by omega))) (hS.sk 1 rfl) (by decide) (by omega)) ?_
             refine dy 2 (fun a w hA hS hd => op_fieldS rfl fd_75_0 (hq hd 13) (hS.sk 1 rfl) (by rw [((hS.sk 1 rfl)).1]; omega)) ?_
             refine dy 2 (fun a w hA hS hd => op_load1E rfl ty_3 (hq hd 14) (hS.sk 1 rfl) (pairs_at0 (by omega))) ?_
             refine ⟨fun a w hA hS hd => by have e2 := hx hd 2; have e8 := hx hd 8; have e15 := hx hd 15; exact opG_yes rfl rfl e2 (dv (op_leq rfl (tmp_ev e8) (tmp_ev e15)) hS (by show Value.bool _ = _; simp only [decide_eq_false hb188, decide_true, decide_false, Bool.not_true, Bool.not_false])), ?_⟩
             refine dy 2 (fun a w hA hS hd => op_move rfl (hq hd 16)) ?_
             refine dy 17 (fun a w hA hS hd => op_field rfl fd_46_2 (hA.ev rfl)) ?_
             refine dy 17 (fun a w hA hS hd => op_load1 rfl ty_43 (hq hd 18) (hS.bk 0 rfl) rfl) ?_
             refine dy 17 (fun a w hA hS hd => op_move rfl (hA.ev rfl)) ?_
             refine dy 17 (fun a w hA hS hd => op_indexS rfl un_43 ty_75 (hq hd 19) (i := k) (hq hd 20) (hS.sk 1 rfl) (by decide) (by omega)) ?_
             refine dy 17 (fun a w hA hS hd => op_fieldS rfl fd_75_1 (hq hd 21) (hS.sk 1 rfl) (by rw [((hS.sk 1 rfl)).1]; omega)) ?_
             refine dy 17 (fun a w hA hS hd => op_load1E rfl ty_3 (hq hd 22) (hS.sk 1 rfl) (pairs_at1 (by omega))) ?_
             refine dy 17 (fun a w hA hS hd => op_field rfl fd_46_2 (hA.ev rfl)) ?_
             refine dy 17 (fun a w hA hS hd => op_load1 rfl ty_43 (hq hd 24) (hS.bk 0 rfl) rfl) ?_
             refine dy 17 (fun a w hA hS hd => op_move rfl (hA.ev rfl)) ?_
             refine dy 17 (fun a w hA hS hd => op_sub rfl (hq hd 26) (evc _ _) (by omega) (by omega)) ?_
             refine dy 17 (fun a w hA hS hd => op_indexS rfl un_43 ty_75 (hq hd 25) (i := ((k : Int) - 1).toNat) ((hq hd 27).trans (int_nat (by omega))) (hS.sk 1 rfl) (by decide) (by omega)) ?_
             refine dy 17 (fun a w hA hS hd => op_fieldS rfl fd_75_1 (hq hd 28) (hS.sk 1 rfl) (by rw [((hS.sk 1 rfl)).1]; omega)) ?_
             refine dy 17 (fun a w hA hS hd => op_load1E rfl ty_3 (hq hd 29) (hS.sk 1 rfl) (pairs_at1 (by omega))) ?_
             refine ⟨fun a w hA hS hd => by have e17 := hx hd 17; have e23 := hx hd 23; have e30 := hx hd 30; exact opG_yes rfl rfl e17 (dv (op_eql rfl (tmp_ev e23) (tmp_ev e30)) hS (by show Value.bool _ = _; simp only [decide_eq_false hb211, decide_true, decide_false, Bool.not_true, Bool.not_false])), ?_⟩
             refine dy 2 (fun a w hA hS hd => op_pick_f rfl (hq hd 17) (hq hd 31)) ?_
             refine dy 2 (fun a w hA hS hd => op_move rfl (hq hd 32)) ?_
             refine dy 33 (fun a w hA hS hd => op_field rfl fd_46_2 (hA.ev rfl)) ?_
             refine dy 33 (fun a w hA hS hd => op_load1 rfl ty_43 (hq hd 34) (hS.bk 0 rfl) rfl) ?_
             refine dy 33 (fun a w hA hS hd => op_move rfl (hA.ev rfl)) ?_
             refine dy 33 (fun a w hA hS hd => op_indexS rfl un_43 ty_75 (hq hd 35) (i := k) (hq hd 36) (hS.sk 1 rfl) (by decide) (by omega)) ?_
             refine dy 33 (fun a w hA hS hd => op_fieldS rfl fd_75_1 (hq hd 37) (hS.sk 1 rfl) (by rw [((hS.sk 1 rfl)).1]; omega)) ?_
             refine dy 33 (fun a w hA hS hd => op_load1E rfl ty_3 (hq hd 38) (hS.sk 1 rfl) (pairs_at1 (by omega))) ?_
             refine dy 33 (fun a w hA hS hd => op_field rfl fd_46_2 (hA.ev rfl)) ?_
             refine dy 33 (fun a w hA hS hd => op_load1 rfl ty_43 (hq hd 40) (hS.bk 0 rfl) rfl) ?_
             refine dy 33 (fun a w hA hS hd => op_move rfl (hA.ev rfl)) ?_
             refine dy 33 (fun a w hA hS hd => op_sub rfl (hq hd 42) (evc _ _) (by omega) (by omega)) ?_
             refine dy 33 (fun a w hA hS hd => op_indexS rfl un_43 ty_75 (hq hd 41) (i := ((k : Int) - 1).toNat) ((hq hd 43).trans (int_nat (by omega))) (hS.sk 1 rfl) (by decide) (by omega)) ?_
             refine dy 33 (fun a w hA hS hd => op_fieldS rfl fd_75_1 (hq hd 44) (hS.sk 1 rfl) (by rw [((hS.sk 1 rfl)).1]; omega)) ?_
             refine dy 33 (fun a w hA hS hd => op_load1E rfl ty_3 (hq hd 45) (hS.sk 1 rfl) (pairs_at1 (by omega))) ?_
             refine dy 33 (fun a w hA hS hd => op_gtr rfl (hq hd 39) (hq hd 46)) ?_
             refine dy 33 (fun a w hA hS hd => op_move rfl (hA.ev rfl)) ?_
             trivial
            intro a234 w235 hA236 hS237 hH238; clear hA232 hS130
            have hA239 := hA236.add (hz hH238 2); clear hA236
            have hA240 := hA239.add (hz hH238 33); clear hA239
            have hA241 := hA240.add (hz hH238 47); clear hA240
            have hA242 := hA241.add (hz hH238 48); clear hA241
            clear hH238
            refine s5 hA242 (op_neqB un_4 rfl (hA242.ev rfl) (hA242.ev rfl)) fun a243 hA244 => ?_; clear hA242 a234
            refine s5 hA244 (op_pick_f rfl (hA244.ev rfl) (hA244.ev rfl)) fun a245 hA246 => ?_; clear hA244 a243
            refine s1 hA246 (op_pick_t rfl (hA246.ev rfl) (hA246.ev rfl)) fun a247 hA248 => ?_; clear hA246 a245
            refine n1 ?_
            rcases Bool.eq_false_or_eq_true ((decide (((t.rows.getD (((k : Int) - 1).toNat) (0, 0)).2) < ((t.rows.getD k (0, 0)).2))) == (decide (((t.rows.getD 0 (0, 0)).2) < ((t.rows.getD 1 (0, 0)).2)))) with hb249 | hb249
            ·skip
             rw [hb249] at hA248
             refine c_false hA248 rfl ?_
             refine c_skip ?_
             refine blk_n ?_
             refine then_n ?_
             have hA250 := hA248.as [(6, (Value.int .i64 (k : Int))), (5, (Value.bool (decide (((t.rows.getD 0 (0, 0)).2) < ((t.rows.getD 1 (0, 0)).2))))), (3, (bptr b4 0))] rfl; clear hA248
             refine c_region ?_
             refine s1 hA250 (op_move rfl (hA250.ev rfl)) fun a251 hA252 => ?_; clear hA250 a247
             refine s1 hA252 (op_add rfl (hA252.ev rfl) (evc _ _) (by omega) (by omega)) fun a253 hA254 => ?_; clear hA252 a251
             refine s1 hA254 (op_assign rfl (hA254.ev rfl)) fun a255 hA256 => ?_; clear hA254 a253
             refine wl_nil ?_
             exact then_n ⟨k + 1, ⟨hA256.as _ rfl, hS237, by omega, (fun i hi => by rcases Nat.lt_succ_iff_lt_or_eq.1 hi with h | h; exact hrw i h; subst h; (unfold rowB; rw [Bool.and_eq_true]; exact ⟨by assumption, by assumption⟩)), (fun i hi => by rcases Nat.lt_succ_iff_lt_or_eq.1 hi with h | h; exact hst i h; subst h; first | (exfalso; omega) | (simp only [pred1] at *; exact neq_y (by omega) (by omega) (by assumption)))⟩, by omega⟩
            ·skip
             rw [hb249] at hA248
             refine c_true hA248 rfl ?_
             refine c_seq ?_
             have hA257 := hA248.as [] rfl; clear hA248
             refine c_region ?_
             refine s1 hA257 (op_assign rfl (evc _ _)) fun a258 hA259 => ?_; clear hA257 a247
             refine n1 ?_
             refine c_ret ?_
             refine blk_ret ?_
             refine then_ret ?_
             refine then_ret ?_
             refine blk_ret ?_
             refine then_ret ?_
             refine fin_run hA259 (.inl rfl) (run_results1 hA259 rfl (.tmp rfl)) ?_
             exact ⟨congrArg Value.bool (Eq.symm (by first | exact tab_row (k := k) (by omega) (by unfold rowB; rw [Bool.and_eq_false_iff]; first | exact .inl (by assumption) | exact .inr (by assumption)) | (obtain ⟨i, rfl⟩ := back1 (k := k) (by omega); simp only [pred1] at *; exact tab_step (k := i) (by omega) (by first | exact neq_n (by assumption) | exact step_n (.inl (by omega)) | exact step_n (.inr (.inl (by omega))))))), hS237.ext⟩
         ·skip
          have hA260 := hA183.as [(6, (Value.int .i64 (k : Int))), (5, (Value.bool (decide (((t.rows.getD 0 (0, 0)).2) < ((t.rows.getD 1 (0, 0)).2))))), (3, (bptr b4 0))] rfl; clear hA183
          refine c_drawn mixed hA260 hS130 49 [[], [0], [1], [2], [2, 3], [2], [2, 4, 5], [2, 6], [2, 7], [2], [2, 9], [2], [2, 11], [2, 10, 12], [2, 13], [2, 14], [2, 8, 15], [2, 16], [17], [17, 18], [17], [17, 19, 20], [17, 21], [17, 22], [17], [17, 24], [17], [17, 26], [17, 25, 27], [17, 28], [17, 29], [17, 23, 30], [2, 17, 31], [2, 32], [33], [33, 34], [33], [33, 35, 36], [33, 37], [33, 38], [33], [33, 40], [33], [33, 42], [33, 41, 43], [33, 44], [33, 45], [33, 39, 46], [33]] [(Yd.val (Value.int .i64 (k : Int))), (Yd.val (Value.bool false)), (Yd.val (Value.bool false)), (Yd.val undef), (Yd.val undef), (Yd.val undef), (Yd.val undef), (Yd.val undef), (Yd.val undef), (Yd.val undef), (Yd.val undef), (Yd.val undef), (Yd.val undef), (Yd.val undef), (Yd.val undef), (Yd.val undef), (Yd.val undef), (Yd.val undef), (Yd.val undef), (Yd.val undef), (Yd.val undef), (Yd.val undef), (Yd.val undef), (Yd.val undef), (Yd.val undef), (Yd.val undef), (Yd.val undef), (Yd.val undef), (Yd.val undef), (Yd.val undef), (Yd.val undef), (Yd.val undef), (Yd.val undef), (Yd.val undef), (Yd.val undef), (Yd.val undef), (Yd.val undef), (Yd.val undef), (Yd.val undef), (Yd.val undef), (Yd.val undef), (Yd.val undef), (Yd.val undef), (Yd.val undef), (Yd.val undef), (Yd.val undef), (Yd.val undef), (Yd.val undef), (Yd.val undef)] (by decide +kernel) rfl rfl ?_ ?_
          ·skip
           refine dq (fun a w hA hS hd => op_move rfl (hA.ev rfl)) ?_
           refine ⟨fun a w hA hS hd => by have e0 := hx hd 0; exact opG_of rfl (dv (op_gtr rfl (tmp_ev e0) (evc _ _)) hS (by show Value.bool _ = _; simp only [decide_eq_false hb185, decide_true, decide_false, Bool.not_true, Bool.not_false])), ?_⟩
           refine dq (fun a w hA hS hd => op_move rfl (hq hd 1)) ?_
           refine dn 2 ?_
           refine dn 2 ?_
           refine dn 2 ?_
           refine dn 2 ?_
           refine dn 2 ?_
           refine dn 2 ?_
           refine dn 2 ?_
           refine dn 2 ?_
           refine dn 2 ?_
           refine dn 2 ?_
           refine dn 2 ?_
           refine dn 2 ?_
           refine dn 2 ?_
           refine dn 2 ?_
           refine dn 2 ?_
           refine du 17 ?_
           refine du 17 ?_
           refine du 17 ?_
           refine du 17 ?_
           refine du 17 ?_
           refine du 17 ?_
           refine du 17 ?_
           refine du 17 ?_
           refine du 17 ?_
           refine du 17 ?_
           refine du 17 ?_
           refine du 17 ?_
           refine du 17 ?_
           refine du 17 ?_
           refine dn 2 ?_
           refine dn 2 ?_
           refine du 33 ?_
           refine du 33 ?_
           refine du 33 ?_
           refine du 33 ?_
           refine du 33 ?_
           refine du 33 ?_
           refine du 33 ?_
           refine du 33 ?_
           refine du 33 ?_
           refine du 33 ?_
           refine du 33 ?_
           refine du 33 ?_
           refine du 33 ?_
           refine du 33 ?_
           refine du 33 ?_
           trivial
          intro a262 w263 hA264 hS265 hH266; clear hA260 hS130
          have hA267 := hA264.add (hz hH266 2); clear hA264
          have hA268 := hA267.add (hz hH266 33); clear hA267
          have hA269 := hA268.add (hz hH266 47); clear hA268
          have hA270 := hA269.add (hz hH266 48); clear hA269
          clear hH266
          refine s4 hA270 fun a271 hA272 => ?_; clear hA270 a262
          refine s3 hA272 fun a273 hA274 => ?_; clear hA272 a271
          refine s1 hA274 (op_pick_f rfl (hA274.ev rfl) (evc _ _)) fun a275 hA276 => ?_; clear hA274 a273
          refine n1 ?_
          refine c_false hA276 rfl ?_
          refine c_skip ?_
          refine blk_n ?_
          refine then_n ?_
          have hA277 := hA276.as [(6, (Value.int .i64 (k : Int))), (5, (Value.bool (decide (((t.rows.getD 0 (0, 0)).2) < ((t.rows.getD 1 (0, 0)).2))))), (3, (bptr b4 0))] rfl; clear hA276
          refine c_region ?_
          refine s1 hA277 (op_move rfl (hA277.ev rfl)) fun a278 hA279 => ?_; clear hA277 a275
          refine s1 hA279 (op_add rfl (hA279.ev rfl) (evc _ _) (by omega) (by omega)) fun a280 hA281 => ?_; clear hA279 a278
          refine s1 hA281 (op_assign rfl (hA281.ev rfl)) fun a282 hA283 => ?_; clear hA281 a280
          refine wl_nil ?_
          exact then_n ⟨k + 1, ⟨hA283.as _ rfl, hS265, by omega, (fun i hi => by rcases Nat.lt_succ_iff_lt_or_eq.1 hi with h | h; exact hrw i h; subst h; (unfold rowB; rw [Bool.and_eq_true]; exact ⟨by assumption, by assumption⟩)), (fun i hi => by rcases Nat.lt_succ_iff_lt_or_eq.1 hi with h | h; exact hst i h; subst h; first | (exfalso; omega) | (simp only [pred1] at *; exact neq_y (by omega) (by omega) (by assumption)))⟩, by omega⟩
        ·skip
         rw [hb181] at hA180
         refine c_true hA180 rfl ?_
         refine c_seq ?_
         have hA284 := hA180.as [] rfl; clear hA180
         refine c_region ?_
         refine s1 hA284 (op_assign rfl (evc _ _)) fun a285 hA286 => ?_; clear hA284 a179
         refine n1 ?_
         refine c_ret ?_
         refine then_ret ?_
         refine blk_ret ?_
         refine then_ret ?_
         refine then_ret ?_
         refine blk_ret ?_
         refine then_ret ?_
         refine fin_run hA286 (.inl rfl) (run_results1 hA286 rfl (.tmp rfl)) ?_
         exact ⟨congrArg Value.bool (Eq.symm (by first | exact tab_row (k := k) (by omega) (by unfold rowB; rw [Bool.and_eq_false_iff]; first | exact .inl (by assumption) | exact .inr (by assumption)) | (obtain ⟨i, rfl⟩ := back1 (k := k) (by omega); simp only [pred1] at *; exact tab_step (k := i) (by omega) (by first | exact neq_n (by assumption) | exact step_n (.inl (by omega)) | exact step_n (.inr (.inl (by omega))))))), hS130.ext⟩
       ·skip
        rw [hb161] at hA160
        refine s3 hA160 fun a287 hA288 => ?_; clear hA160 a159
        refine s3 hA288 fun a289 hA290 => ?_; clear hA288 a287
        refine s3 hA290 fun a291 hA292 => ?_; clear hA290 a289
        refine s3 hA292 fun a293 hA294 => ?_; clear hA292 a291
        refine s3 hA294 fun a295 hA296 => ?_; clear hA294 a293
        refine s3 hA296 fun a297 hA298 => ?_; clear hA296 a295
        refine s3 hA298 fun a299 hA300 => ?_; clear hA298 a297
        refine s3 hA300 fun a301 hA302 => ?_; clear hA300 a299
        refine s1 hA302 (op_pick_t rfl (hA302.ev rfl) (evc _ _)) fun a303 hA304 => ?_; clear hA302 a301
        refine n1 ?_
        refine c_true hA304 rfl ?_
        refine c_seq ?_
        have hA305 := hA304.as [] rfl; clear hA304
        refine c_region ?_
        refine s1 hA305 (op_assign rfl (evc _ _)) fun a306 hA307 => ?_; clear hA305 a303
        refine n1 ?_
        refine c_ret ?_
        refine then_ret ?_
        refine blk_ret ?_
        refine then_ret ?_
        refine then_ret ?_
        refine blk_ret ?_
        refine then_ret ?_
        refine fin_run hA307 (.inl rfl) (run_results1 hA307 rfl (.tmp rfl)) ?_
        exact ⟨congrArg Value.bool (Eq.symm (by first | exact tab_row (k := k) (by omega) (by unfold rowB; rw [Bool.and_eq_false_iff]; first | exact .inl (by assumption) | exact .inr (by assumption)) | (obtain ⟨i, rfl⟩ := back1 (k := k) (by omega); simp only [pred1] at *; exact tab_step (k := i) (by omega) (by first | exact neq_n (by assumption) | exact step_n (.inl (by omega)) | exact step_n (.inr (.inl (by omega))))))), hS130.ext⟩
      ·skip
       rw [decide_eq_false hb141] at hA140
       refine c_false hA140 rfl ?_
       refine c_exit ?_
       refine then_exit ?_
       refine then_exit ?_
       refine blk_hit ?_
       refine then_n ?_
       refine c_seq ?_
       refine c_seq ?_
       have hA308 := hA140.as [(3, (bptr b4 0))] rfl; clear hA140
       refine c_region ?_
       refine s1 hA308 (op_assign rfl (evc _ _)) fun a309 hA310 => ?_; clear hA308 a139
       refine n1 ?_
       refine c_block ?_
       have hA311 := hA310.as [(7, (Value.int .i64 0)), (3, (bptr b4 0))] rfl; clear hA310
       refine c_loop (G := Nat) (fun (k1 : Nat) a_ w_ => Fr 165 [] [(7, (Value.int .i64 (k1 : Int))), (3, (bptr b4 0))] a_ ∧ Sep NoB w w_ [(blk b4 46 [(Value.int .i64 t.frm), (Value.int .i64 t.dst), vr, vb, (Value.int .i64 t.err)]), (sl vr 2 t.rows.length (pairs t.rows)), (sl vb 1 t.brk.length (ints t.brk))] ∧ (k1 ≤ t.brk.length) ∧ (∀ i, i < k1 → 0 ≤ t.brk.getD i 0) ∧ (∀ i, i < k1 → brkB t i = true)) (fun k1 => t.brk.length - k1) 0 ⟨hA311.as _ rfl, hS130, by omega, (fun _ h => absurd h (Nat.not_lt_zero _)), (fun _ h => absurd h (Nat.not_lt_zero _))⟩ ?_
       clear hA311 hS130 a309
       rintro k1 a312 w314 ⟨hA313, hS315, hkk1, hbk0, hbk⟩
       refine c_seq ?_
       refine m2 ?_
       refine s1 hA313 (op_move rfl (hA313.ev rfl)) fun a316 hA317 => ?_; clear hA313 a312
       refine s1 hA317 (op_field rfl fd_46_3 (hA317.ev rfl)) fun a318 hA319 => ?_; clear hA317 a316
       refine s1 hA319 (op_load1 rfl ty_44 (hA319.ev rfl) (hS315.bk 0 rfl) rfl) fun a320 hA321 => ?_; clear hA319 a318
       refine s1 hA321 (op_lenS rfl un_44 (hA321.ev rfl) (hS315.sk 2 rfl)) fun a322 hA323 => ?_; clear hA321 a320
       refine s1 hA323 (op_lss rfl (hA323.ev rfl) (hA323.ev rfl)) fun a324 hA325 => ?_; clear hA323 a322
       refine n1 ?_
       by_cases hb326 : (k1 : Int) < (t.brk.length : Int)
       ·skip
        rw [decide_eq_true hb326] at hA325
        refine c_true hA325 rfl ?_
        refine c_skip ?_
        refine then_n ?_
        refine c_seq ?_
        refine c_block ?_
        refine c_seq ?_
        have hA327 := hA325.as [(7, (Value.int .i64 (k1 : Int))), (3, (bptr b4 0))] rfl; clear hA325
        rcases Bool.eq_false_or_eq_true ((inB (t.brk.getD k1 0) 0 ((t.rows.length : Int) - 2))) with hb329 | hb329
        ·skip
         have hA330 := hA327.as [(7, (Value.int .i64 (k1 : Int))), (3, (bptr b4 0))] rfl; clear hA327
         by_cases hb332 : 0 < (k1 : Int)
         ·skip
          have hA333 := hA330.as [(7, (Value.int .i64 (k1 : Int))), (3, (bptr b4 0))] rfl; clear hA330
          refine c_drawn mixed hA333 hS315 26 [[], [0], [], [1, 2], [3], [], [5], [6], [7], [4, 8], [9], [10], [11], [11, 12], [11, 13], [14], [14, 15], [14], [14, 16, 17], [14, 18], [14], [14, 20], [14], [14, 22], [14, 21, 23], [14, 24]] [(Yd.val (bptr b4 3)), (Yd.val vb), (Yd.val (Value.int .i64 (k1 : Int))), (Yd.val (eptr vb (k1 * 1))), (Yd.val (Value.int .i64 (t.brk.getD k1 0))), (Yd.val (bptr b4 2)), (Yd.val vr), (Yd.val (Value.int .i64 (t.rows.length : Int))), (Yd.val (Value.int .i64 ((t.rows.length : Int) - 2))), (Yd.val (Value.bool true)), (Yd.val (Value.bool (!true))), (Yd.val (Value.bool (!true))), (Yd.val (Value.int .i64 (k1 : Int))), (Yd.val (Value.bool true)), (Yd.val (Value.bool true)), (Yd.val (bptr b4 3)), (Yd.val vb), (Yd.val (Value.int .i64 (k1 : Int))), (Yd.val (eptr vb (k1 * 1))), (Yd.val (Value.int .i64 (t.brk.getD k1 0))), (Yd.val (bptr b4 3)), (Yd.val vb), (Yd.val (Value.int .i64 (k1 : Int))), (Yd.val (Value.int .i64 ((k1 : Int) - 1))), (Yd.val (eptr vb (((k1 : Int) - 1).toNat * 1))), (Yd.val (Value.int .i64 (t.brk.getD (((k1 : Int) - 1).toNat) 0)))] (by decide +kernel) rfl rfl ?_ ?_
          ·skip
           refine dq (fun a w hA hS hd => op_field rfl fd_46_3 (hA.ev rfl)) ?_
           refine dq (fun a w hA hS hd => op_load1 rfl ty_44 (hq hd 0) (hS.bk 0 rfl) rfl) ?_
           refine dq (fun a w hA hS hd => op_move rfl (hA.ev rfl)) ?_
           refine dq (fun a w hA hS hd => op_indexS rfl un_44 ty_3 (hq hd 1) (i := k1) (hq hd 2) (hS.sk 2 rfl) (by decide) (by omega)) ?_
           refine dq (fun a w hA hS hd => op_load1E rfl ty_3 (hq hd 3) (hS.sk 2 rfl) (ints_at (by omega))) ?_
           refine dq (fun a w hA hS hd => op_field rfl fd_46_2 (hA.ev rfl)) ?_
           refine dq (fun a w hA hS hd => op_load1 rfl ty_43 (hq hd 5) (hS.bk 0 rfl) rfl) ?_
           refine dq (fun a w hA hS hd => op_lenS rfl un_43 (hq hd 6) (hS.sk 1 rfl)) ?_
           refine dq (fun a w hA hS hd => op_sub rfl (hq hd 7) (evc _ _) (by omega) (by omega)) ?_
           refine ⟨fun a w hA hS hd => by have e4 := hx hd 4; have e8 := hx hd 8; exact opG_of rfl (dv (op_call rfl en_22 (ev3 (tmp_ev e4) (evc _ _) (tmp_ev e8)) (In_ok _ _ _ _)) hS (by show Value.bool _ = _; simp only [hb329, decide_true, decide_false, Bool.not_true, Bool.not_false])), ?_⟩
           refine dq (fun a w hA hS hd => op_not rfl (hq hd 9)) ?_
           refine dq (fun a w hA hS hd => op_move rfl (hq hd 10)) ?_
           refine dy 11 (fun a w hA hS hd => op_move rfl (hA.ev rfl)) ?_
           refine ⟨fun a w hA hS hd => by have e11 := hx hd 11; have e12 := hx hd 12; exact opG_yes rfl rfl e11 (dv (op_gtr rfl (tmp_ev e12) (evc _ _)) hS (by show Value.bool _ = _; simp only [decide_eq_true hb332, decide_true, decide_false, Bool.not_true, Bool.not_false])), ?_⟩
           refine dy 11 (fun a w hA hS hd => op_move rfl (hq hd 13)) ?_
           refine dy 14 (fun a w hA hS hd => op_field rfl fd_46_3 (hA.ev rfl)) ?_
           refine dy 14 (fun a w hA hS hd => op_load1 rfl ty_44 (hq hd 15) (hS.bk 0 rfl) rfl) ?_
           refine dy 14 (fun a w hA hS hd => op_move rfl (hA.ev rfl)) ?_
           refine dy 14 (fun a w hA hS hd => op_indexS rfl un_44 ty_3 (hq hd 16) (i := k1) (hq hd 17) (hS.sk 2 rfl) (by decide) (by omega)) ?_
           refine dy 14 (fun a w hA hS hd => op_load1E rfl ty_3 (hq hd 18) (hS.sk 2 rfl) (ints_at (by omega))) ?_
           refine dy 14 (fun a w hA hS hd => op_field rfl fd_46_3 (hA.ev rfl)) ?_
           refine dy 14 (fun a w hA hS hd => op_load1 rfl ty_44 (hq hd 20) (hS.bk 0 rfl) rfl) ?_
           refine dy 14 (fun a w hA hS hd => op_move rfl (hA.ev rfl)) ?_
           refine dy 14 (fun a w hA hS hd => op_sub rfl (hq hd 22) (evc _ _) (by omega) (by omega)) ?_
           refine dy 14 (fun a w hA hS hd => op_indexS rfl un_44 ty_3 (hq hd 21) (i := ((k1 : Int) - 1).toNat) ((hq hd 23).trans (int_nat (by omega))) (hS.sk 2 rfl) (by decide) (by omega)) ?_
           refine dy 14 (fun a w hA hS hd => op_load1E rfl ty_3 (hq hd 24) (hS.sk 2 rfl) (ints_at (by omega))) ?_
           trivial
          intro a335 w336 hA337 hS338 hH339; clear hA333 hS315
          have hA340 := hA337.add (hz hH339 11); clear hA337
          have hA341 := hA340.add (hz hH339 14); clear hA340
          have hA342 := hA341.add (hz hH339 19); clear hA341
          have hA343 := hA342.add (hz hH339 25); clear hA342
          clear hH339
          refine s5 hA343 (op_leq rfl (hA343.ev rfl) (hA343.ev rfl)) fun a344 hA345 => ?_; clear hA343 a335
          refine s5 hA345 (op_pick_t rfl (hA345.ev rfl) (hA345.ev rfl)) fun a346 hA347 => ?_; clear hA345 a344
          refine s1 hA347 (op_pick_f rfl (hA347.ev rfl) (hA347.ev rfl)) fun a348 hA349 => ?_; clear hA347 a346
          refine n1 ?_
          by_cases hb350 : (t.brk.getD k1 0) ≤ (t.brk.getD (((k1 : Int) - 1).toNat) 0)
          ·skip
           rw [decide_eq_true hb350] at hA349
           refine c_true hA349 rfl ?_
           refine c_seq ?_
           have hA351 := hA349.as [] rfl; clear hA349
           refine c_region ?_
           refine s1 hA351 (op_assign rfl (evc _ _)) fun a352 hA353 => ?_; clear hA351 a348
           refine n1 ?_
           refine c_ret ?_
           refine blk_ret ?_
           refine then_ret ?_
           refine then_ret ?_
           refine blk_ret ?_
           refine then_ret ?_
           refine fin_run hA353 (.inl rfl) (run_results1 hA353 rfl (.tmp rfl)) ?_
           exact ⟨congrArg Value.bool (Eq.symm (by first | exact tab_brk (k := k1) (by omega) (brk_n (fun j hj => hbk0 j hj) (by assumption)) | (obtain ⟨j, rfl⟩ := back1 (k := k1) (by omega); simp only [pred1] at *; exact tab_brk (k := j + 1) (by omega) (brk_n1 (by omega))))), hS338.ext⟩
          ·skip
           rw [decide_eq_false hb350] at hA349
           refine c_false hA349 rfl ?_
           refine c_skip ?_
           refine blk_n ?_
           refine then_n ?_
           have hA354 := hA349.as [(7, (Value.int .i64 (k1 : Int))), (3, (bptr b4 0))] rfl; clear hA349
           refine c_region ?_
           refine s1 hA354 (op_move rfl (hA354.ev rfl)) fun a355 hA356 => ?_; clear hA354 a348
           refine s1 hA356 (op_add rfl (hA356.ev rfl) (evc _ _) (by omega) (by omega)) fun a357 hA358 => ?_; clear hA356 a355
           refine s1 hA358 (op_assign rfl (hA358.ev rfl)) fun a359 hA360 => ?_; clear hA358 a357
           refine wl_nil ?_
           exact then_n ⟨k1 + 1, ⟨hA360.as _ rfl, hS338, by omega, (fun i hi => by rcases Nat.lt_succ_iff_lt_or_eq.1 hi with h | h; exact hbk0 i h; subst h; (have hz_ := inB_iff.1 (by assumption : inB (t.brk.getD i 0) 0 ((t.rows.length : Int) - 2) = true); omega)), (fun i hi => by rcases Nat.lt_succ_iff_lt_or_eq.1 hi with h | h; exact hbk i h; subst h; (cases i with | zero => exact brk_y0 (by assumption) | succ j => have e5_ : ((((j + 1 : Nat) : Int)) - 1).toNat = j := (by omega); have e6_ : t.brk.getD (((j + 1 : Nat) : Int) - 1).toNat 0 = t.brk.getD j 0 := (by rw [e5_]); exact brk_y1 (by assumption) (by omega)))⟩, by omega⟩
         ·skip
          have hA361 := hA330.as [(7, (Value.int .i64 (k1 : Int))), (3, (bptr b4 0))] rfl; clear hA330
          refine c_drawn mixed hA361 hS315 26 [[], [0], [], [1, 2], [3], [], [5], [6], [7], [4, 8], [9], [10], [11], [11, 12], [11, 13], [14], [14, 15], [14], [14, 16, 17], [14, 18], [14], [14, 20], [14], [14, 22], [14, 21, 23], [14, 24]] [(Yd.val (bptr b4 3)), (Yd.val vb), (Yd.val (Value.int .i64 (k1 : Int))), (Yd.val (eptr vb (k1 * 1))), (Yd.val (Value.int .i64 (t.brk.getD k1 0))), (Yd.val (bptr b4 2)), (Yd.val vr), (Yd.val (Value.int .i64 (t.rows.length : Int))), (Yd.val (Value.int .i64 ((t.rows.length : Int) - 2))), (Yd.val (Value.bool true)), (Yd.val (Value.bool (!true))), (Yd.val (Value.bool (!true))), (Yd.val (Value.int .i64 (k1 : Int))), (Yd.val (Value.bool false)), (Yd.val (Value.bool false)), (Yd.val undef), (Yd.val undef), (Yd.val undef), (Yd.val undef), (Yd.val undef), (Yd.val undef), (Yd.val undef), (Yd.val undef), (Yd.val undef), (Yd.val undef), (Yd.val undef)] (by decide +kernel) rfl rfl ?_ ?_
          ·skip
           refine dq (fun a w hA hS hd => op_field rfl fd_46_3 (hA.ev rfl)) ?_
           refine dq (fun a w hA hS hd => op_load1 rfl ty_44 (hq hd 0) (hS.bk 0 rfl) rfl) ?_
           refine dq (fun a w hA hS hd => op_move rfl (hA.ev rfl)) ?_
           refine dq (fun a w hA hS hd => op_indexS rfl un_44 ty_3 (hq hd 1) (i := k1) (hq hd 2) (hS.sk 2 rfl) (by decide) (by omega)) ?_
           refine dq (fun a w hA hS hd => op_load1E rfl ty_3 (hq hd 3) (hS.sk 2 rfl) (ints_at (by omega))) ?_
           refine dq (fun a w hA hS hd => op_field rfl fd_46_2 (hA.ev rfl)) ?_
           refine dq (fun a w hA hS hd => op_load1 rfl ty_43 (hq hd 5) (hS.bk 0 rfl) rfl) ?_
           refine dq (fun a w hA hS hd => op_lenS rfl un_43 (hq hd 6) (hS.sk 1 rfl)) ?_
           refine dq (fun a w hA hS hd => op_sub rfl (hq hd 7) (evc _ _) (by omega) (by omega)) ?_
           refine ⟨fun a w hA hS hd => by have e4 := hx hd 4; have e8 := hx hd 8; exact opG_of rfl (dv (op_call rfl en_22 (ev3 (tmp_ev e4) (evc _ _) (tmp_ev e8)) (In_ok _ _ _ _)) hS (by show Value.bool _ = _; simp only [hb329, decide_true, decide_false, Bool.not_true, Bool.not_false])), ?_⟩
           refine dq (fun a w hA hS hd => op_not rfl (hq hd 9)) ?_
           refine dq (fun a w hA hS hd => op_move rfl (hq hd 10)) ?_
           refine dy 11 (fun a w hA hS hd => op_move rfl (hA.ev rfl)) ?_
           refine ⟨fun a w hA hS hd => by have e11 := hx hd 11; have e12 := hx hd 12; exact opG_yes rfl rfl e11 (dv (op_gtr rfl (tmp_ev e12) (evc _ _)) hS (by show Value.bool _ = _; simp only [decide_eq_false hb332, decide_true, decide_false, Bool.not_true, Bool.not_false])), ?_⟩
           refine dy 11 (fun a w hA hS hd => op_move rfl (hq hd 13)) ?_
           refine dn 14 ?_
           refine dn 14 ?_
           refine dn 14 ?_
           refine dn 14 ?_
           refine dn 14 ?_
           refine dn 14 ?_
           refine dn 14 ?_
           refine dn 14 ?_
           refine dn 14 ?_
           refine dn 14 ?_
           refine dn 14 ?_
           trivial
          intro a363 w364 hA365 hS366 hH367; clear hA361 hS315
          have hA368 := hA365.add (hz hH367 11); clear hA365
          have hA369 := hA368.add (hz hH367 14); clear hA368
          have hA370 := hA369.add (hz hH367 19); clear hA369
          have hA371 := hA370.add (hz hH367 25); clear hA370
          clear hH367
          refine s3 hA371 fun a372 hA373 => ?_; clear hA371 a363
          refine s5 hA373 (op_pick_f rfl (hA373.ev rfl) (evc _ _)) fun a374 hA375 => ?_; clear hA373 a372
          refine s1 hA375 (op_pick_f rfl (hA375.ev rfl) (hA375.ev rfl)) fun a376 hA377 => ?_; clear hA375 a374
          refine n1 ?_
          refine c_false hA377 rfl ?_
          refine c_skip ?_
          refine blk_n ?_
          refine then_n ?_
          have hA378 := hA377.as [(7, (Value.int .i64 (k1 : Int))), (3, (bptr b4 0))] rfl; clear hA377
          refine c_region ?_
          refine s1 hA378 (op_move rfl (hA378.ev rfl)) fun a379 hA380 => ?_; clear hA378 a376
          refine s1 hA380 (op_add rfl (hA380.ev rfl) (evc _ _) (by omega) (by omega)) fun a381 hA382 => ?_; clear hA380 a379
          refine s1 hA382 (op_assign rfl (hA382.ev rfl)) fun a383 hA384 => ?_; clear hA382 a381
          refine wl_nil ?_
          exact then_n ⟨k1 + 1, ⟨hA384.as _ rfl, hS366, by omega, (fun i hi => by rcases Nat.lt_succ_iff_lt_or_eq.1 hi with h | h; exact hbk0 i h; subst h; (have hz_ := inB_iff.1 (by assumption : inB (t.brk.getD i 0) 0 ((t.rows.length : Int) - 2) = true); omega)), (fun i hi => by rcases Nat.lt_succ_iff_lt_or_eq.1 hi with h | h; exact hbk i h; subst h; (cases i with | zero => exact brk_y0 (by assumption) | succ j => have e5_ : ((((j + 1 : Nat) : Int)) - 1).toNat = j := (by omega); have e6_ : t.brk.getD (((j + 1 : Nat) : Int) - 1).toNat 0 = t.brk.getD j 0 := (by rw [e5_]); exact brk_y1 (by assumption) (by omega)))⟩, by omega⟩
        ·skip
         have hA385 := hA327.as [(7, (Value.int .i64 (k1 : Int))), (3, (bptr b4 0))] rfl; clear hA327
         refine c_drawn mixed hA385 hS315 26 [[], [0], [], [1, 2], [3], [], [5], [6], [7], [4, 8], [9], [10], [11], [11, 12], [11, 13], [14], [14, 15], [14], [14, 16, 17], [14, 18], [14], [14, 20], [14], [14, 22], [14, 21, 23], [14, 24]] [(Yd.val (bptr b4 3)), (Yd.val vb), (Yd.val (Value.int .i64 (k1 : Int))), (Yd.val (eptr vb (k1 * 1))), (Yd.val (Value.int .i64 (t.brk.getD k1 0))), (Yd.val (bptr b4 2)), (Yd.val vr), (Yd.val (Value.int .i64 (t.rows.length : Int))), (Yd.val (Value.int .i64 ((t.rows.length : Int) - 2))), (Yd.val (Value.bool false)), (Yd.val (Value.bool (!false))), (Yd.val (Value.bool (!false))), (Yd.val undef), (Yd.val undef), (Yd.val undef), (Yd.val undef), (Yd.val undef), (Yd.val undef), (Yd.val undef), (Yd.val undef), (Yd.val undef), (Yd.val undef), (Yd.val undef), (Yd.val undef), (Yd.val undef), (Yd.val undef)] (by decide +kernel) rfl rfl ?_ ?_
         ·skip
          refine dq (fun a w hA hS hd => op_field rfl fd_46_3 (hA.ev rfl)) ?_
          refine dq (fun a w hA hS hd => op_load1 rfl ty_44 (hq hd 0) (hS.bk 0 rfl) rfl) ?_
          refine dq (fun a w hA hS hd => op_move rfl (hA.ev rfl)) ?_
          refine dq (fun a w hA hS hd => op_indexS rfl un_44 ty_3 (hq hd 1) (i := k1) (hq hd 2) (hS.sk 2 rfl) (by decide) (by omega)) ?_
          refine dq (fun a w hA hS hd => op_load1E rfl ty_3 (hq hd 3) (hS.sk 2 rfl) (ints_at (by omega))) ?_
          refine dq (fun a w hA hS hd => op_field rfl fd_46_2 (hA.ev rfl)) ?_
          refine dq (fun a w hA hS hd => op_load1 rfl ty_43 (hq hd 5) (hS.bk 0 rfl) rfl) ?_
          refine dq (fun a w hA hS hd => op_lenS rfl un_43 (hq hd 6) (hS.sk 1 rfl)) ?_
          refine dq (fun a w hA hS hd => op_sub rfl (hq hd 7) (evc _ _) (by omega) (by omega)) ?_
          refine ⟨fun a w hA hS hd => by have e4 := hx hd 4; have e8 := hx hd 8; exact opG_of rfl (dv (op_call rfl en_22 (ev3 (tmp_ev e4) (evc _ _) (tmp_ev e8)) (In_ok _ _ _ _)) hS (by show Value.bool _ = _; simp only [hb329, decide_true, decide_false, Bool.not_true, Bool.not_false])), ?_⟩
          refine dq (fun a w hA hS hd => op_not rfl (hq hd 9)) ?_
          refine dq (fun a w hA hS hd => op_move rfl (hq hd 10)) ?_
          refine dn 11 ?_
          refine dn 11 ?_
          refine dn 11 ?_
          refine du 14 ?_
          refine du 14 ?_
          refine du 14 ?_
          refine du 14 ?_
          refine du 14 ?_
          refine du 14 ?_
          refine du 14 ?_
          refine du 14 ?_
          refine du 14 ?_
          refine du 14 ?_
          refine du 14 ?_
          trivial
         intro a387 w388 hA389 hS390 hH391; clear hA385 hS315
         have hA392 := hA389.add (hz hH391 11); clear hA389
         have hA393 := hA392.add (hz hH391 14); clear hA392
         have hA394 := hA393.add (hz hH391 19); clear hA393
         have hA395 := hA394.add (hz hH391 25); clear hA394
         clear hH391
         refine s4 hA395 fun a396 hA397 => ?_; clear hA395 a387
         refine s3 hA397 fun a398 hA399 => ?_; clear hA397 a396
         refine s1 hA399 (op_pick_t rfl (hA399.ev rfl) (evc _ _)) fun a400 hA401 => ?_; clear hA399 a398
         refine n1 ?_
         refine c_true hA401 rfl ?_
         refine c_seq ?_
         have hA402 := hA401.as [] rfl; clear hA401
         refine c_region ?_
         refine s1 hA402 (op_assign rfl (evc _ _)) fun a403 hA404 => ?_; clear hA402 a400
         refine n1 ?_
         refine c_ret ?_
         refine blk_ret ?_
         refine then_ret ?_
         refine then_ret ?_
         refine blk_ret ?_
         refine then_ret ?_
         refine fin_run hA404 (.inl rfl) (run_results1 hA404 rfl (.tmp rfl)) ?_
         exact ⟨congrArg Value.bool (Eq.symm (by first | exact tab_brk (k := k1) (by omega) (brk_n (fun j hj => hbk0 j hj) (by assumption)) | (obtain ⟨j, rfl⟩ := back1 (k := k1) (by omega); simp only [pred1] at *; exact tab_brk (k := j + 1) (by omega) (brk_n1 (by omega))))), hS390.ext⟩
       ·skip
        rw [decide_eq_false hb326] at hA325
        refine c_false hA325 rfl ?_
        refine c_exit ?_
        refine then_exit ?_
        refine then_exit ?_
        refine blk_hit ?_
        refine then_n ?_
        refine c_seq ?_
        have hA405 := hA325.as [] rfl; clear hA325
        refine c_region ?_
        refine s1 hA405 (op_assign rfl (evc _ _)) fun a406 hA407 => ?_; clear hA405 a324
        refine n1 ?_
        refine c_ret ?_
        refine fin_run hA407 (.inl rfl) (run_results1 hA407 rfl (.tmp rfl)) ?_
        exact ⟨congrArg Value.bool (Eq.symm (tabB_iff.2 ⟨by assumption, by assumption, by assumption, by assumption, by omega, fun i hi => hrw i (by omega), fun i hi => hst i (by omega), fun i hi => hbk i (by omega)⟩)), hS315.ext⟩
    ·skip
     rw [hb95] at hA94
     refine s3 hA94 fun a408 hA409 => ?_; clear hA94 a93
     refine s3 hA409 fun a410 hA411 => ?_; clear hA409 a408
     refine s3 hA411 fun a412 hA413 => ?_; clear hA411 a410
     refine s3 hA413 fun a414 hA415 => ?_; clear hA413 a412
     refine s1 hA415 (op_pick_t rfl (hA415.ev rfl) (evc _ _)) fun a416 hA417 => ?_; clear hA415 a414
     refine n1 ?_
     refine c_true hA417 rfl ?_
     refine c_seq ?_
     have hA418 := hA417.as [] rfl; clear hA417
     refine c_region ?_
     refine s1 hA418 (op_assign rfl (evc _ _)) fun a419 hA420 => ?_; clear hA418 a416
     refine n1 ?_
     refine c_ret ?_
     refine then_ret ?_
     refine fin_run hA420 (.inl rfl) (run_results1 hA420 rfl (.tmp rfl)) ?_
     exact ⟨congrArg Value.bool (Eq.symm (tab_head (by first | exact .inl (by assumption) | exact .inr (.inl (by assumption)) | exact .inr (.inr (.inl (by assumption))) | exact .inr (.inr (.inr (.inl (by assumption)))) | exact .inr (.inr (.inr (.inr (by omega))))))), hS5.ext⟩
  ·skip
   rw [hb41] at hA40
   refine s3 hA40 fun a421 hA422 => ?_; clear hA40 a39
   refine s3 hA422 fun a423 hA424 => ?_; clear hA422 a421
   refine s3 hA424 fun a425 hA426 => ?_; clear hA424 a423
   refine s3 hA426 fun a427 hA428 => ?_; clear hA426 a425
   refine s3 hA428 fun a429 hA430 => ?_; clear hA428 a427
   refine s1 hA430 (op_pick_t rfl (hA430.ev rfl) (evc _ _)) fun a431 hA432 => ?_; clear hA430 a429
   refine s1 hA432 (op_move rfl (hA432.ev rfl)) fun a433 hA434 => ?_; clear hA432 a431
   refine s3 hA434 fun a435 hA436 => ?_; clear hA434 a433
   refine s3 hA436 fun a437 hA438 => ?_; clear hA436 a435
   refine s3 hA438 fun a439 hA440 => ?_; clear hA438 a437
   refine s3 hA440 fun a441 hA442 => ?_; clear hA440 a439
   refine s1 hA442 (op_pick_t rfl (hA442.ev rfl) (evc _ _)) fun a443 hA444 => ?_; clear hA442 a441
   refine s1 hA444 (op_move rfl (hA444.ev rfl)) fun a445 hA446 => ?_; clear hA444 a443
   refine s3 hA446 fun a447 hA448 => ?_; clear hA446 a445
   refine s3 hA448 fun a449 hA450 => ?_; clear hA448 a447
   refine s3 hA450 fun a451 hA452 => ?_; clear hA450 a449
   refine s3 hA452 fun a453 hA454 => ?_; clear hA452 a451
   refine s1 hA454 (op_pick_t rfl (hA454.ev rfl) (evc _ _)) fun a455 hA456 => ?_; clear hA454 a453
   refine n1 ?_
   refine c_true hA456 rfl ?_
   refine c_seq ?_
   have hA457 := hA456.as [] rfl; clear hA456
   refine c_region ?_
   refine s1 hA457 (op_assign rfl (evc _ _)) fun a458 hA459 => ?_; clear hA457 a455
   refine n1 ?_
   refine c_ret ?_
   refine then_ret ?_
   refine fin_run hA459 (.inl rfl) (run_results1 hA459 rfl (.tmp rfl)) ?_
   exact ⟨congrArg Value.bool (Eq.symm (tab_head (by first | exact .inl (by assumption) | exact .inr (.inl (by assumption)) | exact .inr (.inr (.inl (by assumption))) | exact .inr (.inr (.inr (.inl (by assumption)))) | exact .inr (.inr (.inr (.inr (by omega))))))), hS5.ext⟩
 ·skip
  rw [hb23] at hA22
  refine s3 hA22 fun a460 hA461 => ?_; clear hA22 a21
  refine s3 hA461 fun a462 hA463 => ?_; clear hA461 a460
  refine s3 hA463 fun a464 hA465 => ?_; clear hA463 a462
  refine s3 hA465 fun a466 hA467 => ?_; clear hA465 a464
  refine s3 hA467 fun a468 hA469 => ?_; clear hA467 a466
  refine s3 hA469 fun a470 hA471 => ?_; clear hA469 a468
  refine s1 hA471 (op_pick_t rfl (hA471.ev rfl) (evc _ _)) fun a472 hA473 => ?_; clear hA471 a470
  refine s1 hA473 (op_move rfl (hA473.ev rfl)) fun a474 hA475 => ?_; clear hA473 a472
  refine s3 hA475 fun a476 hA477 => ?_; clear hA475 a474
  refine s3 hA477 fun a478 hA479 => ?_; clear hA477 a476
  refine s3 hA479 fun a480 hA481 => ?_; clear hA479 a478
  refine s3 hA481 fun a482 hA483 => ?_; clear hA481 a480
  refine s3 hA483 fun a484 hA485 => ?_; clear hA483 a482
  refine s1 hA485 (op_pick_t rfl (hA485.ev rfl) (evc _ _)) fun a486 hA487 => ?_; clear hA485 a484
  refine s1 hA487 (op_move rfl (hA487.ev rfl)) fun a488 hA489 => ?_; clear hA487 a486
  refine s3 hA489 fun a490 hA491 => ?_; clear hA489 a488
  refine s3 hA491 fun a492 hA493 => ?_; clear hA491 a490
  refine s3 hA493 fun a494 hA495 => ?_; clear hA493 a492
  refine s3 hA495 fun a496 hA497 => ?_; clear hA495 a494
  refine s1 hA497 (op_pick_t rfl (hA497.ev rfl) (evc _ _)) fun a498 hA499 => ?_; clear hA497 a496
  refine s1 hA499 (op_move rfl (hA499.ev rfl)) fun a500 hA501 => ?_; clear hA499 a498
  refine s3 hA501 fun a502 hA503 => ?_; clear hA501 a500
  refine s3 hA503 fun a504 hA505 => ?_; clear hA503 a502
  refine s3 hA505 fun a506 hA507 => ?_; clear hA505 a504
  refine s3 hA507 fun a508 hA509 => ?_; clear hA507 a506
  refine s1 hA509 (op_pick_t rfl (hA509.ev rfl) (evc _ _)) fun a510 hA511 => ?_; clear hA509 a508
  refine n1 ?_
  refine c_true hA511 rfl ?_
  refine c_seq ?_
  have hA512 := hA511.as [] rfl; clear hA511
  refine c_region ?_
  refine s1 hA512 (op_assign rfl (evc _ _)) fun a513 hA514 => ?_; clear hA512 a510
  refine n1 ?_
  refine c_ret ?_
  refine then_ret ?_
  refine fin_run hA514 (.inl rfl) (run_results1 hA514 rfl (.tmp rfl)) ?_
  exact ⟨congrArg Value.bool (Eq.symm (tab_head (by first | exact .inl (by assumption) | exact .inr (.inl (by assumption)) | exact .inr (.inr (.inl (by assumption))) | exact .inr (.inr (.inr (.inl (by assumption)))) | exact .inr (.inr (.inr (.inr (by omega))))))), hS5.ext⟩
end Go.Proofs.Ytohgladndklciaa

namespace Go.Hard
open Go.RowKit Go.Eng
theorem pairs_cutLo (xs : List (Int × Int)) : ((pairs xs).drop (1 * 2)).take ((xs.length - 1) * 2) = pairs (xs.drop 1) := by
  cases xs with
  | nil => rfl
  | cons x xs =>
    show ((pairs (x :: xs)).drop 2).take ((xs.length + 1 - 1) * 2) = pairs xs
    have : (pairs (x :: xs)).drop 2 = pairs xs := rfl
    rw [this, Nat.add_sub_cancel, List.take_of_length_le (by rw [pairs_length]; exact Nat.le_refl _)]
theorem drop_getD {xs : List (Int × Int)} {i : Nat} : (xs.drop 1).getD i (0, 0) = xs.getD (i + 1) (0, 0) := by
  simp [List.getD, Nat.add_comm]
theorem dropP_all {xs : List (Int × Int)} {i : Nat} (h : i < xs.length - 1) : ((pairs (xs.drop 1)).drop (i * 2)).take 2 = [.int .i64 (xs.getD (i + 1) (0, 0)).1, .int .i64 (xs.getD (i + 1) (0, 0)).2] := by
  rw [pairs_all (by rw [List.length_drop]; exact h), drop_getD]
def goodU (t : TabD) (k : Nat) : List Nat := (List.range k).filter fun i => !decide ((i : Int) ∈ t.brk)
def goodF (t : TabD) : List Nat := goodU t (t.rows.length - 1)
theorem good_no {t : TabD} {k : Nat} (h : (k : Int) ∈ t.brk) : goodU t (k + 1) = goodU t k := by
  unfold goodU; rw [List.range_succ, List.filter_append]; simp [h]
theorem good_yes {t : TabD} {k : Nat} (h : ¬ (k : Int) ∈ t.brk) : goodU t (k + 1) = goodU t k ++ [k] := by
  unfold goodU; rw [List.range_succ, List.filter_append]; simp [h]
theorem good_pre {t : TabD} {k m : Nat} (h : k ≤ m) : goodU t k <+: goodU t m := by
  obtain ⟨d, rfl⟩ := Nat.exists_eq_add_of_le h
  unfold goodU
  rw [List.range_add, List.filter_append]
  exact List.prefix_append _ _
theorem good_at {t : TabD} {k m : Nat} (hk : k < m) (h : ¬ (k : Int) ∈ t.brk) : (goodU t k).length < (goodU t m).length ∧ (goodU t m).getD (goodU t k).length 0 = k := by
  obtain ⟨r, e⟩ := good_pre (t := t) (show k + 1 ≤ m by omega)
  rw [good_yes h] at e
  rw [← e]
  constructor
  · simp only [List.length_append, List.length_singleton]; omega
  · simp [List.getD]
theorem good_mem {t : TabD} {m q : Nat} (h : q < (goodU t m).length) : (goodU t m).getD q 0 < m ∧ ¬ (((goodU t m).getD q 0 : Nat) : Int) ∈ t.brk := by
  have hm : (goodU t m).getD q 0 ∈ goodU t m := by
    simp only [List.getD, List.getElem?_eq_getElem h, Option.getD_some]; exact List.getElem_mem h
  generalize (goodU t m).getD q 0 = i at hm
  unfold goodU at hm
  rw [List.mem_filter, List.mem_range] at hm
  exact ⟨hm.1, by simpa using hm.2⟩
theorem good_sorted (t : TabD) (m : Nat) : (goodU t m).Pairwise (· < ·) := by
  unfold goodU
  exact List.Pairwise.filter _ List.pairwise_lt_range
theorem good_before {t : TabD} {m q i : Nat} (hq : q < (goodU t m).length) (hi : i < (goodU t m).getD q 0) (hb : ¬ (i : Int) ∈ t.brk) : ∃ j, j < q ∧ (goodU t m).getD j 0 = i := by
  have him : i ∈ goodU t m := by
    unfold goodU
    have := (good_mem hq).1
    rw [List.mem_filter, List.mem_range]
    exact ⟨by omega, by simpa using hb⟩
  obtain ⟨j, hj, e⟩ := List.getElem_of_mem him
  refine ⟨j, ?_, by simp only [List.getD, List.getElem?_eq_getElem hj, Option.getD_some]; exact e⟩
  rcases Nat.lt_or_ge j q with h | h
  · exact h
  · exfalso
    rcases Nat.lt_or_ge q j with h2 | h2
    · have := List.pairwise_iff_getElem.1 (good_sorted t m) q j hq hj h2
      simp only [List.getD, List.getElem?_eq_getElem hq, Option.getD_some] at hi
      omega
    · obtain rfl : q = j := by omega
      simp only [List.getD, List.getElem?_eq_getElem hq, Option.getD_some] at hi
      omega
theorem made_good {t : TabD} {v : Int} {q : Nat} (hn : ∀ i, i < t.rows.length → ¬ tx t i = v) (hq : q < (goodF t).length) (h : ∀ j, j < q → inPiece t v ((goodF t).getD j 0) = false) (e : inPiece t v ((goodF t).getD q 0) = true) : madeF t v = some (pieceR t v ((goodF t).getD q 0)) := by
  have hg := good_mem hq
  refine made_piece hn (by have := hg.1; unfold goodF; omega) (fun i hi => ?_) e
  by_cases hb : (i : Int) ∈ t.brk
  · exact piece_n (.inr (.inr hb))
  · obtain ⟨j, hj, rfl⟩ := good_before hq hi hb
    exact h j hj
theorem made_goodno {t : TabD} {v : Int} (hn : ∀ i, i < t.rows.length → ¬ tx t i = v) (h : ∀ j, j < (goodF t).length → inPiece t v ((goodF t).getD j 0) = false) : madeF t v = none := by
  refine made_no hn fun i hi => ?_
  by_cases hb : (i : Int) ∈ t.brk
  · exact piece_n (.inr (.inr hb))
  · have := good_at (t := t) (show i < t.rows.length - 1 by omega) hb
    have h2 := h _ this.1
    rw [show (goodF t).getD (goodU t i).length 0 = i from this.2] at h2
    exact h2
theorem good_piece {t : TabD} {v : Int} {q : Nat} (hq : q < (goodF t).length) (h1 : tx t ((goodF t).getD q 0) < v) (h2 : v < tx t ((goodF t).getD q 0 + 1)) : inPiece t v ((goodF t).getD q 0) = true := piece_y h1 h2 (good_mem hq).2
end Go.Hard

namespace Go.Proofs.Ytohgladndklciaa
open Go.RowKit Go.Shelf Go.Eng Go.Hard
theorem ze_107 : (Try.prog.info? 107).bind (·.zero) = some (Value.agg #[(Value.int .i64 0), (Value.int .i64 0)]) := by kernel_rfl
theorem en_122 : ∀ args w, (callFunc 122 args).run Try.prog w = .ok (.enter 122 args) w := enters_of Try.func122 (by kernel_rfl) rfl
theorem pieces_it (b1 : Nat) (t : TabD) (vr vb : Value) (hln : 2 ≤ t.rows.length) (hrl : t.rows.length ≤ 1000000) (hbl : t.brk.length ≤ 1000000) :
  IterG Try.prog 121 #[bptr b1 0] nilR [rob b1 106 [.int .i64 t.frm, .int .i64 t.dst, vr, vb, .int .i64 t.err], sl vr 2 t.rows.length (pairs t.rows), sl vb 1 t.brk.length (ints t.brk)] (goodF t).length (fun q => #[.agg #[.int .i64 (t.rows.getD ((goodF t).getD q 0) (0, 0)).1, .int .i64 (t.rows.getD ((goodF t).getD q 0) (0, 0)).2], .agg #[.int .i64 (t.rows.getD ((goodF t).getD q 0 + 1) (0, 0)).1, .int .i64 (t.rows.getD ((goodF t).getD q 0 + 1) (0, 0)).2]]) := by
 intro l J Jx W hJ hJx hD hDx h0 hy
 refine calls_enter Try.func121 rfl fun a0 hA0 => ?_
 replace hA0 : Fr 31 [] [(0, (Value.func (.yield l) #[] #[])), (1, (bptr b1 0))] a0 := hA0
 have hS1 : Sep nilR.S W W [nilR, (rob b1 106 [(Value.int .i64 t.frm), (Value.int .i64 t.dst), vr, vb, (Value.int .i64 t.err)]), (sl vr 2 t.rows.length (pairs t.rows)), (sl vb 1 t.brk.length (ints t.brk))] := (hD _ _ _ h0).2
 refine m2 ?_
 refine s1 hA0 (op_field rfl fd_106_2 (hA0.ev rfl)) fun a2 hA3 => ?_; clear hA0 a0
 refine s1 hA3 (op_load1 rfl ty_104 (hA3.ev rfl) (hS1.rk 1 rfl) rfl) fun a4 hA5 => ?_; clear hA3 a2
 refine s1 hA5 (op_sliceLo rfl un_104 ty_107 (hA5.ev rfl) (l := 1) (show _ = Value.int .i64 ((1 : Nat) : Int) from (evc _ _)) (hS1.sk 2 rfl) (by omega)) fun a6 hA7 => ?_; clear hA5 a4
 refine s1 hA7 (op_lenS rfl un_104 (hA7.ev rfl) (SlAt.say (n' := (t.rows.length - 1)) (cs' := (pairs (t.rows.drop 1))) (SlAt.cut (hS1.sk 2 rfl) (by omega) (Nat.le_refl _)) rfl (pairs_cutLo _))) fun a8 hA9 => ?_; clear hA7 a6
 refine s1 hA9 (op_move rfl (evc _ _)) fun a10 hA11 => ?_; clear hA9 a8
 refine n1 ?_
 refine c_block ?_
 have hA12 := hA11.as [(9, (Value.int .i64 0)), (8, (Value.int .i64 (((t.rows.length - 1) : Nat) : Int))), (7, (slcut vr 1 t.rows.length 2)), (0, (Value.func (.yield l) #[] #[])), (1, (bptr b1 0))] rfl; clear hA11
 refine c_loop (G := Nat) (fun (k : Nat) a_ w_ => Fr 31 [] [(9, (Value.int .i64 (k : Int))), (8, (Value.int .i64 (((t.rows.length - 1) : Nat) : Int))), (7, (slcut vr 1 t.rows.length 2)), (0, (Value.func (.yield l) #[] #[])), (1, (bptr b1 0))] a_ ∧ True ∧ (k ≤ t.rows.length - 1) ∧ (J (goodU t k).length nilR w_)) (fun k => t.rows.length - k) 0 ⟨hA12.as _ rfl, trivial, by omega, (hJ _ _ _ _ _ h0 (Sep.keep hS1 [0] (by decide) _ rfl rfl) rfl)⟩ ?_
 clear hA12 hS1 a10
 rintro k a13 w15 ⟨hA14, hS16, hk, hj⟩
 clear hS16
 have hS17 : Sep nilR.S w15 w15 [nilR, (rob b1 106 [(Value.int .i64 t.frm), (Value.int .i64 t.dst), vr, vb, (Value.int .i64 t.err)]), (sl vr 2 t.rows.length (pairs t.rows)), (sl vb 1 t.brk.length (ints t.brk))] := (hD _ _ _ hj).2
 refine m2 ?_
 refine s1 hA14 (op_lss rfl (hA14.ev rfl) (hA14.ev rfl)) fun a18 hA19 => ?_; clear hA14 a13
 refine n2 ?_
 by_cases hb20 : (k : Int) < (((t.rows.length - 1) : Nat) : Int)
 ·skip
  rw [decide_eq_true hb20] at hA19
  refine c_true hA19 rfl ?_
  refine c_skip ?_
  refine then_n ?_
  refine c_seq ?_
  refine c_block ?_
  refine m2 ?_
  refine s1 hA19 (op_move rfl (hA19.ev rfl)) fun a21 hA22 => ?_; clear hA19 a18
  refine s1 hA22 (op_indexS rfl un_104 ty_107 (hA22.ev rfl) (i := k) (hA22.ev rfl) (SlAt.say (n' := (t.rows.length - 1)) (cs' := (pairs (t.rows.drop 1))) (SlAt.cut (hS17.sk 2 rfl) (by omega) (Nat.le_refl _)) rfl (pairs_cutLo _)) (by decide) (by omega)) fun a23 hA24 => ?_; clear hA22 a21
  refine s1 hA24 (op_loadAE rfl ty_107 (hA24.ev rfl) (SlAt.say (n' := (t.rows.length - 1)) (cs' := (pairs (t.rows.drop 1))) (SlAt.cut (hS17.sk 2 rfl) (by omega) (Nat.le_refl _)) rfl (pairs_cutLo _)) (dropP_all (by omega)) rfl (by decide)) fun a25 hA26 => ?_; clear hA24 a23
  refine s2 hA26 (op_alloc hS17 rfl ze_107 (cs := [(Value.int .i64 0), (Value.int .i64 0)]) rfl) ?_
  rintro a27 _ w29 ⟨b30, rfl, hS31⟩ hA28; clear hA26 hS17 a25
  refine s1 hA28 (op_assign rfl (hA28.ev rfl)) fun a32 hA33 => ?_; clear hA28 a27
  refine s7 hA33 (op_store hS31 rfl ty_107 (hA33.ev rfl) (hA33.ev rfl) (i := 0) rfl (vs := [(Value.int .i64 ((t.rows.getD (k + 1) (0, 0)).1)), (Value.int .i64 ((t.rows.getD (k + 1) (0, 0)).2))]) rfl rfl rfl (Nat.le_of_ble_eq_true rfl)) ?_
  intro _ w34 hS35 hA36; clear hA33
  have hS37 : Sep nilR.S w15 w34 [(blk b30 107 [(Value.int .i64 ((t.rows.getD (k + 1) (0, 0)).1)), (Value.int .i64 ((t.rows.getD (k + 1) (0, 0)).2))]), nilR, (rob b1 106 [(Value.int .i64 t.frm), (Value.int .i64 t.dst), vr, vb, (Value.int .i64 t.err)]), (sl vr 2 t.rows.length (pairs t.rows)), (sl vb 1 t.brk.length (ints t.brk))] := hS35; clear hS35 hS31
  refine n2 ?_
  have hA38 := hA36.as [(3, (Value.int .i64 (k : Int))), (4, (bptr b30 0)), (9, (Value.int .i64 (k : Int))), (8, (Value.int .i64 (((t.rows.length - 1) : Nat) : Int))), (7, (slcut vr 1 t.rows.length 2)), (0, (Value.func (.yield l) #[] #[])), (1, (bptr b1 0))] rfl; clear hA36
  by_cases hb39 : (k : Int) ∈ t.brk
  ·skip
   have hA40 := hA38.as [(3, (Value.int .i64 (k : Int))), (4, (bptr b30 0)), (9, (Value.int .i64 (k : Int))), (8, (Value.int .i64 (((t.rows.length - 1) : Nat) : Int))), (7, (slcut vr 1 t.rows.length 2)), (0, (Value.func (.yield l) #[] #[])), (1, (bptr b1 0))] rfl; clear hA38
   refine c_drawn mixed hA40 hS37 13 [[], [0], [], [1, 2], [3], [4], [5], [5], [5, 7], [5], [5, 8, 9], [5, 10], [5]] [(Yd.val (bptr b1 3)), (Yd.val vb), (Yd.val (Value.int .i64 (k : Int))), (Yd.val (Value.bool true)), (Yd.val (Value.bool (!true))), (Yd.val (Value.bool (!true))), (Yd.val undef), (Yd.val undef), (Yd.val undef), (Yd.val undef), (Yd.val undef), (Yd.val undef), (Yd.val undef)] (by decide +kernel) rfl rfl ?_ ?_
   ·skip
    refine ⟨fun a w hA hS hd => ?_, ?_⟩
    ·skip
     exact opG_of rfl (dv (op_field rfl fd_106_3 (hA.ev rfl)) hS rfl)
    refine ⟨fun a w hA hS hd => ?_, ?_⟩
    ·skip
     have e0 := has_ev (hd 0 (by decide)) rfl (fun _ h => h)
     exact opG_of rfl (dv (op_load1 rfl ty_44 (tmp_ev e0) (hS.rk 2 rfl) rfl) hS rfl)
    refine ⟨fun a w hA hS hd => ?_, ?_⟩
    ·skip
     exact opG_of rfl (dv (op_move rfl (hA.ev rfl)) hS rfl)
    refine ⟨fun a w hA hS hd => ?_, ?_⟩
    ·skip
     have e1 := has_ev (hd 1 (by decide)) rfl (fun _ h => h)
     have e2 := has_ev (hd 2 (by decide)) rfl (fun _ h => h)
     exact opG_of rfl (dx (op_call rfl en_122 (ev2 (tmp_ev e1) (tmp_ev e2)) (contains_ok t.brk (k : Int) _ _ (hS.sk 4 rfl) (by omega))) hS (fun _ => (by show Value.bool _ = _; simp [hb39])))
    refine ⟨fun a w hA hS hd => ?_, ?_⟩
    ·skip
     have e3 := has_ev (hd 3 (by decide)) rfl (fun _ h => h)
     exact opG_of rfl (dv (op_not rfl (tmp_ev e3)) hS rfl)
    refine ⟨fun a w hA hS hd => ?_, ?_⟩
    ·skip
     have e4 := has_ev (hd 4 (by decide)) rfl (fun _ h => h)
     exact opG_of rfl (dv (op_move rfl (tmp_ev e4)) hS rfl)
    refine ⟨fun a w hA hS hd => ?_, ?_⟩
    ·skip
     have e5 := has_ev (hd 5 (by decide)) rfl (fun _ h => h)
     exact opG_no rfl rfl e5 rfl (dskip hS rfl)
    refine ⟨fun a w hA hS hd => ?_, ?_⟩
    ·skip
     have e5 := has_ev (hd 5 (by decide)) rfl (fun _ h => h)
     exact opG_no rfl rfl e5 rfl (dskip hS rfl)
    refine ⟨fun a w hA hS hd => ?_, ?_⟩
    ·skip
     have e5 := has_ev (hd 5 (by decide)) rfl (fun _ h => h)
     have e7 := has_ev (hd 7 (by decide)) rfl (fun _ h => h)
     exact opG_no rfl rfl e5 rfl (dskip hS rfl)
    refine ⟨fun a w hA hS hd => ?_, ?_⟩
    ·skip
     have e5 := has_ev (hd 5 (by decide)) rfl (fun _ h => h)
     exact opG_no rfl rfl e5 rfl (dskip hS rfl)
    refine ⟨fun a w hA hS hd => ?_, ?_⟩
    ·skip
     have e5 := has_ev (hd 5 (by decide)) rfl (fun _ h => h)
     have e8 := has_ev (hd 8 (by decide)) rfl (fun _ h => h)
     have e9 := has_ev (hd 9 (by decide)) rfl (fun _ h => h)
     exact opG_no rfl rfl e5 rfl (dskip hS rfl)
    refine ⟨fun a w hA hS hd => ?_, ?_⟩
    ·skip
     have e5 := has_ev (hd 5 (by decide)) rfl (fun _ h => h)
     have e10 := has_ev (hd 10 (by decide)) rfl (fun _ h => h)
     exact opG_no rfl rfl e5 rfl (dskip hS rfl)
    refine ⟨fun a w hA hS hd => ?_, ?_⟩
    ·skip
     have e5 := has_ev (hd 5 (by decide)) rfl (fun _ h => h)
     exact opG_no rfl rfl e5 rfl (dskip hS rfl)
    trivial
   intro a41 w42 hA43 hS44 hH45; clear hA40 hS37
   have hA47 := hA43.add (hz hH45 5); clear hA43
   have hA48 := hA47.add (hz hH45 6); clear hA47
   have hA49 := hA48.add (hz hH45 11); clear hA48
   have hA50 := hA49.add (hz hH45 12); clear hA49
   clear hH45
   refine s3 hA50 fun a51 hA52 => ?_; clear hA50 a41
   refine s3 hA52 fun a53 hA54 => ?_; clear hA52 a51
   refine s1 hA54 (op_pick_f rfl (hA54.ev rfl) (evc _ _)) fun a55 hA56 => ?_; clear hA54 a53
   refine n1 ?_
   refine c_false hA56 rfl ?_
   refine c_skip ?_
   refine blk_n ?_
   refine then_n ?_
   have hA57 := hA56.as [(9, (Value.int .i64 (k : Int))), (8, (Value.int .i64 (((t.rows.length - 1) : Nat) : Int))), (7, (slcut vr 1 t.rows.length 2)), (0, (Value.func (.yield l) #[] #[])), (1, (bptr b1 0))] rfl; clear hA56
   refine c_region ?_
   refine s1 hA57 (op_add rfl (hA57.ev rfl) (evc _ _) (by omega) (by omega)) fun a58 hA59 => ?_; clear hA57 a55
   refine s1 hA59 (op_move rfl (hA59.ev rfl)) fun a60 hA61 => ?_; clear hA59 a58
   refine wl_nil ?_
   exact then_n ⟨k + 1, ⟨hA61.as _ rfl, trivial, by omega, (by rw [good_no (by assumption)]; exact (hJ _ _ _ _ _ hj (Sep.keep hS44 [1] (by decide) _ rfl rfl) rfl))⟩, by omega⟩
  ·skip
   have hA62 := hA38.as [(3, (Value.int .i64 (k : Int))), (4, (bptr b30 0)), (9, (Value.int .i64 (k : Int))), (8, (Value.int .i64 (((t.rows.length - 1) : Nat) : Int))), (7, (slcut vr 1 t.rows.length 2)), (0, (Value.func (.yield l) #[] #[])), (1, (bptr b1 0))] rfl; clear hA38
   refine c_drawn mixed hA62 hS37 13 [[], [0], [], [1, 2], [3], [4], [5], [5], [5, 7], [5], [5, 8, 9], [5, 10], [5]] [(Yd.val (bptr b1 3)), (Yd.val vb), (Yd.val (Value.int .i64 (k : Int))), (Yd.val (Value.bool false)), (Yd.val (Value.bool (!false))), (Yd.val (Value.bool (!false))), (Yd.val (Value.func (.yield l) #[] #[])), (Yd.val (bptr b1 2)), (Yd.val vr), (Yd.val (Value.int .i64 (k : Int))), (Yd.val (eptr vr (k * 2))), (Yd.val (Value.agg #[(Value.int .i64 ((t.rows.getD k (0, 0)).1)), (Value.int .i64 ((t.rows.getD k (0, 0)).2))])), (Yd.val (Value.agg #[(Value.int .i64 ((t.rows.getD (k + 1) (0, 0)).1)), (Value.int .i64 ((t.rows.getD (k + 1) (0, 0)).2))]))] (by decide +kernel) rfl rfl ?_ ?_
   ·skip
    refine ⟨fun a w hA hS hd => ?_, ?_⟩
    ·skip
     exact opG_of rfl (dv (op_field rfl fd_106_3 (hA.ev rfl)) hS rfl)
    refine ⟨fun a w hA hS hd => ?_, ?_⟩
    ·skip
     have e0 := has_ev (hd 0 (by decide)) rfl (fun _ h => h)
     exact opG_of rfl (dv (op_load1 rfl ty_44 (tmp_ev e0) (hS.rk 2 rfl) rfl) hS rfl)
    refine ⟨fun a w hA hS hd => ?_, ?_⟩
    ·skip
     exact opG_of rfl (dv (op_move rfl (hA.ev rfl)) hS rfl)
    refine ⟨fun a w hA hS hd => ?_, ?_⟩
    ·skip
     have e1 := has_ev (hd 1 (by decide)) rfl (fun _ h => h)
     have e2 := has_ev (hd 2 (by decide)) rfl (fun _ h => h)
     exact opG_of rfl (dx (op_call rfl en_122 (ev2 (tmp_ev e1) (tmp_ev e2)) (contains_ok t.brk (k : Int) _ _ (hS.sk 4 rfl) (by omega))) hS (fun _ => (by show Value.bool _ = _; simp [hb39])))
    refine ⟨fun a w hA hS hd => ?_, ?_⟩
    ·skip
     have e3 := has_ev (hd 3 (by decide)) rfl (fun _ h => h)
     exact opG_of rfl (dv (op_not rfl (tmp_ev e3)) hS rfl)
    refine ⟨fun a w hA hS hd => ?_, ?_⟩
    ·skip
     have e4 := has_ev (hd 4 (by decide)) rfl (fun _ h => h)
     exact opG_of rfl (dv (op_move rfl (tmp_ev e4)) hS rfl)
    refine ⟨fun a w hA hS hd => ?_, ?_⟩
    ·skip
     have e5 := has_ev (hd 5 (by decide)) rfl (fun _ h => h)
     exact opG_yes rfl rfl e5 (dv (op_move rfl (hA.ev rfl)) hS rfl)
    refine ⟨fun a w hA hS hd => ?_, ?_⟩
    ·skip
     have e5 := has_ev (hd 5 (by decide)) rfl (fun _ h => h)
     exact opG_yes rfl rfl e5 (dv (op_field rfl fd_106_2 (hA.ev rfl)) hS rfl)
    refine ⟨fun a w hA hS hd => ?_, ?_⟩
    ·skip
     have e5 := has_ev (hd 5 (by decide)) rfl (fun _ h => h)
     have e7 := has_ev (hd 7 (by decide)) rfl (fun _ h => h)
     exact opG_yes rfl rfl e5 (dv (op_load1 rfl ty_104 (tmp_ev e7) (hS.rk 2 rfl) rfl) hS rfl)
    refine ⟨fun a w hA hS hd => ?_, ?_⟩
    ·skip
     have e5 := has_ev (hd 5 (by decide)) rfl (fun _ h => h)
     exact opG_yes rfl rfl e5 (dv (op_move rfl (hA.ev rfl)) hS rfl)
    refine ⟨fun a w hA hS hd => ?_, ?_⟩
    ·skip
     have e5 := has_ev (hd 5 (by decide)) rfl (fun _ h => h)
     have e8 := has_ev (hd 8 (by decide)) rfl (fun _ h => h)
     have e9 := has_ev (hd 9 (by decide)) rfl (fun _ h => h)
     exact opG_yes rfl rfl e5 (dv (op_indexS rfl un_104 ty_107 (tmp_ev e8) (i := k) (tmp_ev e9) (hS.sk 3 rfl) (by decide) (by omega)) hS rfl)
    refine ⟨fun a w hA hS hd => ?_, ?_⟩
    ·skip
     have e5 := has_ev (hd 5 (by decide)) rfl (fun _ h => h)
     have e10 := has_ev (hd 10 (by decide)) rfl (fun _ h => h)
     exact opG_yes rfl rfl e5 (dv (op_loadAE rfl ty_107 (tmp_ev e10) (hS.sk 3 rfl) (pairs_all (by omega)) rfl (by decide)) hS rfl)
    refine ⟨fun a w hA hS hd => ?_, ?_⟩
    ·skip
     have e5 := has_ev (hd 5 (by decide)) rfl (fun _ h => h)
     exact opG_yes rfl rfl e5 (dv (op_loadA rfl ty_107 (hA.ev rfl) (hS.bk 0 rfl) (l := [(Value.int .i64 ((t.rows.getD (k + 1) (0, 0)).1)), (Value.int .i64 ((t.rows.getD (k + 1) (0, 0)).2))]) rfl rfl) hS rfl)
    trivial
   intro a63 w64 hA65 hS66 hH67; clear hA62 hS37
   have hA69 := hA65.add (hz hH67 5); clear hA65
   have hA70 := hA69.add (hz hH67 6); clear hA69
   have hA71 := hA70.add (hz hH67 11); clear hA70
   have hA72 := hA71.add (hz hH67 12); clear hA71
   clear hH67
   have he79 := good_at (t := t) (m := t.rows.length - 1) (k := k) (by omega) (by assumption)
   refine s6 hA72 (op_yield rfl (hA72.ev rfl) (ev2 (hA72.ev rfl) (hA72.ev rfl)) (by have hz := hy (goodU t k).length he79.1 _ _ (hJ _ _ _ _ _ hj (Sep.keep hS66 [1] (by decide) _ rfl rfl) rfl); dsimp only at hz; rw [show (goodF t).getD (goodU t k).length 0 = k from he79.2] at hz; exact hz)) ?_
   rintro a73 v78 w75 hv76 hA74; clear hA72 hS66 a63
   rcases hv76 with ⟨rfl, hj77⟩ | ⟨rfl, hj77⟩
   ·skip
    refine s5 hA74 (op_not rfl (hA74.ev rfl)) fun a80 hA81 => ?_; clear hA74 a73
    refine s1 hA81 (op_pick_t rfl (hA81.ev rfl) (hA81.ev rfl)) fun a82 hA83 => ?_; clear hA81 a80
    refine n1 ?_
    refine c_false hA83 rfl ?_
    refine c_skip ?_
    refine blk_n ?_
    refine then_n ?_
    have hA84 := hA83.as [(9, (Value.int .i64 (k : Int))), (8, (Value.int .i64 (((t.rows.length - 1) : Nat) : Int))), (7, (slcut vr 1 t.rows.length 2)), (0, (Value.func (.yield l) #[] #[])), (1, (bptr b1 0))] rfl; clear hA83
    refine c_region ?_
    refine s1 hA84 (op_add rfl (hA84.ev rfl) (evc _ _) (by omega) (by omega)) fun a85 hA86 => ?_; clear hA84 a82
    refine s1 hA86 (op_move rfl (hA86.ev rfl)) fun a87 hA88 => ?_; clear hA86 a85
    refine wl_nil ?_
    exact then_n ⟨k + 1, ⟨hA88.as _ rfl, trivial, by omega, (by rw [good_yes (by assumption), List.length_append, List.length_singleton]; exact hj77)⟩, by omega⟩
   ·skip
    refine s5 hA74 (op_not rfl (hA74.ev rfl)) fun a89 hA90 => ?_; clear hA74 a73
    refine s1 hA90 (op_pick_t rfl (hA90.ev rfl) (hA90.ev rfl)) fun a91 hA92 => ?_; clear hA90 a89
    refine n1 ?_
    refine c_true hA92 rfl ?_
    refine c_ret ?_
    refine blk_ret ?_
    refine then_ret ?_
    refine then_ret ?_
    refine blk_ret ?_
    refine fin_run hA92 (.inl rfl) (run_results0 rfl _) ?_
    exact .inr ⟨_, hj77⟩
 ·skip
  rw [decide_eq_false hb20] at hA19
  refine c_false hA19 rfl ?_
  refine c_exit ?_
  refine then_exit ?_
  refine then_exit ?_
  refine blk_hit ?_
  refine fin_run hA19 (.inr rfl) (run_results0 rfl _) ?_
  exact .inl (by have hz := (hJ _ _ _ _ _ hj (Sep.keep hS17 [0] (by decide) _ rfl rfl) rfl); rw [show k = t.rows.length - 1 by omega] at hz; exact hz)
theorem pieces_ok (t : TabD) (vr vb : Value) (w : World) (h1_ : vr.oneCell' = true) (h2_ : vb.oneCell' = true) :
  Calls Try.prog 116 #[(Value.agg #[(Value.int .i64 t.frm), (Value.int .i64 t.dst), vr, vb, (Value.int .i64 t.err)])] w (Ret fun v w' => ∃ b1, v = .func (.func 121) #[] #[bptr b1 0] ∧ Sep NoB w w' [blk b1 106 [.int .i64 t.frm, .int .i64 t.dst, vr, vb, .int .i64 t.err]]) := by
 refine calls_enter Try.func116 rfl fun a0 hA0 => ?_
 replace hA0 : Fr 4 [] [(0, (Value.agg #[(Value.int .i64 t.frm), (Value.int .i64 t.dst), vr, vb, (Value.int .i64 t.err)]))] a0 := hA0
 have hS0 : Sep NoB w w [] := Sep.start _ _
 refine m2 ?_
 refine s2 hA0 (op_box hS0 rfl (hA0.ev rfl) (cs := [(Value.int .i64 t.frm), (Value.int .i64 t.dst), vr, vb, (Value.int .i64 t.err)]) rfl) ?_
 rintro a1 _ w3 ⟨b4, rfl, hS5⟩ hA2; clear hA0 hS0 a0
 refine s1 hA2 (op_assign rfl (evc _ _)) fun a6 hA7 => ?_; clear hA2 a1
 refine n4 ?_
 refine s1 hA7 (op_makeFunc rfl ev0 (ev1 (hA7.ev rfl))) fun a8 hA9 => ?_; clear hA7 a6
 refine s1 hA9 (op_assign rfl (hA9.ev rfl)) fun a10 hA11 => ?_; clear hA9 a8
 refine n1 ?_
 refine c_ret ?_
 refine fin_run hA11 (.inl rfl) (run_results1 hA11 rfl (.tmp rfl)) ?_
 exact ⟨_, rfl, hS5⟩
end Go.Proofs.Ytohgladndklciaa
