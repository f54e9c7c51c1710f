/-
  The reference's allowed rates.
  The chapter's material and runs; what the program makes of them.
  The ranges of rates: as the program makes them, and as the statement does.
  Lives, as the reference tells them.
  Rates that are some of a material.
  Rates of a list, as an array.
  Lists of rates: which they are; the ends of a stretch.
  Stretches as sums; segments that are cut; what all runs allow.
  Ranges of rates, stretches and lives, as bounds that are reached.
  The rates that are shown for an end of a stretch; lists that are cut.
  Runs that are copied and changed: the structs in new memory, the segments where they were.
  Lives and the stretches of plans of one segment; longer and hotter plans.
  Longer and hotter plans; plans in parts.
  One more run; runs one of whose segments is cut.
  The doubtful runs: lists of numbers by size, what covers a list of rates' faults, the first list that does.
-/
import Derived.Test.YtkkglkdnnfegkaaBc
import Derived.Test.YtkkglkdnnfegkaaEngb
import Derived.Test.YtkkglkdnnfegkaaEnga
set_option linter.unusedSimpArgs false
set_option linter.unusedVariables false
namespace Go.Proofs.Ytkkglkdnnfegkaa
open Go.RowKit Go.Shelf Go.Eng
theorem ze_40 : (Try.prog.info? 40).bind (·.zero) = some (Value.slice none 0 0) := by kernel_rfl
theorem bs_40_1_0s (x0_0 : Value) (hx0_0 : IsSl x0_0) : Instr.fill (fun i => some (i * 1, 1)) ((Array.range (1 * 1)).map ((Value.slice none 0 0).cells[· % (Value.slice none 0 0).cells.size]!)) [(0, x0_0)] = some (([x0_0] : List Value).toArray) := by obtain ⟨Ax0_0, Bx0_0, Cx0_0, rfl⟩ := hx0_0; kernel_rfl
theorem bs_3_0_  : Instr.fill (fun i => some (i * 1, 1)) ((Array.range (0 * 1)).map ((Value.int .i64 0).cells[· % (Value.int .i64 0).cells.size]!)) [] = some (([] : List Value).toArray) := by kernel_rfl
theorem en_42 : ∀ args w, (callFunc 42 args).run Try.prog w = .ok (.enter 42 args) w := enters_of Try.func42 (by kernel_rfl) rfl
theorem el_40 : elK Try.prog 40 = some ((Value.slice none 0 0), 1, 24) := by kernel_rfl
theorem rlUpto_le (R : List (Int × Int)) (m : Nat) (l : List Int) {t : Nat} (h : t ≤ cntF R l l.length) : (rlUpto R m l t).length ≤ (rlF R (m + 1) l).length := by
 have key : ∀ n, (rlUpto R m l t).length ≤ (rlUpto R m l (t + n)).length := by
  intro n
  induction n with
  | zero => exact Nat.le_refl _
  | succ n ih => rw [← Nat.add_assoc, rlUpto_succ, List.length_append]; omega
 have := key (cntF R l l.length - t)
 rwa [show t + (cntF R l l.length - t) = cntF R l l.length by omega] at this
set_option maxHeartbeats 1000000 in
theorem rlists_0 (w : World) (R : List (Int × Int)) (vr : Value) (hm : SlAt w vr 2 R.length (pairs R)) (l : List Int) (xl : Value) (hxl : SlAt w xl 1 l.length (ints l)) (hb : l.length = R.length) :
  Calls Try.prog 42 #[(Value.agg #[vr]), xl] w (Ret fun v w' => Ext NoB w w' ∧ w'.ownsRow w.heap.size 40 1 v 1 [xl]) := by
 refine calls_enter Try.func42 rfl fun a0 hA0 => ?_
 replace hA0 : Fr 55 [] [(0, (Value.agg #[vr])), (1, xl)] a0 := hA0
 have hS0 : Sep NoB w w [(sl xl 1 l.length (ints l)), (sl vr 2 R.length (pairs R))] := sep_ro ⟨rfl, hxl, rfl, hm, trivial⟩
 refine c_seq ?_
 refine c_region ?_
 refine stw hA0 (op_box hS0 rfl (hA0.ev rfl) (cs := [vr]) rfl) rfl rfl (by decide) ?_
 rintro a1 _ w3 ⟨b4, rfl, hS5⟩ hA2; clear hA0 hS0 a0
 refine st hA2 (op_assign rfl (evc _ _)) rfl rfl (by decide) fun a6 hA7 => ?_; clear hA2 a1
 refine wl_nil ?_
 refine then_n ?_
 refine c_seq ?_
 refine c_seq ?_
 refine c_region ?_
 refine st hA7 (op_move rfl (hA7.ev rfl)) rfl rfl (by decide) fun a8 hA9 => ?_; clear hA7 a6
 refine st hA9 (op_lenS rfl un_40 (hA9.ev rfl) (hS5.sk 1 rfl)) rfl rfl (by decide) fun a10 hA11 => ?_; clear hA9 a8
 refine st hA11 (op_field rfl fd_24_0 (hA11.ev rfl)) rfl rfl (by decide) fun a12 hA13 => ?_; clear hA11 a10
 refine st hA13 (op_load1 rfl ty_22 (hA13.ev rfl) (hS5.bk 0 rfl) rfl) rfl rfl (by decide) fun a14 hA15 => ?_; clear hA13 a12
 refine st hA15 (op_lenS rfl un_22 (hA15.ev rfl) (hS5.sk 2 rfl)) rfl rfl (by decide) fun a16 hA17 => ?_; clear hA15 a14
 refine st hA17 (op_eql rfl (hA17.ev rfl) (hA17.ev rfl)) rfl rfl (by decide) fun a18 hA19 => ?_; clear hA17 a16
 have hd20 : (l.length : Int) = (R.length : Int) := (by omega)
 rw [decide_eq_true hd20] at hA19
 refine wl_nil ?_
 refine then_n ?_
 refine c_true hA19 rfl ?_
 refine c_seq ?_
 have hA21 := hA19.as [(1, xl)] rfl; clear hA19
 refine c_region ?_
 refine st hA21 (op_move rfl (hA21.ev rfl)) rfl rfl (by decide) fun a22 hA23 => ?_; clear hA21 a18
 refine stw hA23 (op_buildSlice hS5 rfl (pv1 (hA23.ev rfl)) un_38 ty_40 ze_40 (by decide) (cs := [xl]) (bs_40_1_0s _ (SlAt.isSl (hS5.sk 1 rfl)))) rfl rfl (by decide) ?_
 rintro a24 _ w26 ⟨b27, rfl, hS28⟩ hA25; clear hA23 hS5 a22
 refine st hA25 (op_assign rfl (hA25.ev rfl)) rfl rfl (by decide) fun a29 hA30 => ?_; clear hA25 a24
 refine wl_nil ?_
 refine then_n ?_
 refine c_ret ?_
 refine then_ret ?_
 refine fin_run hA30 (.inl rfl) (run_results1 hA30 rfl (.tmp rfl)) ?_
 exact ⟨hS28.ext, (hS28.blk_row (i := 0) (sz := 1) (n := 1) rfl rfl (by decide)).row_new (i := 0) rfl⟩
set_option maxHeartbeats 4000000 in
theorem rlists_1 (w : World) (R : List (Int × Int)) (vr : Value) (hm : SlAt w vr 2 R.length (pairs R)) (l : List Int) (xl : Value) (hxl : SlAt w xl 1 l.length (ints l)) (hb : l.length + 1 = R.length) (hsm : ∀ i, 0 ≤ l.getD i 0 ∧ l.getD i 0 ≤ 1000) (hR : MatV R) :
  Calls Try.prog 42 #[(Value.agg #[vr]), xl] w (Ret fun v w' => ∃ ov, Sep NoB w w' [row v 40 1 ov.length ov, lstR ov (rlF R 1 l)]) := by
 refine calls_enter Try.func42 rfl fun a0 hA0 => ?_
 replace hA0 : Fr 55 [] [(0, (Value.agg #[vr])), (1, xl)] a0 := hA0
 have hR3 := hR.1
 have hS0 : Sep NoB w w [(sl xl 1 l.length (ints l)), (sl vr 2 R.length (pairs R))] := sep_ro ⟨rfl, hxl, rfl, hm, trivial⟩
 refine c_seq ?_
 refine c_region ?_
 refine stw hA0 (op_box hS0 rfl (hA0.ev rfl) (cs := [vr]) rfl) rfl rfl (by decide) ?_
 rintro a1 _ w3 ⟨b4, rfl, hS5⟩ hA2; clear hA0 hS0 a0
 refine st hA2 (op_assign rfl (evc _ _)) rfl rfl (by decide) fun a6 hA7 => ?_; clear hA2 a1
 refine wl_nil ?_
 refine then_n ?_
 refine c_seq ?_
 refine c_seq ?_
 refine c_region ?_
 refine st hA7 (op_move rfl (hA7.ev rfl)) rfl rfl (by decide) fun a8 hA9 => ?_; clear hA7 a6
 refine st hA9 (op_lenS rfl un_40 (hA9.ev rfl) (hS5.sk 1 rfl)) rfl rfl (by decide) fun a10 hA11 => ?_; clear hA9 a8
 refine st hA11 (op_field rfl fd_24_0 (hA11.ev rfl)) rfl rfl (by decide) fun a12 hA13 => ?_; clear hA11 a10
 refine st hA13 (op_load1 rfl ty_22 (hA13.ev rfl) (hS5.bk 0 rfl) rfl) rfl rfl (by decide) fun a14 hA15 => ?_; clear hA13 a12
 refine st hA15 (op_lenS rfl un_22 (hA15.ev rfl) (hS5.sk 2 rfl)) rfl rfl (by decide) fun a16 hA17 => ?_; clear hA15 a14
 refine st hA17 (op_eql rfl (hA17.ev rfl) (hA17.ev rfl)) rfl rfl (by decide) fun a18 hA19 => ?_; clear hA17 a16
 have hd20 : ¬ ((l.length : Int) = (R.length : Int)) := (by omega)
 rw [decide_eq_false hd20] at hA19
 refine wl_nil ?_
 refine then_n ?_
 refine c_false hA19 rfl ?_
 refine c_skip ?_
 refine then_n ?_
 refine c_seq ?_
 have hA21 := hA19.as [(2, (bptr b4 0)), (1, xl)] rfl; clear hA19
 refine c_region ?_
 refine st hA21 (op_assign rfl (evc _ _)) rfl rfl (by decide) fun a22 hA23 => ?_; clear hA21 a18
 have hS24 := hS5.nil_row 40 1; clear hS5
 refine wl_nil ?_
 refine then_n ?_
 refine c_seq ?_
 refine c_region ?_
 refine st hA23 (op_field rfl fd_24_0 (hA23.ev rfl)) rfl rfl (by decide) fun a25 hA26 => ?_; clear hA23 a22
 refine st hA26 (op_load1 rfl ty_22 (hA26.ev rfl) (hS24.bk 1 rfl) rfl) rfl rfl (by decide) fun a27 hA28 => ?_; clear hA26 a25
 refine st hA28 (op_move rfl (hA28.ev rfl)) rfl rfl (by decide) fun a29 hA30 => ?_; clear hA28 a27
 refine st hA30 (op_lenS rfl un_40 (hA30.ev rfl) (hS24.sk 2 rfl)) rfl rfl (by decide) fun a31 hA32 => ?_; clear hA30 a29
 refine st hA32 (op_indexS rfl un_22 ty_48 (hA32.ev rfl) (i := l.length) (hA32.ev rfl) (hS24.sk 3 rfl) (by decide) (by omega)) rfl rfl (by decide) fun a33 hA34 => ?_; clear hA32 a31
 refine st hA34 (op_loadAE rfl ty_48 (hA34.ev rfl) (hS24.sk 3 rfl) (pairs_all (by omega)) rfl (by decide)) rfl rfl (by decide) fun a35 hA36 => ?_; clear hA34 a33
 refine stw hA36 (op_alloc hS24 rfl ze_48 (cs := [(Value.int .i64 0), (Value.int .i64 0)]) rfl) rfl rfl (by decide) ?_
 rintro a37 _ w39 ⟨b40, rfl, hS41⟩ hA38; clear hA36 hS24 a35
 refine sts hA38 (op_store hS41 rfl ty_48 (hA38.ev rfl) (hA38.ev rfl) (i := 0) rfl (vs := [(Value.int .i64 ((R.getD l.length (0, 0)).1)), (Value.int .i64 ((R.getD l.length (0, 0)).2))]) rfl rfl rfl (Nat.le_of_ble_eq_true rfl)) rfl rfl ?_
 intro _ w42 hS43 hA44; clear hA38
 have hS45 : Sep NoB w w42 [(blk b40 48 [(Value.int .i64 ((R.getD l.length (0, 0)).1)), (Value.int .i64 ((R.getD l.length (0, 0)).2))]), (row (Value.slice none 0 0) 40 1 0 []), (blk b4 24 [vr]), (sl xl 1 l.length (ints l)), (sl vr 2 R.length (pairs R))] := hS43; clear hS43 hS41
 refine wl_nil ?_
 refine then_n ?_
 refine c_seq ?_
 have hA46 := hA44.as [(6, (bptr b40 0)), (5, (Value.slice none 0 0)), (2, (bptr b4 0)), (1, xl)] rfl; clear hA44
 refine c_region ?_
 refine st hA46 (op_field rfl fd_48_0 (hA46.ev rfl)) rfl rfl (by decide) fun a47 hA48 => ?_; clear hA46 a37
 refine st hA48 (op_load1 rfl ty_3 (hA48.ev rfl) (hS45.bk 0 rfl) rfl) rfl rfl (by decide) fun a49 hA50 => ?_; clear hA48 a47
 refine st hA50 (op_assign rfl (hA50.ev rfl)) rfl rfl (by decide) fun a51 hA52 => ?_; clear hA50 a49
 refine wl_nil ?_
 refine then_n ?_
 refine c_seq ?_
 refine c_seq ?_
 refine c_region ?_
 refine st hA52 (op_move rfl (hA52.ev rfl)) rfl rfl (by decide) fun a53 hA54 => ?_; clear hA52 a51
 refine st hA54 (op_lenS rfl un_40 (hA54.ev rfl) (hS45.sk 3 rfl)) rfl rfl (by decide) fun a55 hA56 => ?_; clear hA54 a53
 refine st hA56 (op_assign rfl (hA56.ev rfl)) rfl rfl (by decide) fun a57 hA58 => ?_; clear hA56 a55
 refine wl_nil ?_
 refine then_n ?_
 refine c_seq ?_
 refine c_region ?_
 refine st hA58 (op_move rfl (hA58.ev rfl)) rfl rfl (by decide) fun a59 hA60 => ?_; clear hA58 a57
 refine st hA60 (op_gtr rfl (hA60.ev rfl) (evc _ _)) rfl rfl (by decide) fun a61 hA62 => ?_; clear hA60 a59
 refine wl_nil ?_
 refine then_n ?_
 by_cases hb63 : 0 < (l.length : Int)
 ·skip
  rw [decide_eq_true hb63] at hA62
  refine c_true hA62 rfl ?_
  have hA64 := hA62.as [(8, (Value.int .i64 (l.length : Int))), (7, (Value.int .i64 ((R.getD l.length (0, 0)).1))), (6, (bptr b40 0)), (5, (Value.slice none 0 0)), (2, (bptr b4 0)), (1, xl)] rfl; clear hA62
  refine c_region ?_
  refine st hA64 (op_move rfl (hA64.ev rfl)) rfl rfl (by decide) fun a65 hA66 => ?_; clear hA64 a61
  refine st hA66 (op_move rfl (hA66.ev rfl)) rfl rfl (by decide) fun a67 hA68 => ?_; clear hA66 a65
  refine st hA68 (op_move rfl (hA68.ev rfl)) rfl rfl (by decide) fun a69 hA70 => ?_; clear hA68 a67
  refine st hA70 (op_sub rfl (hA70.ev rfl) (evc _ _) (by omega) (by omega)) rfl rfl (by decide) fun a71 hA72 => ?_; clear hA70 a69
  refine st hA72 (op_indexS rfl un_40 ty_3 (hA72.ev rfl) (i := ((l.length : Int) - 1).toNat) ((hA72.ev rfl).trans (int_nat (by omega))) (hS45.sk 3 rfl) (by decide) (by omega)) rfl rfl (by decide) fun a73 hA74 => ?_; clear hA72 a71
  refine st hA74 (op_load1E rfl ty_3 (hA74.ev rfl) (hS45.sk 3 rfl) (ints_at (by omega))) rfl rfl (by decide) fun a75 hA76 => ?_; clear hA74 a73
  refine st hA76 (op_max rfl (hA76.ev rfl) (hA76.ev rfl)) rfl rfl (by decide) fun a77 hA78 => ?_; clear hA76 a75
  refine st hA78 (op_assign rfl (hA78.ev rfl)) rfl rfl (by decide) fun a79 hA80 => ?_; clear hA78 a77
  refine wl_nil ?_
  refine then_n ?_
  refine c_seq ?_
  refine c_seq ?_
  have hA81 := hA80.as [(7, (Value.int .i64 (max ((R.getD l.length (0, 0)).1) (l.getD (((l.length : Int) - 1).toNat) 0)))), (6, (bptr b40 0)), (5, (Value.slice none 0 0)), (2, (bptr b4 0)), (1, xl)] rfl; clear hA80
  rw [show max ((R.getD l.length (0, 0)).1) (l.getD (((l.length : Int) - 1).toNat) 0) = lowF R l l.length + ((0 : Nat) : Int) from (by rw [show lowF R l l.length + ((0 : Nat) : Int) = lowF R l l.length from Int.add_zero _]; first | exact (lowF_pos (by assumption)).symm | exact (lowF_zero (by assumption)).symm)] at hA81
  refine c_region ?_
  refine st hA81 (op_move rfl (hA81.ev rfl)) rfl rfl (by decide) fun a82 hA83 => ?_; clear hA81 a79
  refine st hA83 (op_assign rfl (hA83.ev rfl)) rfl rfl (by decide) fun a84 hA85 => ?_; clear hA83 a82
  refine wl_nil ?_
  refine then_n ?_
  refine c_block ?_
  have hS86 := hS45.lst_nil; clear hS45
  have hA87 := hA85.as [(9, (Value.int .i64 (lowF R l l.length + ((0 : Nat) : Int)))), (6, (bptr b40 0)), (5, (Value.slice none 0 0)), (2, (bptr b4 0)), (1, xl)] rfl; clear hA85
  refine c_loop (G := Nat) (fun (k : Nat) a_ w_ => ∃ ov_ : List Value, ∃ v5_ : Value, Fr 55 [] [(9, (Value.int .i64 (lowF R l l.length + (k : Int)))), (6, (bptr b40 0)), (5, v5_), (2, (bptr b4 0)), (1, xl)] a_ ∧ Sep NoB w w_ [(lstR ov_ (rlUpto R 0 l k)), (blk b40 48 [(Value.int .i64 ((R.getD l.length (0, 0)).1)), (Value.int .i64 ((R.getD l.length (0, 0)).2))]), (row v5_ 40 1 ov_.length ov_), (blk b4 24 [vr]), (sl xl 1 l.length (ints l)), (sl vr 2 R.length (pairs R))] ∧ (k ≤ cntF R l l.length)) (fun k => cntF R l l.length - k) 0 ⟨[], (Value.slice none 0 0), hA87.as _ rfl, hS86, (Nat.zero_le _)⟩ ?_
  clear hA87 hS86 a84
  rintro k a88 w90 ⟨ov_, v5_, hA89, hS91, hk1⟩
  have hol := hS91.lst_len 0 rfl
  refine c_seq ?_
  refine c_seq ?_
  refine c_region ?_
  refine st hA89 (op_move rfl (hA89.ev rfl)) rfl rfl (by decide) fun a92 hA93 => ?_; clear hA89 a88
  refine st hA93 (op_field rfl fd_48_1 (hA93.ev rfl)) rfl rfl (by decide) fun a94 hA95 => ?_; clear hA93 a92
  refine st hA95 (op_load1 rfl ty_3 (hA95.ev rfl) (hS91.bk 1 rfl) rfl) rfl rfl (by decide) fun a96 hA97 => ?_; clear hA95 a94
  refine st hA97 (op_leq rfl (hA97.ev rfl) (hA97.ev rfl)) rfl rfl (by decide) fun a98 hA99 => ?_; clear hA97 a96
  refine wl_nil ?_
  refine then_n ?_
  by_cases hb100 : (lowF R l l.length + (k : Int)) ≤ ((R.getD l.length (0, 0)).2)
  ·skip
   rw [decide_eq_true hb100] at hA99
   have hlt := cnt_lt hb100; have hsn := small_snoc hR hsm hlt; have hlb : 0 ≤ lowF R l l.length := by unfold lowF; have h9 := hR.2 l.length; split <;> omega
   have hlu := hR.2 l.length
   refine c_true hA99 rfl ?_
   refine c_skip ?_
   refine then_n ?_
   refine c_seq ?_
   refine c_block ?_
   have hpre : (rlUpto R 0 l k).length ≤ 1003003001 := Nat.le_trans (rlUpto_le R 0 l (Nat.le_of_lt hlt)) (Nat.le_trans (rlF_len hR (0 + 1) l hsm) (pow_small (by omega))); have hsf : (rlF R 0 (l ++ [(lowF R l l.length + (k : Int))])).length ≤ 1003003001 := Nat.le_trans (rlF_len hR _ _ hsn) (pow_small (by omega))
   have hA101 := hA99.as [(9, (Value.int .i64 (lowF R l l.length + (k : Int)))), (6, (bptr b40 0)), (5, v5_), (2, (bptr b4 0)), (1, xl)] rfl; clear hA99
   by_cases hb103 : 0 < l.length
   ·skip
    have hA104 := hA101.as [(9, (Value.int .i64 (lowF R l l.length + (k : Int)))), (6, (bptr b40 0)), (5, v5_), (2, (bptr b4 0)), (1, xl)] rfl; clear hA101
    refine c_drawC mixed hA104 hS91 9 7 4 (by decide) (by decide) (by decide) rfl [[], [], [], [], [2, 3], [], [5], [4, 6], [1, 7]] [(fun (vs105 : Nat → Value) (v_ : Value) (rs_ : List Res) => v_ = v5_ ∧ rs_ = []), (fun (vs105 : Nat → Value) (v_ : Value) (rs_ : List Res) => v_ = (Value.agg #[vr]) ∧ rs_ = []), (fun (vs105 : Nat → Value) (v_ : Value) (rs_ : List Res) => ∃ (b2_ : Nat), v_ = (Value.slice (some ⟨b2_, 0, none⟩) 0 0) ∧ rs_ = [(blk b2_ 3 [])]), (fun (vs105 : Nat → Value) (v_ : Value) (rs_ : List Res) => v_ = xl ∧ rs_ = []), (fun (vs105 : Nat → Value) (v_ : Value) (rs_ : List Res) => True ∧ rs_ = [(row v_ 3 1 l.length (ints l))]), (fun (vs105 : Nat → Value) (v_ : Value) (rs_ : List Res) => v_ = (Value.int .i64 (lowF R l l.length + (k : Int))) ∧ rs_ = []), (fun (vs105 : Nat → Value) (v_ : Value) (rs_ : List Res) => True ∧ rs_ = [(row v_ 3 1 1 [(Value.int .i64 (lowF R l l.length + (k : Int)))])]), (fun (vs105 : Nat → Value) (v_ : Value) (rs_ : List Res) => True ∧ rs_ = [(row v_ 3 1 ((l ++ [(lowF R l l.length + (k : Int))]).length) (ints (l ++ [(lowF R l l.length + (k : Int))])))]), (fun (vs105 : Nat → Value) (v_ : Value) (rs_ : List Res) => True ∧ rs_ = [(row v_ 40 1 1 [(vs105 7)])])] (by decide +kernel) (by decide +kernel) rfl rfl ⟨(fun _ _ _ _ _ h_ => h_), (fun _ _ _ _ _ h_ => h_), (fun _ _ _ _ _ h_ => h_), (fun _ _ _ _ _ h_ => h_), (fun _ _ _ _ _ h_ => h_), (fun _ _ _ _ _ h_ => h_), (fun _ _ _ _ _ h_ => h_), (fun _ _ _ _ _ h_ => h_), (fun _ _ _ _ he_ h_ => by dsimp only at h_ ⊢; rw [← he_ 7 (by decide)]; exact h_), trivial⟩ (by decide +kernel) (by decide +kernel) ?_ ?_ ?_
    ·skip
     refine ⟨fun hj_ a w vs105 hA hS hd => ?_, ?_⟩
     ·skip
      exact opG_of rfl (vv (op_move rfl (hA.ev rfl)) (And.intro rfl rfl))
     refine ⟨fun hj_ a w vs105 hA hS hd => ?_, ?_⟩
     ·skip
      exact opG_of rfl (vv (op_loadA rfl ty_24 (hA.ev rfl) (hS.bk 3 rfl) (l := [vr]) rfl rfl) (And.intro rfl rfl))
     refine ⟨fun hj_ a w vs105 hA hS hd => ?_, ?_⟩
     ·skip
      exact opG_of rfl (vblz rfl pv0 un_40 ty_3 ze_3 bs_3_0_ (fun b_ => ⟨b_, rfl, rfl⟩))
     refine ⟨fun hj_ a w vs105 hA hS hd => ?_, ?_⟩
     ·skip
      exact opG_of rfl (vv (op_move rfl (hA.ev rfl)) (And.intro rfl rfl))
     refine ⟨fun hj_ a w vs105 hA hS hd => ?_, ?_⟩
     ·skip
      obtain ⟨e2, rs2, hy2, hp2⟩ := hd 2 (by decide)
      obtain ⟨b2_, hv2, hr2⟩ := hy2; subst hr2
      rw [hv2] at e2
      have hp2_0 := hp2 _ (List.mem_of_getElem? (i := 0) rfl)
      obtain ⟨e3, rs3, hy3, hp3⟩ := hd 3 (by decide)
      obtain ⟨hv3, hr3⟩ := hy3; subst hr3
      rw [hv3] at e3
      exact opG_of rfl (vap0 (op_append0 rfl un_40 el_3 (tmp_ev (slot_ev e2 rfl)) (tmp_ev (slot_ev e3 rfl)) (hS.sk 4 rfl) (ints_one _) (by simp only [maxLen]; omega) (by omega) hb103) (fun _ => And.intro trivial rfl))
     refine ⟨fun hj_ a w vs105 hA hS hd => ?_, ?_⟩
     ·skip
      exact opG_of rfl (vv (op_move rfl (hA.ev rfl)) (And.intro rfl rfl))
     refine ⟨fun hj_ a w vs105 hA hS hd => ?_, ?_⟩
     ·skip
      obtain ⟨e5, rs5, hy5, hp5⟩ := hd 5 (by decide)
      obtain ⟨hv5, hr5⟩ := hy5; subst hr5
      rw [hv5] at e5
      exact opG_of rfl (vblt rfl (pv1 (tmp_ev (slot_ev e5 rfl))) un_40 ty_3 ze_3 (by decide) (cs := [(Value.int .i64 (lowF R l l.length + (k : Int)))]) (bs_3_1_0i _) rfl (by decide) (fun _ => And.intro trivial rfl))
     refine ⟨fun hj_ => absurd rfl hj_, ?_⟩
     refine ⟨fun hj_ a w vs105 hA hS hd => ?_, ?_⟩
     ·skip
      obtain ⟨e1, rs1, hy1, hp1⟩ := hd 1 (by decide)
      obtain ⟨hv1, hr1⟩ := hy1; subst hr1
      rw [hv1] at e1
      obtain ⟨e7, rs7, hy7, hp7⟩ := hd 7 (by decide)
      obtain ⟨hv7, hr7⟩ := hy7; subst hr7
      have hp7_0 := hp7 _ (List.mem_of_getElem? (i := 0) rfl)
      exact opG_of rfl (vn (op_call rfl en_42 (ev2 (tmp_ev (slot_ev e1 rfl)) (tmp_ev (slot_ev e7 rfl))) (rlists_0 _ R vr (hS.sk 5 rfl) (l ++ [(lowF R l l.length + (k : Int))]) _ (SlAt.of_row hp7_0) (by simp; omega))) (fun v w' h => ⟨_, And.intro trivial rfl, (Sep.start NoB _).new_row h.1 h.2, rfl⟩))
     trivial
    ·skip
     intro a w vs105 rs0 Lr hA hs0 hy0 hd hS
     obtain ⟨hv4, hr4⟩ := hy0; subst hr4
     obtain ⟨e6, rs6, hy6, hp6⟩ := hd 6 (by decide) (by decide)
     obtain ⟨hv6, hr6⟩ := hy6; subst hr6
     have hp6_0 := hp6 _ (List.mem_of_getElem? (i := 0) rfl)
     exact opG_of rfl (opY_mono (op_append hS rfl un_40 el_3 (tmp_ev (slot_ev hs0 rfl)) (tmp_ev (slot_ev e6 rfl)) (i := 0) rfl (SlAt.of_row hp6_0) rfl (by simp only [maxLen]; omega) (by omega)) fun v_ w_ h_ => ⟨_, And.intro trivial rfl, h_.row_say (i := 0) rfl (n' := (l ++ [(lowF R l l.length + (k : Int))]).length) (xs' := (ints (l ++ [(lowF R l l.length + (k : Int))]))) (by simp) (by simp [ints])⟩)
    ·skip
     intro a106 w107 vs105 rsf111 hA108 hH110 hrq hS109; clear hA104 hS91
     obtain ⟨hs_0, hy_0⟩ := hH110 0 (by decide) (by decide)
     obtain ⟨hv_0, hr_0⟩ := hy_0
     obtain ⟨hs_1, hy_1⟩ := hH110 1 (by decide) (by decide)
     obtain ⟨hv_1, hr_1⟩ := hy_1
     obtain ⟨hs_2, hy_2⟩ := hH110 2 (by decide) (by decide)
     obtain ⟨b2_, hv_2, hr_2⟩ := hy_2
     obtain ⟨hs_3, hy_3⟩ := hH110 3 (by decide) (by decide)
     obtain ⟨hv_3, hr_3⟩ := hy_3
     obtain ⟨hs_5, hy_5⟩ := hH110 5 (by decide) (by decide)
     obtain ⟨hv_5, hr_5⟩ := hy_5
     obtain ⟨hs_6, hy_6⟩ := hH110 6 (by decide) (by decide)
     obtain ⟨hv_6, hr_6⟩ := hy_6
     obtain ⟨hs_7, hy_7⟩ := hH110 7 (by decide) (by decide)
     obtain ⟨hv_7, hr_7⟩ := hy_7
     obtain ⟨hs_8, hy_8⟩ := hH110 8 (by decide) (by decide)
     obtain ⟨hv_8, hr_8⟩ := hy_8
     have hS112 : Sep NoB w w107 [(blk b2_ 3 []), (row (vs105 6) 3 1 1 [(Value.int .i64 (lowF R l l.length + (k : Int)))]), (row (vs105 7) 3 1 ((l ++ [(lowF R l l.length + (k : Int))]).length) (ints (l ++ [(lowF R l l.length + (k : Int))]))), (row (vs105 8) 40 1 1 [(vs105 7)]), (lstR ov_ (rlUpto R 0 l k)), (blk b40 48 [(Value.int .i64 ((R.getD l.length (0, 0)).1)), (Value.int .i64 ((R.getD l.length (0, 0)).2))]), (row v5_ 40 1 ov_.length ov_), (blk b4 24 [vr]), (sl xl 1 l.length (ints l)), (sl vr 2 R.length (pairs R))] := by rw [show catR rsf111 0 9 = ([(blk b2_ 3 []), (row (vs105 6) 3 1 1 [(Value.int .i64 (lowF R l l.length + (k : Int)))]), (row (vs105 7) 3 1 ((l ++ [(lowF R l l.length + (k : Int))]).length) (ints (l ++ [(lowF R l l.length + (k : Int))]))), (row (vs105 8) 40 1 1 [(vs105 7)])] : List Res) by (try simp only [catR, hr_0, hr_1, hr_2, hr_3, hr_5, hr_6, hr_7, hr_8, hrq]); (try rfl)] at hS109; exact hS109
     rw [hv_0] at hs_0
     have hA113 : Fr 55 [] [(44, v5_), (9, (Value.int .i64 (lowF R l l.length + (k : Int)))), (6, (bptr b40 0)), (5, v5_), (2, (bptr b4 0)), (1, xl)] a106 := hA108.add (slot_ev hs_0 rfl); clear hA108
     have hA114 : Fr 55 [] [(52, (vs105 8)), (44, v5_), (9, (Value.int .i64 (lowF R l l.length + (k : Int)))), (6, (bptr b40 0)), (5, v5_), (2, (bptr b4 0)), (1, xl)] a106 := hA113.add (slot_ev hs_8 rfl); clear hA113
     clear hH110 hS109 hs_0 hs_1 hs_2 hs_3 hs_5 hs_6 hs_7 hs_8 hrq
     clear hr_0
     clear hv_0
     clear hr_1
     clear hv_1
     clear hr_2
     clear hv_2
     clear hr_3
     clear hv_3
     clear hr_5
     clear hv_5
     clear hr_6
     clear hv_6
     clear hr_7
     clear hv_7
     clear hr_8
     clear hv_8
     refine stw hA114 (op_append hS112 rfl un_38 el_40 (hA114.ev rfl) (hA114.ev rfl) (i := 6) rfl (SlAt.of_row (hS112.ok_row 3 rfl)) (all_c (SlAt.one (SlAt.of_row (hS112.ok_row 2 rfl))) all_n) (by simp only [maxLen]; omega) (by omega)) rfl rfl (by decide) ?_
     intro a115 v118 w117 hS119 hA116
     have hS120 := hS119.row_say (i := 6) rfl (n' := (ov_ ++ [(vs105 7)]).length) (xs' := (ov_ ++ [(vs105 7)])) (by simp) rfl; clear hS119 hA114 hS112 a106
     refine st hA116 (op_assign rfl (hA116.ev rfl)) rfl rfl (by decide) fun a121 hA122 => ?_; clear hA116 a115
     refine wl_nil ?_
     refine blk_n ?_
     refine then_n ?_
     refine c_region ?_
     refine st hA122 (op_move rfl (hA122.ev rfl)) rfl rfl (by decide) fun a123 hA124 => ?_; clear hA122 a121
     refine st hA124 (op_add rfl (hA124.ev rfl) (evc _ _) (by omega) (by omega)) rfl rfl (by decide) fun a125 hA126 => ?_; clear hA124 a123
     refine st hA126 (op_assign rfl (hA126.ev rfl)) rfl rfl (by decide) fun a127 hA128 => ?_; clear hA126 a125
     refine wl_nil ?_
     have hS129 : Sep NoB w w117 [(row (vs105 7) 3 1 ((l ++ [(lowF R l l.length + (k : Int))]).length) (ints (l ++ [(lowF R l l.length + (k : Int))]))), (lstR ov_ (rlUpto R 0 l k)), (blk b2_ 3 []), (row (vs105 6) 3 1 1 [(Value.int .i64 (lowF R l l.length + (k : Int)))]), (row (vs105 8) 40 1 1 [(vs105 7)]), (blk b40 48 [(Value.int .i64 ((R.getD l.length (0, 0)).1)), (Value.int .i64 ((R.getD l.length (0, 0)).2))]), (row v118 40 1 ((ov_ ++ [(vs105 7)]).length) (ov_ ++ [(vs105 7)])), (blk b4 24 [vr]), (sl xl 1 l.length (ints l)), (sl vr 2 R.length (pairs R))] := hS120.keep [2, 4, 0, 1, 3, 5, 6, 7, 8, 9] (by decide) _ rfl rfl; clear hS120
     have hS130 := hS129.lst_snoc; clear hS129
     rw [show lowF R l l.length + (k : Int) + 1 = lowF R l l.length + ((k + 1 : Nat) : Int) from by omega] at hA128
     have hS131 : Sep NoB w w117 [(lstR (ov_ ++ [(vs105 7)]) ((rlUpto R 0 l k) ++ [(l ++ [(lowF R l l.length + (k : Int))])])), (blk b40 48 [(Value.int .i64 ((R.getD l.length (0, 0)).1)), (Value.int .i64 ((R.getD l.length (0, 0)).2))]), (row v118 40 1 ((ov_ ++ [(vs105 7)]).length) (ov_ ++ [(vs105 7)])), (blk b4 24 [vr]), (sl xl 1 l.length (ints l)), (sl vr 2 R.length (pairs R))] := hS130.keep [0, 4, 5, 6, 7, 8] (by decide) _ rfl rfl; clear hS130
     exact then_n ⟨k + 1, ⟨(ov_ ++ [(vs105 7)]), v118, hA128.as _ rfl, (hS131.lst_say (i := 0) rfl (by first | (rw [rlUpto_succ]; done) | (rw [rlUpto_succ]; rfl))), hlt⟩, by omega⟩
   ·skip
    have hA132 := hA101.as [(9, (Value.int .i64 (lowF R l l.length + (k : Int)))), (6, (bptr b40 0)), (5, v5_), (2, (bptr b4 0)), (1, xl)] rfl; clear hA101
    refine c_drawV mixed hA132 hS91 9 [[], [], [], [], [2, 3], [], [5], [2, 4, 6], [1, 7]] [(fun (vs133 : Nat → Value) (v_ : Value) (rs_ : List Res) => v_ = v5_ ∧ rs_ = []), (fun (vs133 : Nat → Value) (v_ : Value) (rs_ : List Res) => v_ = (Value.agg #[vr]) ∧ rs_ = []), (fun (vs133 : Nat → Value) (v_ : Value) (rs_ : List Res) => ∃ (b2_ : Nat), v_ = (Value.slice (some ⟨b2_, 0, none⟩) 0 0) ∧ rs_ = [(blk b2_ 3 [])]), (fun (vs133 : Nat → Value) (v_ : Value) (rs_ : List Res) => v_ = xl ∧ rs_ = []), (fun (vs133 : Nat → Value) (v_ : Value) (rs_ : List Res) => v_ = (vs133 2) ∧ rs_ = []), (fun (vs133 : Nat → Value) (v_ : Value) (rs_ : List Res) => v_ = (Value.int .i64 (lowF R l l.length + (k : Int))) ∧ rs_ = []), (fun (vs133 : Nat → Value) (v_ : Value) (rs_ : List Res) => True ∧ rs_ = [(row v_ 3 1 1 [(Value.int .i64 (lowF R l l.length + (k : Int)))])]), (fun (vs133 : Nat → Value) (v_ : Value) (rs_ : List Res) => True ∧ rs_ = [(row v_ 3 1 1 [(Value.int .i64 (lowF R l l.length + (k : Int)))])]), (fun (vs133 : Nat → Value) (v_ : Value) (rs_ : List Res) => True ∧ rs_ = [(row v_ 40 1 1 [(vs133 7)])])] (by decide +kernel) (by decide +kernel) rfl rfl ⟨(fun _ _ _ _ _ h_ => h_), (fun _ _ _ _ _ h_ => h_), (fun _ _ _ _ _ h_ => h_), (fun _ _ _ _ _ h_ => h_), (fun _ _ _ _ he_ h_ => by dsimp only at h_ ⊢; rw [← he_ 2 (by decide)]; exact h_), (fun _ _ _ _ _ h_ => h_), (fun _ _ _ _ _ h_ => h_), (fun _ _ _ _ _ h_ => h_), (fun _ _ _ _ he_ h_ => by dsimp only at h_ ⊢; rw [← he_ 7 (by decide)]; exact h_), trivial⟩ ?_ ?_
    ·skip
     refine ⟨fun a w vs133 hA hS hd => ?_, ?_⟩
     ·skip
      exact opG_of rfl (vv (op_move rfl (hA.ev rfl)) (And.intro rfl rfl))
     refine ⟨fun a w vs133 hA hS hd => ?_, ?_⟩
     ·skip
      exact opG_of rfl (vv (op_loadA rfl ty_24 (hA.ev rfl) (hS.bk 3 rfl) (l := [vr]) rfl rfl) (And.intro rfl rfl))
     refine ⟨fun a w vs133 hA hS hd => ?_, ?_⟩
     ·skip
      exact opG_of rfl (vblz rfl pv0 un_40 ty_3 ze_3 bs_3_0_ (fun b_ => ⟨b_, rfl, rfl⟩))
     refine ⟨fun a w vs133 hA hS hd => ?_, ?_⟩
     ·skip
      exact opG_of rfl (vv (op_move rfl (hA.ev rfl)) (And.intro rfl rfl))
     refine ⟨fun a w vs133 hA hS hd => ?_, ?_⟩
     ·skip
      obtain ⟨e2, rs2, hy2, hp2⟩ := hd 2 (by decide)
      obtain ⟨b2_, hv2, hr2⟩ := hy2; subst hr2
      rw [hv2] at e2
      have hp2_0 := hp2 _ (List.mem_of_getElem? (i := 0) rfl)
      obtain ⟨e3, rs3, hy3, hp3⟩ := hd 3 (by decide)
      obtain ⟨hv3, hr3⟩ := hy3; subst hr3
      rw [hv3] at e3
      exact opG_of rfl (vv (op_appendZ rfl un_40 el_3 (tmp_ev (slot_ev e2 rfl)) (tmp_ev (slot_ev e3 rfl)) (hS.sk 4 rfl) (Nat.eq_zero_of_not_pos hb103)) (And.intro hv2.symm rfl))
     refine ⟨fun a w vs133 hA hS hd => ?_, ?_⟩
     ·skip
      exact opG_of rfl (vv (op_move rfl (hA.ev rfl)) (And.intro rfl rfl))
     refine ⟨fun a w vs133 hA hS hd => ?_, ?_⟩
     ·skip
      obtain ⟨e5, rs5, hy5, hp5⟩ := hd 5 (by decide)
      obtain ⟨hv5, hr5⟩ := hy5; subst hr5
      rw [hv5] at e5
      exact opG_of rfl (vblt rfl (pv1 (tmp_ev (slot_ev e5 rfl))) un_40 ty_3 ze_3 (by decide) (cs := [(Value.int .i64 (lowF R l l.length + (k : Int)))]) (bs_3_1_0i _) rfl (by decide) (fun _ => And.intro trivial rfl))
     refine ⟨fun a w vs133 hA hS hd => ?_, ?_⟩
     ·skip
      obtain ⟨e2, rs2, hy2, hp2⟩ := hd 2 (by decide)
      obtain ⟨b2_, hv2, hr2⟩ := hy2; subst hr2
      rw [hv2] at e2
      have hp2_0 := hp2 _ (List.mem_of_getElem? (i := 0) rfl)
      obtain ⟨e4, rs4, hy4, hp4⟩ := hd 4 (by decide)
      obtain ⟨hv4, hr4⟩ := hy4; subst hr4
      rw [hv4, hv2] at e4
      obtain ⟨e6, rs6, hy6, hp6⟩ := hd 6 (by decide)
      obtain ⟨hv6, hr6⟩ := hy6; subst hr6
      have hp6_0 := hp6 _ (List.mem_of_getElem? (i := 0) rfl)
      exact opG_of rfl (vap0 (op_append0 rfl un_40 el_3 (tmp_ev (slot_ev e4 rfl)) (tmp_ev (slot_ev e6 rfl)) (SlAt.of_row hp6_0) rfl (by simp only [maxLen]; omega) (by omega) (by omega)) (fun _ => And.intro trivial rfl))
     refine ⟨fun a w vs133 hA hS hd => ?_, ?_⟩
     ·skip
      obtain ⟨e1, rs1, hy1, hp1⟩ := hd 1 (by decide)
      obtain ⟨hv1, hr1⟩ := hy1; subst hr1
      rw [hv1] at e1
      obtain ⟨e7, rs7, hy7, hp7⟩ := hd 7 (by decide)
      obtain ⟨hv7, hr7⟩ := hy7; subst hr7
      have hp7_0 := hp7 _ (List.mem_of_getElem? (i := 0) rfl)
      exact opG_of rfl (vn (op_call rfl en_42 (ev2 (tmp_ev (slot_ev e1 rfl)) (tmp_ev (slot_ev e7 rfl))) (rlists_0 _ R vr (hS.sk 5 rfl) (l ++ [(lowF R l l.length + (k : Int))]) _ ((SlAt.of_row hp7_0).tell (by rw [List.eq_nil_of_length_eq_zero (Nat.eq_zero_of_not_pos hb103)]; rfl) (by rw [List.eq_nil_of_length_eq_zero (Nat.eq_zero_of_not_pos hb103)]; rfl)) (by simp; omega))) (fun v w' h => ⟨_, And.intro trivial rfl, (Sep.start NoB _).new_row h.1 h.2, rfl⟩))
     trivial
    intro a134 w135 vs133 rsf139 hA136 hH138 hS137; clear hA132 hS91
    obtain ⟨hs_0, hy_0⟩ := hH138 0 (by decide)
    obtain ⟨hv_0, hr_0⟩ := hy_0
    obtain ⟨hs_1, hy_1⟩ := hH138 1 (by decide)
    obtain ⟨hv_1, hr_1⟩ := hy_1
    obtain ⟨hs_2, hy_2⟩ := hH138 2 (by decide)
    obtain ⟨b2_, hv_2, hr_2⟩ := hy_2
    obtain ⟨hs_3, hy_3⟩ := hH138 3 (by decide)
    obtain ⟨hv_3, hr_3⟩ := hy_3
    obtain ⟨hs_4, hy_4⟩ := hH138 4 (by decide)
    obtain ⟨hv_4, hr_4⟩ := hy_4
    obtain ⟨hs_5, hy_5⟩ := hH138 5 (by decide)
    obtain ⟨hv_5, hr_5⟩ := hy_5
    obtain ⟨hs_6, hy_6⟩ := hH138 6 (by decide)
    obtain ⟨hv_6, hr_6⟩ := hy_6
    obtain ⟨hs_7, hy_7⟩ := hH138 7 (by decide)
    obtain ⟨hv_7, hr_7⟩ := hy_7
    obtain ⟨hs_8, hy_8⟩ := hH138 8 (by decide)
    obtain ⟨hv_8, hr_8⟩ := hy_8
    have hS140 : Sep NoB w w135 [(blk b2_ 3 []), (row (vs133 6) 3 1 1 [(Value.int .i64 (lowF R l l.length + (k : Int)))]), (row (vs133 7) 3 1 1 [(Value.int .i64 (lowF R l l.length + (k : Int)))]), (row (vs133 8) 40 1 1 [(vs133 7)]), (lstR ov_ (rlUpto R 0 l k)), (blk b40 48 [(Value.int .i64 ((R.getD l.length (0, 0)).1)), (Value.int .i64 ((R.getD l.length (0, 0)).2))]), (row v5_ 40 1 ov_.length ov_), (blk b4 24 [vr]), (sl xl 1 l.length (ints l)), (sl vr 2 R.length (pairs R))] := by rw [show catR rsf139 0 9 = ([(blk b2_ 3 []), (row (vs133 6) 3 1 1 [(Value.int .i64 (lowF R l l.length + (k : Int)))]), (row (vs133 7) 3 1 1 [(Value.int .i64 (lowF R l l.length + (k : Int)))]), (row (vs133 8) 40 1 1 [(vs133 7)])] : List Res) by (try simp only [catR, hr_0, hr_1, hr_2, hr_3, hr_4, hr_5, hr_6, hr_7, hr_8]); (try rfl)] at hS137; exact hS137
    rw [hv_0] at hs_0
    have hA141 : Fr 55 [] [(44, v5_), (9, (Value.int .i64 (lowF R l l.length + (k : Int)))), (6, (bptr b40 0)), (5, v5_), (2, (bptr b4 0)), (1, xl)] a134 := hA136.add (slot_ev hs_0 rfl); clear hA136
    have hA142 : Fr 55 [] [(52, (vs133 8)), (44, v5_), (9, (Value.int .i64 (lowF R l l.length + (k : Int)))), (6, (bptr b40 0)), (5, v5_), (2, (bptr b4 0)), (1, xl)] a134 := hA141.add (slot_ev hs_8 rfl); clear hA141
    clear hH138 hS137 hs_0 hs_1 hs_2 hs_3 hs_4 hs_5 hs_6 hs_7 hs_8
    clear hr_0
    clear hv_0
    clear hr_1
    clear hv_1
    clear hr_2
    clear hv_2
    clear hr_3
    clear hv_3
    clear hr_4
    clear hv_4
    clear hr_5
    clear hv_5
    clear hr_6
    clear hv_6
    clear hr_7
    clear hv_7
    clear hr_8
    clear hv_8
    refine stw hA142 (op_append hS140 rfl un_38 el_40 (hA142.ev rfl) (hA142.ev rfl) (i := 6) rfl (SlAt.of_row (hS140.ok_row 3 rfl)) (all_c (SlAt.one (SlAt.of_row (hS140.ok_row 2 rfl))) all_n) (by simp only [maxLen]; omega) (by omega)) rfl rfl (by decide) ?_
    intro a143 v146 w145 hS147 hA144
    have hS148 := hS147.row_say (i := 6) rfl (n' := (ov_ ++ [(vs133 7)]).length) (xs' := (ov_ ++ [(vs133 7)])) (by simp) rfl; clear hS147 hA142 hS140 a134
    refine st hA144 (op_assign rfl (hA144.ev rfl)) rfl rfl (by decide) fun a149 hA150 => ?_; clear hA144 a143
    refine wl_nil ?_
    refine blk_n ?_
    refine then_n ?_
    refine c_region ?_
    refine st hA150 (op_move rfl (hA150.ev rfl)) rfl rfl (by decide) fun a151 hA152 => ?_; clear hA150 a149
    refine st hA152 (op_add rfl (hA152.ev rfl) (evc _ _) (by omega) (by omega)) rfl rfl (by decide) fun a153 hA154 => ?_; clear hA152 a151
    refine st hA154 (op_assign rfl (hA154.ev rfl)) rfl rfl (by decide) fun a155 hA156 => ?_; clear hA154 a153
    refine wl_nil ?_
    have hS157 := hS148.row_say (i := 2) rfl (n' := (l ++ [(lowF R l l.length + (k : Int))]).length) (xs' := ints (l ++ [(lowF R l l.length + (k : Int))])) (by rw [List.eq_nil_of_length_eq_zero (Nat.eq_zero_of_not_pos hb103)]; rfl) (by rw [List.eq_nil_of_length_eq_zero (Nat.eq_zero_of_not_pos hb103)]; rfl); clear hS148
    have hS158 : Sep NoB w w145 [(row (vs133 7) 3 1 ((l ++ [(lowF R l l.length + (k : Int))]).length) (ints (l ++ [(lowF R l l.length + (k : Int))]))), (lstR ov_ (rlUpto R 0 l k)), (blk b2_ 3 []), (row (vs133 6) 3 1 1 [(Value.int .i64 (lowF R l l.length + (k : Int)))]), (row (vs133 8) 40 1 1 [(vs133 7)]), (blk b40 48 [(Value.int .i64 ((R.getD l.length (0, 0)).1)), (Value.int .i64 ((R.getD l.length (0, 0)).2))]), (row v146 40 1 ((ov_ ++ [(vs133 7)]).length) (ov_ ++ [(vs133 7)])), (blk b4 24 [vr]), (sl xl 1 l.length (ints l)), (sl vr 2 R.length (pairs R))] := hS157.keep [2, 4, 0, 1, 3, 5, 6, 7, 8, 9] (by decide) _ rfl rfl; clear hS157
    have hS159 := hS158.lst_snoc; clear hS158
    rw [show lowF R l l.length + (k : Int) + 1 = lowF R l l.length + ((k + 1 : Nat) : Int) from by omega] at hA156
    have hS160 : Sep NoB w w145 [(lstR (ov_ ++ [(vs133 7)]) ((rlUpto R 0 l k) ++ [(l ++ [(lowF R l l.length + (k : Int))])])), (blk b40 48 [(Value.int .i64 ((R.getD l.length (0, 0)).1)), (Value.int .i64 ((R.getD l.length (0, 0)).2))]), (row v146 40 1 ((ov_ ++ [(vs133 7)]).length) (ov_ ++ [(vs133 7)])), (blk b4 24 [vr]), (sl xl 1 l.length (ints l)), (sl vr 2 R.length (pairs R))] := hS159.keep [0, 4, 5, 6, 7, 8] (by decide) _ rfl rfl; clear hS159
    exact then_n ⟨k + 1, ⟨(ov_ ++ [(vs133 7)]), v146, hA156.as _ rfl, (hS160.lst_say (i := 0) rfl (by first | (rw [rlUpto_succ]; done) | (rw [rlUpto_succ]; rfl))), hlt⟩, by omega⟩
  ·skip
   rw [decide_eq_false hb100] at hA99
   have hte := cnt_eq hb100 hk1
   refine c_false hA99 rfl ?_
   refine c_exit ?_
   refine then_exit ?_
   refine then_exit ?_
   refine blk_hit ?_
   refine then_n ?_
   refine c_seq ?_
   have hA161 := hA99.as [(5, v5_)] rfl; clear hA99
   refine c_region ?_
   refine st hA161 (op_move rfl (hA161.ev rfl)) rfl rfl (by decide) fun a162 hA163 => ?_; clear hA161 a98
   refine st hA163 (op_assign rfl (hA163.ev rfl)) rfl rfl (by decide) fun a164 hA165 => ?_; clear hA163 a162
   refine wl_nil ?_
   refine then_n ?_
   refine c_ret ?_
   refine fin_run hA165 (.inl rfl) (run_results1 hA165 rfl (.tmp rfl)) ?_
   rw [rlF_end, ← hte]
   exact ⟨_, hS91.keep [2, 0] (by decide) _ rfl rfl⟩
 ·skip
  rw [decide_eq_false hb63] at hA62
  refine c_false hA62 rfl ?_
  refine c_skip ?_
  refine then_n ?_
  refine c_seq ?_
  refine c_seq ?_
  have hA166 := hA62.as [(7, (Value.int .i64 ((R.getD l.length (0, 0)).1))), (6, (bptr b40 0)), (5, (Value.slice none 0 0)), (2, (bptr b4 0)), (1, xl)] rfl; clear hA62
  rw [show (R.getD l.length (0, 0)).1 = lowF R l l.length + ((0 : Nat) : Int) from (by rw [show lowF R l l.length + ((0 : Nat) : Int) = lowF R l l.length from Int.add_zero _]; first | exact (lowF_pos (by assumption)).symm | exact (lowF_zero (by assumption)).symm)] at hA166
  refine c_region ?_
  refine st hA166 (op_move rfl (hA166.ev rfl)) rfl rfl (by decide) fun a167 hA168 => ?_; clear hA166 a61
  refine st hA168 (op_assign rfl (hA168.ev rfl)) rfl rfl (by decide) fun a169 hA170 => ?_; clear hA168 a167
  refine wl_nil ?_
  refine then_n ?_
  refine c_block ?_
  have hS171 := hS45.lst_nil; clear hS45
  have hA172 := hA170.as [(9, (Value.int .i64 (lowF R l l.length + ((0 : Nat) : Int)))), (6, (bptr b40 0)), (5, (Value.slice none 0 0)), (2, (bptr b4 0)), (1, xl)] rfl; clear hA170
  refine c_loop (G := Nat) (fun (k : Nat) a_ w_ => ∃ ov_ : List Value, ∃ v5_ : Value, Fr 55 [] [(9, (Value.int .i64 (lowF R l l.length + (k : Int)))), (6, (bptr b40 0)), (5, v5_), (2, (bptr b4 0)), (1, xl)] a_ ∧ Sep NoB w w_ [(lstR ov_ (rlUpto R 0 l k)), (blk b40 48 [(Value.int .i64 ((R.getD l.length (0, 0)).1)), (Value.int .i64 ((R.getD l.length (0, 0)).2))]), (row v5_ 40 1 ov_.length ov_), (blk b4 24 [vr]), (sl xl 1 l.length (ints l)), (sl vr 2 R.length (pairs R))] ∧ (k ≤ cntF R l l.length)) (fun k => cntF R l l.length - k) 0 ⟨[], (Value.slice none 0 0), hA172.as _ rfl, hS171, (Nat.zero_le _)⟩ ?_
  clear hA172 hS171 a169
  rintro k a173 w175 ⟨ov_, v5_, hA174, hS176, hk1⟩
  have hol := hS176.lst_len 0 rfl
  refine c_seq ?_
  refine c_seq ?_
  refine c_region ?_
  refine st hA174 (op_move rfl (hA174.ev rfl)) rfl rfl (by decide) fun a177 hA178 => ?_; clear hA174 a173
  refine st hA178 (op_field rfl fd_48_1 (hA178.ev rfl)) rfl rfl (by decide) fun a179 hA180 => ?_; clear hA178 a177
  refine st hA180 (op_load1 rfl ty_3 (hA180.ev rfl) (hS176.bk 1 rfl) rfl) rfl rfl (by decide) fun a181 hA182 => ?_; clear hA180 a179
  refine st hA182 (op_leq rfl (hA182.ev rfl) (hA182.ev rfl)) rfl rfl (by decide) fun a183 hA184 => ?_; clear hA182 a181
  refine wl_nil ?_
  refine then_n ?_
  by_cases hb185 : (lowF R l l.length + (k : Int)) ≤ ((R.getD l.length (0, 0)).2)
  ·skip
   rw [decide_eq_true hb185] at hA184
   have hlt := cnt_lt hb185; have hsn := small_snoc hR hsm hlt; have hlb : 0 ≤ lowF R l l.length := by unfold lowF; have h9 := hR.2 l.length; split <;> omega
   have hlu := hR.2 l.length
   refine c_true hA184 rfl ?_
   refine c_skip ?_
   refine then_n ?_
   refine c_seq ?_
   refine c_block ?_
   have hpre : (rlUpto R 0 l k).length ≤ 1003003001 := Nat.le_trans (rlUpto_le R 0 l (Nat.le_of_lt hlt)) (Nat.le_trans (rlF_len hR (0 + 1) l hsm) (pow_small (by omega))); have hsf : (rlF R 0 (l ++ [(lowF R l l.length + (k : Int))])).length ≤ 1003003001 := Nat.le_trans (rlF_len hR _ _ hsn) (pow_small (by omega))
   have hA186 := hA184.as [(9, (Value.int .i64 (lowF R l l.length + (k : Int)))), (6, (bptr b40 0)), (5, v5_), (2, (bptr b4 0)), (1, xl)] rfl; clear hA184
   by_cases hb188 : 0 < l.length
   ·skip
    have hA189 := hA186.as [(9, (Value.int .i64 (lowF R l l.length + (k : Int)))), (6, (bptr b40 0)), (5, v5_), (2, (bptr b4 0)), (1, xl)] rfl; clear hA186
    refine c_drawC mixed hA189 hS176 9 7 4 (by decide) (by decide) (by decide) rfl [[], [], [], [], [2, 3], [], [5], [4, 6], [1, 7]] [(fun (vs190 : Nat → Value) (v_ : Value) (rs_ : List Res) => v_ = v5_ ∧ rs_ = []), (fun (vs190 : Nat → Value) (v_ : Value) (rs_ : List Res) => v_ = (Value.agg #[vr]) ∧ rs_ = []), (fun (vs190 : Nat → Value) (v_ : Value) (rs_ : List Res) => ∃ (b2_ : Nat), v_ = (Value.slice (some ⟨b2_, 0, none⟩) 0 0) ∧ rs_ = [(blk b2_ 3 [])]), (fun (vs190 : Nat → Value) (v_ : Value) (rs_ : List Res) => v_ = xl ∧ rs_ = []), (fun (vs190 : Nat → Value) (v_ : Value) (rs_ : List Res) => True ∧ rs_ = [(row v_ 3 1 l.length (ints l))]), (fun (vs190 : Nat → Value) (v_ : Value) (rs_ : List Res) => v_ = (Value.int .i64 (lowF R l l.length + (k : Int))) ∧ rs_ = []), (fun (vs190 : Nat → Value) (v_ : Value) (rs_ : List Res) => True ∧ rs_ = [(row v_ 3 1 1 [(Value.int .i64 (lowF R l l.length + (k : Int)))])]), (fun (vs190 : Nat → Value) (v_ : Value) (rs_ : List Res) => True ∧ rs_ = [(row v_ 3 1 ((l ++ [(lowF R l l.length + (k : Int))]).length) (ints (l ++ [(lowF R l l.length + (k : Int))])))]), (fun (vs190 : Nat → Value) (v_ : Value) (rs_ : List Res) => True ∧ rs_ = [(row v_ 40 1 1 [(vs190 7)])])] (by decide +kernel) (by decide +kernel) rfl rfl ⟨(fun _ _ _ _ _ h_ => h_), (fun _ _ _ _ _ h_ => h_), (fun _ _ _ _ _ h_ => h_), (fun _ _ _ _ _ h_ => h_), (fun _ _ _ _ _ h_ => h_), (fun _ _ _ _ _ h_ => h_), (fun _ _ _ _ _ h_ => h_), (fun _ _ _ _ _ h_ => h_), (fun _ _ _ _ he_ h_ => by dsimp only at h_ ⊢; rw [← he_ 7 (by decide)]; exact h_), trivial⟩ (by decide +kernel) (by decide +kernel) ?_ ?_ ?_
    ·skip
     refine ⟨fun hj_ a w vs190 hA hS hd => ?_, ?_⟩
     ·skip
      exact opG_of rfl (vv (op_move rfl (hA.ev rfl)) (And.intro rfl rfl))
     refine ⟨fun hj_ a w vs190 hA hS hd => ?_, ?_⟩
     ·skip
      exact opG_of rfl (vv (op_loadA rfl ty_24 (hA.ev rfl) (hS.bk 3 rfl) (l := [vr]) rfl rfl) (And.intro rfl rfl))
     refine ⟨fun hj_ a w vs190 hA hS hd => ?_, ?_⟩
     ·skip
      exact opG_of rfl (vblz rfl pv0 un_40 ty_3 ze_3 bs_3_0_ (fun b_ => ⟨b_, rfl, rfl⟩))
     refine ⟨fun hj_ a w vs190 hA hS hd => ?_, ?_⟩
     ·skip
      exact opG_of rfl (vv (op_move rfl (hA.ev rfl)) (And.intro rfl rfl))
     refine ⟨fun hj_ a w vs190 hA hS hd => ?_, ?_⟩
     ·skip
      obtain ⟨e2, rs2, hy2, hp2⟩ := hd 2 (by decide)
      obtain ⟨b2_, hv2, hr2⟩ := hy2; subst hr2
      rw [hv2] at e2
      have hp2_0 := hp2 _ (List.mem_of_getElem? (i := 0) rfl)
      obtain ⟨e3, rs3, hy3, hp3⟩ := hd 3 (by decide)
      obtain ⟨hv3, hr3⟩ := hy3; subst hr3
      rw [hv3] at e3
      exact opG_of rfl (vap0 (op_append0 rfl un_40 el_3 (tmp_ev (slot_ev e2 rfl)) (tmp_ev (slot_ev e3 rfl)) (hS.sk 4 rfl) (ints_one _) (by simp only [maxLen]; omega) (by omega) hb188) (fun _ => And.intro trivial rfl))
     refine ⟨fun hj_ a w vs190 hA hS hd => ?_, ?_⟩
     ·skip
      exact opG_of rfl (vv (op_move rfl (hA.ev rfl)) (And.intro rfl rfl))
     refine ⟨fun hj_ a w vs190 hA hS hd => ?_, ?_⟩
     ·skip
      obtain ⟨e5, rs5, hy5, hp5⟩ := hd 5 (by decide)
      obtain ⟨hv5, hr5⟩ := hy5; subst hr5
      rw [hv5] at e5
      exact opG_of rfl (vblt rfl (pv1 (tmp_ev (slot_ev e5 rfl))) un_40 ty_3 ze_3 (by decide) (cs := [(Value.int .i64 (lowF R l l.length + (k : Int)))]) (bs_3_1_0i _) rfl (by decide) (fun _ => And.intro trivial rfl))
     refine ⟨fun hj_ => absurd rfl hj_, ?_⟩
     refine ⟨fun hj_ a w vs190 hA hS hd => ?_, ?_⟩
     ·skip
      obtain ⟨e1, rs1, hy1, hp1⟩ := hd 1 (by decide)
      obtain ⟨hv1, hr1⟩ := hy1; subst hr1
      rw [hv1] at e1
      obtain ⟨e7, rs7, hy7, hp7⟩ := hd 7 (by decide)
      obtain ⟨hv7, hr7⟩ := hy7; subst hr7
      have hp7_0 := hp7 _ (List.mem_of_getElem? (i := 0) rfl)
      exact opG_of rfl (vn (op_call rfl en_42 (ev2 (tmp_ev (slot_ev e1 rfl)) (tmp_ev (slot_ev e7 rfl))) (rlists_0 _ R vr (hS.sk 5 rfl) (l ++ [(lowF R l l.length + (k : Int))]) _ (SlAt.of_row hp7_0) (by simp; omega))) (fun v w' h => ⟨_, And.intro trivial rfl, (Sep.start NoB _).new_row h.1 h.2, rfl⟩))
     trivial
    ·skip
     intro a w vs190 rs0 Lr hA hs0 hy0 hd hS
     obtain ⟨hv4, hr4⟩ := hy0; subst hr4
     obtain ⟨e6, rs6, hy6, hp6⟩ := hd 6 (by decide) (by decide)
     obtain ⟨hv6, hr6⟩ := hy6; subst hr6
     have hp6_0 := hp6 _ (List.mem_of_getElem? (i := 0) rfl)
     exact opG_of rfl (opY_mono (op_append hS rfl un_40 el_3 (tmp_ev (slot_ev hs0 rfl)) (tmp_ev (slot_ev e6 rfl)) (i := 0) rfl (SlAt.of_row hp6_0) rfl (by simp only [maxLen]; omega) (by omega)) fun v_ w_ h_ => ⟨_, And.intro trivial rfl, h_.row_say (i := 0) rfl (n' := (l ++ [(lowF R l l.length + (k : Int))]).length) (xs' := (ints (l ++ [(lowF R l l.length + (k : Int))]))) (by simp) (by simp [ints])⟩)
    ·skip
     intro a191 w192 vs190 rsf196 hA193 hH195 hrq hS194; clear hA189 hS176
     obtain ⟨hs_0, hy_0⟩ := hH195 0 (by decide) (by decide)
     obtain ⟨hv_0, hr_0⟩ := hy_0
     obtain ⟨hs_1, hy_1⟩ := hH195 1 (by decide) (by decide)
     obtain ⟨hv_1, hr_1⟩ := hy_1
     obtain ⟨hs_2, hy_2⟩ := hH195 2 (by decide) (by decide)
     obtain ⟨b2_, hv_2, hr_2⟩ := hy_2
     obtain ⟨hs_3, hy_3⟩ := hH195 3 (by decide) (by decide)
     obtain ⟨hv_3, hr_3⟩ := hy_3
     obtain ⟨hs_5, hy_5⟩ := hH195 5 (by decide) (by decide)
     obtain ⟨hv_5, hr_5⟩ := hy_5
     obtain ⟨hs_6, hy_6⟩ := hH195 6 (by decide) (by decide)
     obtain ⟨hv_6, hr_6⟩ := hy_6
     obtain ⟨hs_7, hy_7⟩ := hH195 7 (by decide) (by decide)
     obtain ⟨hv_7, hr_7⟩ := hy_7
     obtain ⟨hs_8, hy_8⟩ := hH195 8 (by decide) (by decide)
     obtain ⟨hv_8, hr_8⟩ := hy_8
     have hS197 : Sep NoB w w192 [(blk b2_ 3 []), (row (vs190 6) 3 1 1 [(Value.int .i64 (lowF R l l.length + (k : Int)))]), (row (vs190 7) 3 1 ((l ++ [(lowF R l l.length + (k : Int))]).length) (ints (l ++ [(lowF R l l.length + (k : Int))]))), (row (vs190 8) 40 1 1 [(vs190 7)]), (lstR ov_ (rlUpto R 0 l k)), (blk b40 48 [(Value.int .i64 ((R.getD l.length (0, 0)).1)), (Value.int .i64 ((R.getD l.length (0, 0)).2))]), (row v5_ 40 1 ov_.length ov_), (blk b4 24 [vr]), (sl xl 1 l.length (ints l)), (sl vr 2 R.length (pairs R))] := by rw [show catR rsf196 0 9 = ([(blk b2_ 3 []), (row (vs190 6) 3 1 1 [(Value.int .i64 (lowF R l l.length + (k : Int)))]), (row (vs190 7) 3 1 ((l ++ [(lowF R l l.length + (k : Int))]).length) (ints (l ++ [(lowF R l l.length + (k : Int))]))), (row (vs190 8) 40 1 1 [(vs190 7)])] : List Res) by (try simp only [catR, hr_0, hr_1, hr_2, hr_3, hr_5, hr_6, hr_7, hr_8, hrq]); (try rfl)] at hS194; exact hS194
     rw [hv_0] at hs_0
     have hA198 : Fr 55 [] [(44, v5_), (9, (Value.int .i64 (lowF R l l.length + (k : Int)))), (6, (bptr b40 0)), (5, v5_), (2, (bptr b4 0)), (1, xl)] a191 := hA193.add (slot_ev hs_0 rfl); clear hA193
     have hA199 : Fr 55 [] [(52, (vs190 8)), (44, v5_), (9, (Value.int .i64 (lowF R l l.length + (k : Int)))), (6, (bptr b40 0)), (5, v5_), (2, (bptr b4 0)), (1, xl)] a191 := hA198.add (slot_ev hs_8 rfl); clear hA198
     clear hH195 hS194 hs_0 hs_1 hs_2 hs_3 hs_5 hs_6 hs_7 hs_8 hrq
     clear hr_0
     clear hv_0
     clear hr_1
     clear hv_1
     clear hr_2
     clear hv_2
     clear hr_3
     clear hv_3
     clear hr_5
     clear hv_5
     clear hr_6
     clear hv_6
     clear hr_7
     clear hv_7
     clear hr_8
     clear hv_8
     refine stw hA199 (op_append hS197 rfl un_38 el_40 (hA199.ev rfl) (hA199.ev rfl) (i := 6) rfl (SlAt.of_row (hS197.ok_row 3 rfl)) (all_c (SlAt.one (SlAt.of_row (hS197.ok_row 2 rfl))) all_n) (by simp only [maxLen]; omega) (by omega)) rfl rfl (by decide) ?_
     intro a200 v203 w202 hS204 hA201
     have hS205 := hS204.row_say (i := 6) rfl (n' := (ov_ ++ [(vs190 7)]).length) (xs' := (ov_ ++ [(vs190 7)])) (by simp) rfl; clear hS204 hA199 hS197 a191
     refine st hA201 (op_assign rfl (hA201.ev rfl)) rfl rfl (by decide) fun a206 hA207 => ?_; clear hA201 a200
     refine wl_nil ?_
     refine blk_n ?_
     refine then_n ?_
     refine c_region ?_
     refine st hA207 (op_move rfl (hA207.ev rfl)) rfl rfl (by decide) fun a208 hA209 => ?_; clear hA207 a206
     refine st hA209 (op_add rfl (hA209.ev rfl) (evc _ _) (by omega) (by omega)) rfl rfl (by decide) fun a210 hA211 => ?_; clear hA209 a208
     refine st hA211 (op_assign rfl (hA211.ev rfl)) rfl rfl (by decide) fun a212 hA213 => ?_; clear hA211 a210
     refine wl_nil ?_
     have hS214 : Sep NoB w w202 [(row (vs190 7) 3 1 ((l ++ [(lowF R l l.length + (k : Int))]).length) (ints (l ++ [(lowF R l l.length + (k : Int))]))), (lstR ov_ (rlUpto R 0 l k)), (blk b2_ 3 []), (row (vs190 6) 3 1 1 [(Value.int .i64 (lowF R l l.length + (k : Int)))]), (row (vs190 8) 40 1 1 [(vs190 7)]), (blk b40 48 [(Value.int .i64 ((R.getD l.length (0, 0)).1)), (Value.int .i64 ((R.getD l.length (0, 0)).2))]), (row v203 40 1 ((ov_ ++ [(vs190 7)]).length) (ov_ ++ [(vs190 7)])), (blk b4 24 [vr]), (sl xl 1 l.length (ints l)), (sl vr 2 R.length (pairs R))] := hS205.keep [2, 4, 0, 1, 3, 5, 6, 7, 8, 9] (by decide) _ rfl rfl; clear hS205
     have hS215 := hS214.lst_snoc; clear hS214
     rw [show lowF R l l.length + (k : Int) + 1 = lowF R l l.length + ((k + 1 : Nat) : Int) from by omega] at hA213
     have hS216 : Sep NoB w w202 [(lstR (ov_ ++ [(vs190 7)]) ((rlUpto R 0 l k) ++ [(l ++ [(lowF R l l.length + (k : Int))])])), (blk b40 48 [(Value.int .i64 ((R.getD l.length (0, 0)).1)), (Value.int .i64 ((R.getD l.length (0, 0)).2))]), (row v203 40 1 ((ov_ ++ [(vs190 7)]).length) (ov_ ++ [(vs190 7)])), (blk b4 24 [vr]), (sl xl 1 l.length (ints l)), (sl vr 2 R.length (pairs R))] := hS215.keep [0, 4, 5, 6, 7, 8] (by decide) _ rfl rfl; clear hS215
     exact then_n ⟨k + 1, ⟨(ov_ ++ [(vs190 7)]), v203, hA213.as _ rfl, (hS216.lst_say (i := 0) rfl (by first | (rw [rlUpto_succ]; done) | (rw [rlUpto_succ]; rfl))), hlt⟩, by omega⟩
   ·skip
    have hA217 := hA186.as [(9, (Value.int .i64 (lowF R l l.length + (k : Int)))), (6, (bptr b40 0)), (5, v5_), (2, (bptr b4 0)), (1, xl)] rfl; clear hA186
    refine c_drawV mixed hA217 hS176 9 [[], [], [], [], [2, 3], [], [5], [2, 4, 6], [1, 7]] [(fun (vs218 : Nat → Value) (v_ : Value) (rs_ : List Res) => v_ = v5_ ∧ rs_ = []), (fun (vs218 : Nat → Value) (v_ : Value) (rs_ : List Res) => v_ = (Value.agg #[vr]) ∧ rs_ = []), (fun (vs218 : Nat → Value) (v_ : Value) (rs_ : List Res) => ∃ (b2_ : Nat), v_ = (Value.slice (some ⟨b2_, 0, none⟩) 0 0) ∧ rs_ = [(blk b2_ 3 [])]), (fun (vs218 : Nat → Value) (v_ : Value) (rs_ : List Res) => v_ = xl ∧ rs_ = []), (fun (vs218 : Nat → Value) (v_ : Value) (rs_ : List Res) => v_ = (vs218 2) ∧ rs_ = []), (fun (vs218 : Nat → Value) (v_ : Value) (rs_ : List Res) => v_ = (Value.int .i64 (lowF R l l.length + (k : Int))) ∧ rs_ = []), (fun (vs218 : Nat → Value) (v_ : Value) (rs_ : List Res) => True ∧ rs_ = [(row v_ 3 1 1 [(Value.int .i64 (lowF R l l.length + (k : Int)))])]), (fun (vs218 : Nat → Value) (v_ : Value) (rs_ : List Res) => True ∧ rs_ = [(row v_ 3 1 1 [(Value.int .i64 (lowF R l l.length + (k : Int)))])]), (fun (vs218 : Nat → Value) (v_ : Value) (rs_ : List Res) => True ∧ rs_ = [(row v_ 40 1 1 [(vs218 7)])])] (by decide +kernel) (by decide +kernel) rfl rfl ⟨(fun _ _ _ _ _ h_ => h_), (fun _ _ _ _ _ h_ => h_), (fun _ _ _ _ _ h_ => h_), (fun _ _ _ _ _ h_ => h_), (fun _ _ _ _ he_ h_ => by dsimp only at h_ ⊢; rw [← he_ 2 (by decide)]; exact h_), (fun _ _ _ _ _ h_ => h_), (fun _ _ _ _ _ h_ => h_), (fun _ _ _ _ _ h_ => h_), (fun _ _ _ _ he_ h_ => by dsimp only at h_ ⊢; rw [← he_ 7 (by decide)]; exact h_), trivial⟩ ?_ ?_
    ·skip
     refine ⟨fun a w vs218 hA hS hd => ?_, ?_⟩
     ·skip
      exact opG_of rfl (vv (op_move rfl (hA.ev rfl)) (And.intro rfl rfl))
     refine ⟨fun a w vs218 hA hS hd => ?_, ?_⟩
     ·skip
      exact opG_of rfl (vv (op_loadA rfl ty_24 (hA.ev rfl) (hS.bk 3 rfl) (l := [vr]) rfl rfl) (And.intro rfl rfl))
     refine ⟨fun a w vs218 hA hS hd => ?_, ?_⟩
     ·skip
      exact opG_of rfl (vblz rfl pv0 un_40 ty_3 ze_3 bs_3_0_ (fun b_ => ⟨b_, rfl, rfl⟩))
     refine ⟨fun a w vs218 hA hS hd => ?_, ?_⟩
     ·skip
      exact opG_of rfl (vv (op_move rfl (hA.ev rfl)) (And.intro rfl rfl))
     refine ⟨fun a w vs218 hA hS hd => ?_, ?_⟩
     ·skip
      obtain ⟨e2, rs2, hy2, hp2⟩ := hd 2 (by decide)
      obtain ⟨b2_, hv2, hr2⟩ := hy2; subst hr2
      rw [hv2] at e2
      have hp2_0 := hp2 _ (List.mem_of_getElem? (i := 0) rfl)
      obtain ⟨e3, rs3, hy3, hp3⟩ := hd 3 (by decide)
      obtain ⟨hv3, hr3⟩ := hy3; subst hr3
      rw [hv3] at e3
      exact opG_of rfl (vv (op_appendZ rfl un_40 el_3 (tmp_ev (slot_ev e2 rfl)) (tmp_ev (slot_ev e3 rfl)) (hS.sk 4 rfl) (Nat.eq_zero_of_not_pos hb188)) (And.intro hv2.symm rfl))
     refine ⟨fun a w vs218 hA hS hd => ?_, ?_⟩
     ·skip
      exact opG_of rfl (vv (op_move rfl (hA.ev rfl)) (And.intro rfl rfl))
     refine ⟨fun a w vs218 hA hS hd => ?_, ?_⟩
     ·skip
      obtain ⟨e5, rs5, hy5, hp5⟩ := hd 5 (by decide)
      obtain ⟨hv5, hr5⟩ := hy5; subst hr5
      rw [hv5] at e5
      exact opG_of rfl (vblt rfl (pv1 (tmp_ev (slot_ev e5 rfl))) un_40 ty_3 ze_3 (by decide) (cs := [(Value.int .i64 (lowF R l l.length + (k : Int)))]) (bs_3_1_0i _) rfl (by decide) (fun _ => And.intro trivial rfl))
     refine ⟨fun a w vs218 hA hS hd => ?_, ?_⟩
     ·skip
      obtain ⟨e2, rs2, hy2, hp2⟩ := hd 2 (by decide)
      obtain ⟨b2_, hv2, hr2⟩ := hy2; subst hr2
      rw [hv2] at e2
      have hp2_0 := hp2 _ (List.mem_of_getElem? (i := 0) rfl)
      obtain ⟨e4, rs4, hy4, hp4⟩ := hd 4 (by decide)
      obtain ⟨hv4, hr4⟩ := hy4; subst hr4
      rw [hv4, hv2] at e4
      obtain ⟨e6, rs6, hy6, hp6⟩ := hd 6 (by decide)
      obtain ⟨hv6, hr6⟩ := hy6; subst hr6
      have hp6_0 := hp6 _ (List.mem_of_getElem? (i := 0) rfl)
      exact opG_of rfl (vap0 (op_append0 rfl un_40 el_3 (tmp_ev (slot_ev e4 rfl)) (tmp_ev (slot_ev e6 rfl)) (SlAt.of_row hp6_0) rfl (by simp only [maxLen]; omega) (by omega) (by omega)) (fun _ => And.intro trivial rfl))
     refine ⟨fun a w vs218 hA hS hd => ?_, ?_⟩
     ·skip
      obtain ⟨e1, rs1, hy1, hp1⟩ := hd 1 (by decide)
      obtain ⟨hv1, hr1⟩ := hy1; subst hr1
      rw [hv1] at e1
      obtain ⟨e7, rs7, hy7, hp7⟩ := hd 7 (by decide)
      obtain ⟨hv7, hr7⟩ := hy7; subst hr7
      have hp7_0 := hp7 _ (List.mem_of_getElem? (i := 0) rfl)
      exact opG_of rfl (vn (op_call rfl en_42 (ev2 (tmp_ev (slot_ev e1 rfl)) (tmp_ev (slot_ev e7 rfl))) (rlists_0 _ R vr (hS.sk 5 rfl) (l ++ [(lowF R l l.length + (k : Int))]) _ ((SlAt.of_row hp7_0).tell (by rw [List.eq_nil_of_length_eq_zero (Nat.eq_zero_of_not_pos hb188)]; rfl) (by rw [List.eq_nil_of_length_eq_zero (Nat.eq_zero_of_not_pos hb188)]; rfl)) (by simp; omega))) (fun v w' h => ⟨_, And.intro trivial rfl, (Sep.start NoB _).new_row h.1 h.2, rfl⟩))
     trivial
    intro a219 w220 vs218 rsf224 hA221 hH223 hS222; clear hA217 hS176
    obtain ⟨hs_0, hy_0⟩ := hH223 0 (by decide)
    obtain ⟨hv_0, hr_0⟩ := hy_0
    obtain ⟨hs_1, hy_1⟩ := hH223 1 (by decide)
    obtain ⟨hv_1, hr_1⟩ := hy_1
    obtain ⟨hs_2, hy_2⟩ := hH223 2 (by decide)
    obtain ⟨b2_, hv_2, hr_2⟩ := hy_2
    obtain ⟨hs_3, hy_3⟩ := hH223 3 (by decide)
    obtain ⟨hv_3, hr_3⟩ := hy_3
    obtain ⟨hs_4, hy_4⟩ := hH223 4 (by decide)
    obtain ⟨hv_4, hr_4⟩ := hy_4
    obtain ⟨hs_5, hy_5⟩ := hH223 5 (by decide)
    obtain ⟨hv_5, hr_5⟩ := hy_5
    obtain ⟨hs_6, hy_6⟩ := hH223 6 (by decide)
    obtain ⟨hv_6, hr_6⟩ := hy_6
    obtain ⟨hs_7, hy_7⟩ := hH223 7 (by decide)
    obtain ⟨hv_7, hr_7⟩ := hy_7
    obtain ⟨hs_8, hy_8⟩ := hH223 8 (by decide)
    obtain ⟨hv_8, hr_8⟩ := hy_8
    have hS225 : Sep NoB w w220 [(blk b2_ 3 []), (row (vs218 6) 3 1 1 [(Value.int .i64 (lowF R l l.length + (k : Int)))]), (row (vs218 7) 3 1 1 [(Value.int .i64 (lowF R l l.length + (k : Int)))]), (row (vs218 8) 40 1 1 [(vs218 7)]), (lstR ov_ (rlUpto R 0 l k)), (blk b40 48 [(Value.int .i64 ((R.getD l.length (0, 0)).1)), (Value.int .i64 ((R.getD l.length (0, 0)).2))]), (row v5_ 40 1 ov_.length ov_), (blk b4 24 [vr]), (sl xl 1 l.length (ints l)), (sl vr 2 R.length (pairs R))] := by rw [show catR rsf224 0 9 = ([(blk b2_ 3 []), (row (vs218 6) 3 1 1 [(Value.int .i64 (lowF R l l.length + (k : Int)))]), (row (vs218 7) 3 1 1 [(Value.int .i64 (lowF R l l.length + (k : Int)))]), (row (vs218 8) 40 1 1 [(vs218 7)])] : List Res) by (try simp only [catR, hr_0, hr_1, hr_2, hr_3, hr_4, hr_5, hr_6, hr_7, hr_8]); (try rfl)] at hS222; exact hS222
    rw [hv_0] at hs_0
    have hA226 : Fr 55 [] [(44, v5_), (9, (Value.int .i64 (lowF R l l.length + (k : Int)))), (6, (bptr b40 0)), (5, v5_), (2, (bptr b4 0)), (1, xl)] a219 := hA221.add (slot_ev hs_0 rfl); clear hA221
    have hA227 : Fr 55 [] [(52, (vs218 8)), (44, v5_), (9, (Value.int .i64 (lowF R l l.length + (k : Int)))), (6, (bptr b40 0)), (5, v5_), (2, (bptr b4 0)), (1, xl)] a219 := hA226.add (slot_ev hs_8 rfl); clear hA226
    clear hH223 hS222 hs_0 hs_1 hs_2 hs_3 hs_4 hs_5 hs_6 hs_7 hs_8
    clear hr_0
    clear hv_0
    clear hr_1
    clear hv_1
    clear hr_2
    clear hv_2
    clear hr_3
    clear hv_3
    clear hr_4
    clear hv_4
    clear hr_5
    clear hv_5
    clear hr_6
    clear hv_6
    clear hr_7
    clear hv_7
    clear hr_8
    clear hv_8
    refine stw hA227 (op_append hS225 rfl un_38 el_40 (hA227.ev rfl) (hA227.ev rfl) (i := 6) rfl (SlAt.of_row (hS225.ok_row 3 rfl)) (all_c (SlAt.one (SlAt.of_row (hS225.ok_row 2 rfl))) all_n) (by simp only [maxLen]; omega) (by omega)) rfl rfl (by decide) ?_
    intro a228 v231 w230 hS232 hA229
    have hS233 := hS232.row_say (i := 6) rfl (n' := (ov_ ++ [(vs218 7)]).length) (xs' := (ov_ ++ [(vs218 7)])) (by simp) rfl; clear hS232 hA227 hS225 a219
    refine st hA229 (op_assign rfl (hA229.ev rfl)) rfl rfl (by decide) fun a234 hA235 => ?_; clear hA229 a228
    refine wl_nil ?_
    refine blk_n ?_
    refine then_n ?_
    refine c_region ?_
    refine st hA235 (op_move rfl (hA235.ev rfl)) rfl rfl (by decide) fun a236 hA237 => ?_; clear hA235 a234
    refine st hA237 (op_add rfl (hA237.ev rfl) (evc _ _) (by omega) (by omega)) rfl rfl (by decide) fun a238 hA239 => ?_; clear hA237 a236
    refine st hA239 (op_assign rfl (hA239.ev rfl)) rfl rfl (by decide) fun a240 hA241 => ?_; clear hA239 a238
    refine wl_nil ?_
    have hS242 := hS233.row_say (i := 2) rfl (n' := (l ++ [(lowF R l l.length + (k : Int))]).length) (xs' := ints (l ++ [(lowF R l l.length + (k : Int))])) (by rw [List.eq_nil_of_length_eq_zero (Nat.eq_zero_of_not_pos hb188)]; rfl) (by rw [List.eq_nil_of_length_eq_zero (Nat.eq_zero_of_not_pos hb188)]; rfl); clear hS233
    have hS243 : Sep NoB w w230 [(row (vs218 7) 3 1 ((l ++ [(lowF R l l.length + (k : Int))]).length) (ints (l ++ [(lowF R l l.length + (k : Int))]))), (lstR ov_ (rlUpto R 0 l k)), (blk b2_ 3 []), (row (vs218 6) 3 1 1 [(Value.int .i64 (lowF R l l.length + (k : Int)))]), (row (vs218 8) 40 1 1 [(vs218 7)]), (blk b40 48 [(Value.int .i64 ((R.getD l.length (0, 0)).1)), (Value.int .i64 ((R.getD l.length (0, 0)).2))]), (row v231 40 1 ((ov_ ++ [(vs218 7)]).length) (ov_ ++ [(vs218 7)])), (blk b4 24 [vr]), (sl xl 1 l.length (ints l)), (sl vr 2 R.length (pairs R))] := hS242.keep [2, 4, 0, 1, 3, 5, 6, 7, 8, 9] (by decide) _ rfl rfl; clear hS242
    have hS244 := hS243.lst_snoc; clear hS243
    rw [show lowF R l l.length + (k : Int) + 1 = lowF R l l.length + ((k + 1 : Nat) : Int) from by omega] at hA241
    have hS245 : Sep NoB w w230 [(lstR (ov_ ++ [(vs218 7)]) ((rlUpto R 0 l k) ++ [(l ++ [(lowF R l l.length + (k : Int))])])), (blk b40 48 [(Value.int .i64 ((R.getD l.length (0, 0)).1)), (Value.int .i64 ((R.getD l.length (0, 0)).2))]), (row v231 40 1 ((ov_ ++ [(vs218 7)]).length) (ov_ ++ [(vs218 7)])), (blk b4 24 [vr]), (sl xl 1 l.length (ints l)), (sl vr 2 R.length (pairs R))] := hS244.keep [0, 4, 5, 6, 7, 8] (by decide) _ rfl rfl; clear hS244
    exact then_n ⟨k + 1, ⟨(ov_ ++ [(vs218 7)]), v231, hA241.as _ rfl, (hS245.lst_say (i := 0) rfl (by first | (rw [rlUpto_succ]; done) | (rw [rlUpto_succ]; rfl))), hlt⟩, by omega⟩
  ·skip
   rw [decide_eq_false hb185] at hA184
   have hte := cnt_eq hb185 hk1
   refine c_false hA184 rfl ?_
   refine c_exit ?_
   refine then_exit ?_
   refine then_exit ?_
   refine blk_hit ?_
   refine then_n ?_
   refine c_seq ?_
   have hA246 := hA184.as [(5, v5_)] rfl; clear hA184
   refine c_region ?_
   refine st hA246 (op_move rfl (hA246.ev rfl)) rfl rfl (by decide) fun a247 hA248 => ?_; clear hA246 a183
   refine st hA248 (op_assign rfl (hA248.ev rfl)) rfl rfl (by decide) fun a249 hA250 => ?_; clear hA248 a247
   refine wl_nil ?_
   refine then_n ?_
   refine c_ret ?_
   refine fin_run hA250 (.inl rfl) (run_results1 hA250 rfl (.tmp rfl)) ?_
   rw [rlF_end, ← hte]
   exact ⟨_, hS176.keep [2, 0] (by decide) _ rfl rfl⟩
set_option maxHeartbeats 4000000 in
theorem rlists_s (w : World) (R : List (Int × Int)) (vr : Value) (hm : SlAt w vr 2 R.length (pairs R)) (m : Nat) (ih : ∀ (l : List Int) (xl : Value) (w : World) (hm : SlAt w vr 2 R.length (pairs R)) (hxl : SlAt w xl 1 l.length (ints l)) (hb : l.length + (m + 1) = R.length) (hsm : ∀ i, 0 ≤ l.getD i 0 ∧ l.getD i 0 ≤ 1000), Calls Try.prog 42 #[.agg #[vr], xl] w (Ret fun v w' => ∃ ov, Sep NoB w w' [row v 40 1 ov.length ov, lstR ov (rlF R (m + 1) l)])) (l : List Int) (xl : Value) (hxl : SlAt w xl 1 l.length (ints l)) (hb : l.length + (m + 2) = R.length) (hsm : ∀ i, 0 ≤ l.getD i 0 ∧ l.getD i 0 ≤ 1000) (hR : MatV R) :
  Calls Try.prog 42 #[(Value.agg #[vr]), xl] w (Ret fun v w' => ∃ ov, Sep NoB w w' [row v 40 1 ov.length ov, lstR ov (rlF R (m + 2) l)]) := by
 refine calls_enter Try.func42 rfl fun a0 hA0 => ?_
 replace hA0 : Fr 55 [] [(0, (Value.agg #[vr])), (1, xl)] a0 := hA0
 have hR3 := hR.1
 have hS0 : Sep NoB w w [(sl xl 1 l.length (ints l)), (sl vr 2 R.length (pairs R))] := sep_ro ⟨rfl, hxl, rfl, hm, trivial⟩
 refine c_seq ?_
 refine c_region ?_
 refine stw hA0 (op_box hS0 rfl (hA0.ev rfl) (cs := [vr]) rfl) rfl rfl (by decide) ?_
 rintro a1 _ w3 ⟨b4, rfl, hS5⟩ hA2; clear hA0 hS0 a0
 refine st hA2 (op_assign rfl (evc _ _)) rfl rfl (by decide) fun a6 hA7 => ?_; clear hA2 a1
 refine wl_nil ?_
 refine then_n ?_
 refine c_seq ?_
 refine c_seq ?_
 refine c_region ?_
 refine st hA7 (op_move rfl (hA7.ev rfl)) rfl rfl (by decide) fun a8 hA9 => ?_; clear hA7 a6
 refine st hA9 (op_lenS rfl un_40 (hA9.ev rfl) (hS5.sk 1 rfl)) rfl rfl (by decide) fun a10 hA11 => ?_; clear hA9 a8
 refine st hA11 (op_field rfl fd_24_0 (hA11.ev rfl)) rfl rfl (by decide) fun a12 hA13 => ?_; clear hA11 a10
 refine st hA13 (op_load1 rfl ty_22 (hA13.ev rfl) (hS5.bk 0 rfl) rfl) rfl rfl (by decide) fun a14 hA15 => ?_; clear hA13 a12
 refine st hA15 (op_lenS rfl un_22 (hA15.ev rfl) (hS5.sk 2 rfl)) rfl rfl (by decide) fun a16 hA17 => ?_; clear hA15 a14
 refine st hA17 (op_eql rfl (hA17.ev rfl) (hA17.ev rfl)) rfl rfl (by decide) fun a18 hA19 => ?_; clear hA17 a16
 have hd20 : ¬ ((l.length : Int) = (R.length : Int)) := (by omega)
 rw [decide_eq_false hd20] at hA19
 refine wl_nil ?_
 refine then_n ?_
 refine c_false hA19 rfl ?_
 refine c_skip ?_
 refine then_n ?_
 refine c_seq ?_
 have hA21 := hA19.as [(2, (bptr b4 0)), (1, xl)] rfl; clear hA19
 refine c_region ?_
 refine st hA21 (op_assign rfl (evc _ _)) rfl rfl (by decide) fun a22 hA23 => ?_; clear hA21 a18
 have hS24 := hS5.nil_row 40 1; clear hS5
 refine wl_nil ?_
 refine then_n ?_
 refine c_seq ?_
 refine c_region ?_
 refine st hA23 (op_field rfl fd_24_0 (hA23.ev rfl)) rfl rfl (by decide) fun a25 hA26 => ?_; clear hA23 a22
 refine st hA26 (op_load1 rfl ty_22 (hA26.ev rfl) (hS24.bk 1 rfl) rfl) rfl rfl (by decide) fun a27 hA28 => ?_; clear hA26 a25
 refine st hA28 (op_move rfl (hA28.ev rfl)) rfl rfl (by decide) fun a29 hA30 => ?_; clear hA28 a27
 refine st hA30 (op_lenS rfl un_40 (hA30.ev rfl) (hS24.sk 2 rfl)) rfl rfl (by decide) fun a31 hA32 => ?_; clear hA30 a29
 refine st hA32 (op_indexS rfl un_22 ty_48 (hA32.ev rfl) (i := l.length) (hA32.ev rfl) (hS24.sk 3 rfl) (by decide) (by omega)) rfl rfl (by decide) fun a33 hA34 => ?_; clear hA32 a31
 refine st hA34 (op_loadAE rfl ty_48 (hA34.ev rfl) (hS24.sk 3 rfl) (pairs_all (by omega)) rfl (by decide)) rfl rfl (by decide) fun a35 hA36 => ?_; clear hA34 a33
 refine stw hA36 (op_alloc hS24 rfl ze_48 (cs := [(Value.int .i64 0), (Value.int .i64 0)]) rfl) rfl rfl (by decide) ?_
 rintro a37 _ w39 ⟨b40, rfl, hS41⟩ hA38; clear hA36 hS24 a35
 refine sts hA38 (op_store hS41 rfl ty_48 (hA38.ev rfl) (hA38.ev rfl) (i := 0) rfl (vs := [(Value.int .i64 ((R.getD l.length (0, 0)).1)), (Value.int .i64 ((R.getD l.length (0, 0)).2))]) rfl rfl rfl (Nat.le_of_ble_eq_true rfl)) rfl rfl ?_
 intro _ w42 hS43 hA44; clear hA38
 have hS45 : Sep NoB w w42 [(blk b40 48 [(Value.int .i64 ((R.getD l.length (0, 0)).1)), (Value.int .i64 ((R.getD l.length (0, 0)).2))]), (row (Value.slice none 0 0) 40 1 0 []), (blk b4 24 [vr]), (sl xl 1 l.length (ints l)), (sl vr 2 R.length (pairs R))] := hS43; clear hS43 hS41
 refine wl_nil ?_
 refine then_n ?_
 refine c_seq ?_
 have hA46 := hA44.as [(6, (bptr b40 0)), (5, (Value.slice none 0 0)), (2, (bptr b4 0)), (1, xl)] rfl; clear hA44
 refine c_region ?_
 refine st hA46 (op_field rfl fd_48_0 (hA46.ev rfl)) rfl rfl (by decide) fun a47 hA48 => ?_; clear hA46 a37
 refine st hA48 (op_load1 rfl ty_3 (hA48.ev rfl) (hS45.bk 0 rfl) rfl) rfl rfl (by decide) fun a49 hA50 => ?_; clear hA48 a47
 refine st hA50 (op_assign rfl (hA50.ev rfl)) rfl rfl (by decide) fun a51 hA52 => ?_; clear hA50 a49
 refine wl_nil ?_
 refine then_n ?_
 refine c_seq ?_
 refine c_seq ?_
 refine c_region ?_
 refine st hA52 (op_move rfl (hA52.ev rfl)) rfl rfl (by decide) fun a53 hA54 => ?_; clear hA52 a51
 refine st hA54 (op_lenS rfl un_40 (hA54.ev rfl) (hS45.sk 3 rfl)) rfl rfl (by decide) fun a55 hA56 => ?_; clear hA54 a53
 refine st hA56 (op_assign rfl (hA56.ev rfl)) rfl rfl (by decide) fun a57 hA58 => ?_; clear hA56 a55
 refine wl_nil ?_
 refine then_n ?_
 refine c_seq ?_
 refine c_region ?_
 refine st hA58 (op_move rfl (hA58.ev rfl)) rfl rfl (by decide) fun a59 hA60 => ?_; clear hA58 a57
 refine st hA60 (op_gtr rfl (hA60.ev rfl) (evc _ _)) rfl rfl (by decide) fun a61 hA62 => ?_; clear hA60 a59
 refine wl_nil ?_
 refine then_n ?_
 by_cases hb63 : 0 < (l.length : Int)
 ·skip
  rw [decide_eq_true hb63] at hA62
  refine c_true hA62 rfl ?_
  have hA64 := hA62.as [(8, (Value.int .i64 (l.length : Int))), (7, (Value.int .i64 ((R.getD l.length (0, 0)).1))), (6, (bptr b40 0)), (5, (Value.slice none 0 0)), (2, (bptr b4 0)), (1, xl)] rfl; clear hA62
  refine c_region ?_
  refine st hA64 (op_move rfl (hA64.ev rfl)) rfl rfl (by decide) fun a65 hA66 => ?_; clear hA64 a61
  refine st hA66 (op_move rfl (hA66.ev rfl)) rfl rfl (by decide) fun a67 hA68 => ?_; clear hA66 a65
  refine st hA68 (op_move rfl (hA68.ev rfl)) rfl rfl (by decide) fun a69 hA70 => ?_; clear hA68 a67
  refine st hA70 (op_sub rfl (hA70.ev rfl) (evc _ _) (by omega) (by omega)) rfl rfl (by decide) fun a71 hA72 => ?_; clear hA70 a69
  refine st hA72 (op_indexS rfl un_40 ty_3 (hA72.ev rfl) (i := ((l.length : Int) - 1).toNat) ((hA72.ev rfl).trans (int_nat (by omega))) (hS45.sk 3 rfl) (by decide) (by omega)) rfl rfl (by decide) fun a73 hA74 => ?_; clear hA72 a71
  refine st hA74 (op_load1E rfl ty_3 (hA74.ev rfl) (hS45.sk 3 rfl) (ints_at (by omega))) rfl rfl (by decide) fun a75 hA76 => ?_; clear hA74 a73
  refine st hA76 (op_max rfl (hA76.ev rfl) (hA76.ev rfl)) rfl rfl (by decide) fun a77 hA78 => ?_; clear hA76 a75
  refine st hA78 (op_assign rfl (hA78.ev rfl)) rfl rfl (by decide) fun a79 hA80 => ?_; clear hA78 a77
  refine wl_nil ?_
  refine then_n ?_
  refine c_seq ?_
  refine c_seq ?_
  have hA81 := hA80.as [(7, (Value.int .i64 (max ((R.getD l.length (0, 0)).1) (l.getD (((l.length : Int) - 1).toNat) 0)))), (6, (bptr b40 0)), (5, (Value.slice none 0 0)), (2, (bptr b4 0)), (1, xl)] rfl; clear hA80
  rw [show max ((R.getD l.length (0, 0)).1) (l.getD (((l.length : Int) - 1).toNat) 0) = lowF R l l.length + ((0 : Nat) : Int) from (by rw [show lowF R l l.length + ((0 : Nat) : Int) = lowF R l l.length from Int.add_zero _]; first | exact (lowF_pos (by assumption)).symm | exact (lowF_zero (by assumption)).symm)] at hA81
  refine c_region ?_
  refine st hA81 (op_move rfl (hA81.ev rfl)) rfl rfl (by decide) fun a82 hA83 => ?_; clear hA81 a79
  refine st hA83 (op_assign rfl (hA83.ev rfl)) rfl rfl (by decide) fun a84 hA85 => ?_; clear hA83 a82
  refine wl_nil ?_
  refine then_n ?_
  refine c_block ?_
  have hS86 := hS45.lst_nil; clear hS45
  have hA87 := hA85.as [(9, (Value.int .i64 (lowF R l l.length + ((0 : Nat) : Int)))), (6, (bptr b40 0)), (5, (Value.slice none 0 0)), (2, (bptr b4 0)), (1, xl)] rfl; clear hA85
  refine c_loop (G := Nat) (fun (k : Nat) a_ w_ => ∃ ov_ : List Value, ∃ v5_ : Value, Fr 55 [] [(9, (Value.int .i64 (lowF R l l.length + (k : Int)))), (6, (bptr b40 0)), (5, v5_), (2, (bptr b4 0)), (1, xl)] a_ ∧ Sep NoB w w_ [(lstR ov_ (rlUpto R (m + 1) l k)), (blk b40 48 [(Value.int .i64 ((R.getD l.length (0, 0)).1)), (Value.int .i64 ((R.getD l.length (0, 0)).2))]), (row v5_ 40 1 ov_.length ov_), (blk b4 24 [vr]), (sl xl 1 l.length (ints l)), (sl vr 2 R.length (pairs R))] ∧ (k ≤ cntF R l l.length)) (fun k => cntF R l l.length - k) 0 ⟨[], (Value.slice none 0 0), hA87.as _ rfl, hS86, (Nat.zero_le _)⟩ ?_
  clear hA87 hS86 a84
  rintro k a88 w90 ⟨ov_, v5_, hA89, hS91, hk1⟩
  have hol := hS91.lst_len 0 rfl
  refine c_seq ?_
  refine c_seq ?_
  refine c_region ?_
  refine st hA89 (op_move rfl (hA89.ev rfl)) rfl rfl (by decide) fun a92 hA93 => ?_; clear hA89 a88
  refine st hA93 (op_field rfl fd_48_1 (hA93.ev rfl)) rfl rfl (by decide) fun a94 hA95 => ?_; clear hA93 a92
  refine st hA95 (op_load1 rfl ty_3 (hA95.ev rfl) (hS91.bk 1 rfl) rfl) rfl rfl (by decide) fun a96 hA97 => ?_; clear hA95 a94
  refine st hA97 (op_leq rfl (hA97.ev rfl) (hA97.ev rfl)) rfl rfl (by decide) fun a98 hA99 => ?_; clear hA97 a96
  refine wl_nil ?_
  refine then_n ?_
  by_cases hb100 : (lowF R l l.length + (k : Int)) ≤ ((R.getD l.length (0, 0)).2)
  ·skip
   rw [decide_eq_true hb100] at hA99
   have hlt := cnt_lt hb100; have hsn := small_snoc hR hsm hlt; have hlb : 0 ≤ lowF R l l.length := by unfold lowF; have h9 := hR.2 l.length; split <;> omega
   have hlu := hR.2 l.length
   refine c_true hA99 rfl ?_
   refine c_skip ?_
   refine then_n ?_
   refine c_seq ?_
   refine c_block ?_
   have hpre : (rlUpto R (m + 1) l k).length ≤ 1003003001 := Nat.le_trans (rlUpto_le R (m + 1) l (Nat.le_of_lt hlt)) (Nat.le_trans (rlF_len hR ((m + 1) + 1) l hsm) (pow_small (by omega))); have hsf : (rlF R (m + 1) (l ++ [(lowF R l l.length + (k : Int))])).length ≤ 1003003001 := Nat.le_trans (rlF_len hR _ _ hsn) (pow_small (by omega))
   have hA101 := hA99.as [(9, (Value.int .i64 (lowF R l l.length + (k : Int)))), (6, (bptr b40 0)), (5, v5_), (2, (bptr b4 0)), (1, xl)] rfl; clear hA99
   by_cases hb103 : 0 < l.length
   ·skip
    have hA104 := hA101.as [(9, (Value.int .i64 (lowF R l l.length + (k : Int)))), (6, (bptr b40 0)), (5, v5_), (2, (bptr b4 0)), (1, xl)] rfl; clear hA101
    refine c_drawC mixed hA104 hS91 9 7 4 (by decide) (by decide) (by decide) rfl [[], [], [], [], [2, 3], [], [5], [4, 6], [1, 7]] [(fun (vs105 : Nat → Value) (v_ : Value) (rs_ : List Res) => v_ = v5_ ∧ rs_ = []), (fun (vs105 : Nat → Value) (v_ : Value) (rs_ : List Res) => v_ = (Value.agg #[vr]) ∧ rs_ = []), (fun (vs105 : Nat → Value) (v_ : Value) (rs_ : List Res) => ∃ (b2_ : Nat), v_ = (Value.slice (some ⟨b2_, 0, none⟩) 0 0) ∧ rs_ = [(blk b2_ 3 [])]), (fun (vs105 : Nat → Value) (v_ : Value) (rs_ : List Res) => v_ = xl ∧ rs_ = []), (fun (vs105 : Nat → Value) (v_ : Value) (rs_ : List Res) => True ∧ rs_ = [(row v_ 3 1 l.length (ints l))]), (fun (vs105 : Nat → Value) (v_ : Value) (rs_ : List Res) => v_ = (Value.int .i64 (lowF R l l.length + (k : Int))) ∧ rs_ = []), (fun (vs105 : Nat → Value) (v_ : Value) (rs_ : List Res) => True ∧ rs_ = [(row v_ 3 1 1 [(Value.int .i64 (lowF R l l.length + (k : Int)))])]), (fun (vs105 : Nat → Value) (v_ : Value) (rs_ : List Res) => True ∧ rs_ = [(row v_ 3 1 ((l ++ [(lowF R l l.length + (k : Int))]).length) (ints (l ++ [(lowF R l l.length + (k : Int))])))]), (fun (vs105 : Nat → Value) (v_ : Value) (rs_ : List Res) => ∃ (ov8_ : List Value), True ∧ rs_ = [(row v_ 40 1 ov8_.length ov8_), (lstR ov8_ (rlF R (m + 1) (l ++ [(lowF R l l.length + (k : Int))])))])] (by decide +kernel) (by decide +kernel) rfl rfl ⟨(fun _ _ _ _ _ h_ => h_), (fun _ _ _ _ _ h_ => h_), (fun _ _ _ _ _ h_ => h_), (fun _ _ _ _ _ h_ => h_), (fun _ _ _ _ _ h_ => h_), (fun _ _ _ _ _ h_ => h_), (fun _ _ _ _ _ h_ => h_), (fun _ _ _ _ _ h_ => h_), (fun _ _ _ _ _ h_ => h_), trivial⟩ (by decide +kernel) (by decide +kernel) ?_ ?_ ?_
    ·skip
     refine ⟨fun hj_ a w vs105 hA hS hd => ?_, ?_⟩
     ·skip
      exact opG_of rfl (vv (op_move rfl (hA.ev rfl)) (And.intro rfl rfl))
     refine ⟨fun hj_ a w vs105 hA hS hd => ?_, ?_⟩
     ·skip
      exact opG_of rfl (vv (op_loadA rfl ty_24 (hA.ev rfl) (hS.bk 3 rfl) (l := [vr]) rfl rfl) (And.intro rfl rfl))
     refine ⟨fun hj_ a w vs105 hA hS hd => ?_, ?_⟩
     ·skip
      exact opG_of rfl (vblz rfl pv0 un_40 ty_3 ze_3 bs_3_0_ (fun b_ => ⟨b_, rfl, rfl⟩))
     refine ⟨fun hj_ a w vs105 hA hS hd => ?_, ?_⟩
     ·skip
      exact opG_of rfl (vv (op_move rfl (hA.ev rfl)) (And.intro rfl rfl))
     refine ⟨fun hj_ a w vs105 hA hS hd => ?_, ?_⟩
     ·skip
      obtain ⟨e2, rs2, hy2, hp2⟩ := hd 2 (by decide)
      obtain ⟨b2_, hv2, hr2⟩ := hy2; subst hr2
      rw [hv2] at e2
      have hp2_0 := hp2 _ (List.mem_of_getElem? (i := 0) rfl)
      obtain ⟨e3, rs3, hy3, hp3⟩ := hd 3 (by decide)
      obtain ⟨hv3, hr3⟩ := hy3; subst hr3
      rw [hv3] at e3
      exact opG_of rfl (vap0 (op_append0 rfl un_40 el_3 (tmp_ev (slot_ev e2 rfl)) (tmp_ev (slot_ev e3 rfl)) (hS.sk 4 rfl) (ints_one _) (by simp only [maxLen]; omega) (by omega) hb103) (fun _ => And.intro trivial rfl))
     refine ⟨fun hj_ a w vs105 hA hS hd => ?_, ?_⟩
     ·skip
      exact opG_of rfl (vv (op_move rfl (hA.ev rfl)) (And.intro rfl rfl))
     refine ⟨fun hj_ a w vs105 hA hS hd => ?_, ?_⟩
     ·skip
      obtain ⟨e5, rs5, hy5, hp5⟩ := hd 5 (by decide)
      obtain ⟨hv5, hr5⟩ := hy5; subst hr5
      rw [hv5] at e5
      exact opG_of rfl (vblt rfl (pv1 (tmp_ev (slot_ev e5 rfl))) un_40 ty_3 ze_3 (by decide) (cs := [(Value.int .i64 (lowF R l l.length + (k : Int)))]) (bs_3_1_0i _) rfl (by decide) (fun _ => And.intro trivial rfl))
     refine ⟨fun hj_ => absurd rfl hj_, ?_⟩
     refine ⟨fun hj_ a w vs105 hA hS hd => ?_, ?_⟩
     ·skip
      obtain ⟨e1, rs1, hy1, hp1⟩ := hd 1 (by decide)
      obtain ⟨hv1, hr1⟩ := hy1; subst hr1
      rw [hv1] at e1
      obtain ⟨e7, rs7, hy7, hp7⟩ := hd 7 (by decide)
      obtain ⟨hv7, hr7⟩ := hy7; subst hr7
      have hp7_0 := hp7 _ (List.mem_of_getElem? (i := 0) rfl)
      exact opG_of rfl (vn (op_call rfl en_42 (ev2 (tmp_ev (slot_ev e1 rfl)) (tmp_ev (slot_ev e7 rfl))) (ih (l ++ [(lowF R l l.length + (k : Int))]) _ _ (hS.sk 5 rfl) (SlAt.of_row hp7_0) (by simp; omega) hsn)) (fun v w' h => by obtain ⟨ov, hT⟩ := h; exact ⟨_, ⟨ov, trivial, rfl⟩, hT, rfl⟩))
     trivial
    ·skip
     intro a w vs105 rs0 Lr hA hs0 hy0 hd hS
     obtain ⟨hv4, hr4⟩ := hy0; subst hr4
     obtain ⟨e6, rs6, hy6, hp6⟩ := hd 6 (by decide) (by decide)
     obtain ⟨hv6, hr6⟩ := hy6; subst hr6
     have hp6_0 := hp6 _ (List.mem_of_getElem? (i := 0) rfl)
     exact opG_of rfl (opY_mono (op_append hS rfl un_40 el_3 (tmp_ev (slot_ev hs0 rfl)) (tmp_ev (slot_ev e6 rfl)) (i := 0) rfl (SlAt.of_row hp6_0) rfl (by simp only [maxLen]; omega) (by omega)) fun v_ w_ h_ => ⟨_, And.intro trivial rfl, h_.row_say (i := 0) rfl (n' := (l ++ [(lowF R l l.length + (k : Int))]).length) (xs' := (ints (l ++ [(lowF R l l.length + (k : Int))]))) (by simp) (by simp [ints])⟩)
    ·skip
     intro a106 w107 vs105 rsf111 hA108 hH110 hrq hS109; clear hA104 hS91
     obtain ⟨hs_0, hy_0⟩ := hH110 0 (by decide) (by decide)
     obtain ⟨hv_0, hr_0⟩ := hy_0
     obtain ⟨hs_1, hy_1⟩ := hH110 1 (by decide) (by decide)
     obtain ⟨hv_1, hr_1⟩ := hy_1
     obtain ⟨hs_2, hy_2⟩ := hH110 2 (by decide) (by decide)
     obtain ⟨b2_, hv_2, hr_2⟩ := hy_2
     obtain ⟨hs_3, hy_3⟩ := hH110 3 (by decide) (by decide)
     obtain ⟨hv_3, hr_3⟩ := hy_3
     obtain ⟨hs_5, hy_5⟩ := hH110 5 (by decide) (by decide)
     obtain ⟨hv_5, hr_5⟩ := hy_5
     obtain ⟨hs_6, hy_6⟩ := hH110 6 (by decide) (by decide)
     obtain ⟨hv_6, hr_6⟩ := hy_6
     obtain ⟨hs_7, hy_7⟩ := hH110 7 (by decide) (by decide)
     obtain ⟨hv_7, hr_7⟩ := hy_7
     obtain ⟨hs_8, hy_8⟩ := hH110 8 (by decide) (by decide)
     obtain ⟨ov8_, hv_8, hr_8⟩ := hy_8
     have hS112 : Sep NoB w w107 [(blk b2_ 3 []), (row (vs105 6) 3 1 1 [(Value.int .i64 (lowF R l l.length + (k : Int)))]), (row (vs105 7) 3 1 ((l ++ [(lowF R l l.length + (k : Int))]).length) (ints (l ++ [(lowF R l l.length + (k : Int))]))), (row (vs105 8) 40 1 ov8_.length ov8_), (lstR ov8_ (rlF R (m + 1) (l ++ [(lowF R l l.length + (k : Int))]))), (lstR ov_ (rlUpto R (m + 1) l k)), (blk b40 48 [(Value.int .i64 ((R.getD l.length (0, 0)).1)), (Value.int .i64 ((R.getD l.length (0, 0)).2))]), (row v5_ 40 1 ov_.length ov_), (blk b4 24 [vr]), (sl xl 1 l.length (ints l)), (sl vr 2 R.length (pairs R))] := by rw [show catR rsf111 0 9 = ([(blk b2_ 3 []), (row (vs105 6) 3 1 1 [(Value.int .i64 (lowF R l l.length + (k : Int)))]), (row (vs105 7) 3 1 ((l ++ [(lowF R l l.length + (k : Int))]).length) (ints (l ++ [(lowF R l l.length + (k : Int))]))), (row (vs105 8) 40 1 ov8_.length ov8_), (lstR ov8_ (rlF R (m + 1) (l ++ [(lowF R l l.length + (k : Int))])))] : List Res) by (try simp only [catR, hr_0, hr_1, hr_2, hr_3, hr_5, hr_6, hr_7, hr_8, hrq]); (try rfl)] at hS109; exact hS109
     rw [hv_0] at hs_0
     have hA113 : Fr 55 [] [(44, v5_), (9, (Value.int .i64 (lowF R l l.length + (k : Int)))), (6, (bptr b40 0)), (5, v5_), (2, (bptr b4 0)), (1, xl)] a106 := hA108.add (slot_ev hs_0 rfl); clear hA108
     have hA114 : Fr 55 [] [(52, (vs105 8)), (44, v5_), (9, (Value.int .i64 (lowF R l l.length + (k : Int)))), (6, (bptr b40 0)), (5, v5_), (2, (bptr b4 0)), (1, xl)] a106 := hA113.add (slot_ev hs_8 rfl); clear hA113
     clear hH110 hS109 hs_0 hs_1 hs_2 hs_3 hs_5 hs_6 hs_7 hs_8 hrq
     clear hr_0
     clear hv_0
     clear hr_1
     clear hv_1
     clear hr_2
     clear hv_2
     clear hr_3
     clear hv_3
     clear hr_5
     clear hv_5
     clear hr_6
     clear hv_6
     clear hr_7
     clear hv_7
     clear hr_8
     clear hv_8
     have hol2 := hS112.lst_len 4 rfl
     refine stw hA114 (op_append hS112 rfl un_38 el_40 (hA114.ev rfl) (hA114.ev rfl) (i := 7) rfl (SlAt.of_row (hS112.ok_row 3 rfl)) (lst_one (hS112.ok 4 _ rfl)) (by simp only [maxLen]; omega) (by omega)) rfl rfl (by decide) ?_
     intro a115 v118 w117 hS119 hA116
     have hS120 := hS119.row_say (i := 7) rfl (n' := (ov_ ++ ov8_).length) (xs' := (ov_ ++ ov8_)) (by simp) rfl; clear hS119 hA114 hS112 a106
     refine st hA116 (op_assign rfl (hA116.ev rfl)) rfl rfl (by decide) fun a121 hA122 => ?_; clear hA116 a115
     refine wl_nil ?_
     refine blk_n ?_
     refine then_n ?_
     refine c_region ?_
     refine st hA122 (op_move rfl (hA122.ev rfl)) rfl rfl (by decide) fun a123 hA124 => ?_; clear hA122 a121
     refine st hA124 (op_add rfl (hA124.ev rfl) (evc _ _) (by omega) (by omega)) rfl rfl (by decide) fun a125 hA126 => ?_; clear hA124 a123
     refine st hA126 (op_assign rfl (hA126.ev rfl)) rfl rfl (by decide) fun a127 hA128 => ?_; clear hA126 a125
     refine wl_nil ?_
     have hS129 : Sep NoB w w117 [(lstR ov_ (rlUpto R (m + 1) l k)), (lstR ov8_ (rlF R (m + 1) (l ++ [(lowF R l l.length + (k : Int))]))), (blk b2_ 3 []), (row (vs105 6) 3 1 1 [(Value.int .i64 (lowF R l l.length + (k : Int)))]), (row (vs105 7) 3 1 ((l ++ [(lowF R l l.length + (k : Int))]).length) (ints (l ++ [(lowF R l l.length + (k : Int))]))), (row (vs105 8) 40 1 ov8_.length ov8_), (blk b40 48 [(Value.int .i64 ((R.getD l.length (0, 0)).1)), (Value.int .i64 ((R.getD l.length (0, 0)).2))]), (row v118 40 1 ((ov_ ++ ov8_).length) (ov_ ++ ov8_)), (blk b4 24 [vr]), (sl xl 1 l.length (ints l)), (sl vr 2 R.length (pairs R))] := hS120.keep [5, 4, 0, 1, 2, 3, 6, 7, 8, 9, 10] (by decide) _ rfl rfl; clear hS120
     have hS130 := hS129.lst_app; clear hS129
     rw [show lowF R l l.length + (k : Int) + 1 = lowF R l l.length + ((k + 1 : Nat) : Int) from by omega] at hA128
     have hS131 : Sep NoB w w117 [(lstR (ov_ ++ ov8_) ((rlUpto R (m + 1) l k) ++ (rlF R (m + 1) (l ++ [(lowF R l l.length + (k : Int))])))), (blk b40 48 [(Value.int .i64 ((R.getD l.length (0, 0)).1)), (Value.int .i64 ((R.getD l.length (0, 0)).2))]), (row v118 40 1 ((ov_ ++ ov8_).length) (ov_ ++ ov8_)), (blk b4 24 [vr]), (sl xl 1 l.length (ints l)), (sl vr 2 R.length (pairs R))] := hS130.keep [0, 5, 6, 7, 8, 9] (by decide) _ rfl rfl; clear hS130
     exact then_n ⟨k + 1, ⟨(ov_ ++ ov8_), v118, hA128.as _ rfl, (hS131.lst_say (i := 0) rfl (by first | (rw [rlUpto_succ]; done) | (rw [rlUpto_succ]; rfl))), hlt⟩, by omega⟩
   ·skip
    have hA132 := hA101.as [(9, (Value.int .i64 (lowF R l l.length + (k : Int)))), (6, (bptr b40 0)), (5, v5_), (2, (bptr b4 0)), (1, xl)] rfl; clear hA101
    refine c_drawV mixed hA132 hS91 9 [[], [], [], [], [2, 3], [], [5], [2, 4, 6], [1, 7]] [(fun (vs133 : Nat → Value) (v_ : Value) (rs_ : List Res) => v_ = v5_ ∧ rs_ = []), (fun (vs133 : Nat → Value) (v_ : Value) (rs_ : List Res) => v_ = (Value.agg #[vr]) ∧ rs_ = []), (fun (vs133 : Nat → Value) (v_ : Value) (rs_ : List Res) => ∃ (b2_ : Nat), v_ = (Value.slice (some ⟨b2_, 0, none⟩) 0 0) ∧ rs_ = [(blk b2_ 3 [])]), (fun (vs133 : Nat → Value) (v_ : Value) (rs_ : List Res) => v_ = xl ∧ rs_ = []), (fun (vs133 : Nat → Value) (v_ : Value) (rs_ : List Res) => v_ = (vs133 2) ∧ rs_ = []), (fun (vs133 : Nat → Value) (v_ : Value) (rs_ : List Res) => v_ = (Value.int .i64 (lowF R l l.length + (k : Int))) ∧ rs_ = []), (fun (vs133 : Nat → Value) (v_ : Value) (rs_ : List Res) => True ∧ rs_ = [(row v_ 3 1 1 [(Value.int .i64 (lowF R l l.length + (k : Int)))])]), (fun (vs133 : Nat → Value) (v_ : Value) (rs_ : List Res) => True ∧ rs_ = [(row v_ 3 1 1 [(Value.int .i64 (lowF R l l.length + (k : Int)))])]), (fun (vs133 : Nat → Value) (v_ : Value) (rs_ : List Res) => ∃ (ov8_ : List Value), True ∧ rs_ = [(row v_ 40 1 ov8_.length ov8_), (lstR ov8_ (rlF R (m + 1) (l ++ [(lowF R l l.length + (k : Int))])))])] (by decide +kernel) (by decide +kernel) rfl rfl ⟨(fun _ _ _ _ _ h_ => h_), (fun _ _ _ _ _ h_ => h_), (fun _ _ _ _ _ h_ => h_), (fun _ _ _ _ _ h_ => h_), (fun _ _ _ _ he_ h_ => by dsimp only at h_ ⊢; rw [← he_ 2 (by decide)]; exact h_), (fun _ _ _ _ _ h_ => h_), (fun _ _ _ _ _ h_ => h_), (fun _ _ _ _ _ h_ => h_), (fun _ _ _ _ _ h_ => h_), trivial⟩ ?_ ?_
    ·skip
     refine ⟨fun a w vs133 hA hS hd => ?_, ?_⟩
     ·skip
      exact opG_of rfl (vv (op_move rfl (hA.ev rfl)) (And.intro rfl rfl))
     refine ⟨fun a w vs133 hA hS hd => ?_, ?_⟩
     ·skip
      exact opG_of rfl (vv (op_loadA rfl ty_24 (hA.ev rfl) (hS.bk 3 rfl) (l := [vr]) rfl rfl) (And.intro rfl rfl))
     refine ⟨fun a w vs133 hA hS hd => ?_, ?_⟩
     ·skip
      exact opG_of rfl (vblz rfl pv0 un_40 ty_3 ze_3 bs_3_0_ (fun b_ => ⟨b_, rfl, rfl⟩))
     refine ⟨fun a w vs133 hA hS hd => ?_, ?_⟩
     ·skip
      exact opG_of rfl (vv (op_move rfl (hA.ev rfl)) (And.intro rfl rfl))
     refine ⟨fun a w vs133 hA hS hd => ?_, ?_⟩
     ·skip
      obtain ⟨e2, rs2, hy2, hp2⟩ := hd 2 (by decide)
      obtain ⟨b2_, hv2, hr2⟩ := hy2; subst hr2
      rw [hv2] at e2
      have hp2_0 := hp2 _ (List.mem_of_getElem? (i := 0) rfl)
      obtain ⟨e3, rs3, hy3, hp3⟩ := hd 3 (by decide)
      obtain ⟨hv3, hr3⟩ := hy3; subst hr3
      rw [hv3] at e3
      exact opG_of rfl (vv (op_appendZ rfl un_40 el_3 (tmp_ev (slot_ev e2 rfl)) (tmp_ev (slot_ev e3 rfl)) (hS.sk 4 rfl) (Nat.eq_zero_of_not_pos hb103)) (And.intro hv2.symm rfl))
     refine ⟨fun a w vs133 hA hS hd => ?_, ?_⟩
     ·skip
      exact opG_of rfl (vv (op_move rfl (hA.ev rfl)) (And.intro rfl rfl))
     refine ⟨fun a w vs133 hA hS hd => ?_, ?_⟩
     ·skip
      obtain ⟨e5, rs5, hy5, hp5⟩ := hd 5 (by decide)
      obtain ⟨hv5, hr5⟩ := hy5; subst hr5
      rw [hv5] at e5
      exact opG_of rfl (vblt rfl (pv1 (tmp_ev (slot_ev e5 rfl))) un_40 ty_3 ze_3 (by decide) (cs := [(Value.int .i64 (lowF R l l.length + (k : Int)))]) (bs_3_1_0i _) rfl (by decide) (fun _ => And.intro trivial rfl))
     refine ⟨fun a w vs133 hA hS hd => ?_, ?_⟩
     ·skip
      obtain ⟨e2, rs2, hy2, hp2⟩ := hd 2 (by decide)
      obtain ⟨b2_, hv2, hr2⟩ := hy2; subst hr2
      rw [hv2] at e2
      have hp2_0 := hp2 _ (List.mem_of_getElem? (i := 0) rfl)
      obtain ⟨e4, rs4, hy4, hp4⟩ := hd 4 (by decide)
      obtain ⟨hv4, hr4⟩ := hy4; subst hr4
      rw [hv4, hv2] at e4
      obtain ⟨e6, rs6, hy6, hp6⟩ := hd 6 (by decide)
      obtain ⟨hv6, hr6⟩ := hy6; subst hr6
      have hp6_0 := hp6 _ (List.mem_of_getElem? (i := 0) rfl)
      exact opG_of rfl (vap0 (op_append0 rfl un_40 el_3 (tmp_ev (slot_ev e4 rfl)) (tmp_ev (slot_ev e6 rfl)) (SlAt.of_row hp6_0) rfl (by simp only [maxLen]; omega) (by omega) (by omega)) (fun _ => And.intro trivial rfl))
     refine ⟨fun a w vs133 hA hS hd => ?_, ?_⟩
     ·skip
      obtain ⟨e1, rs1, hy1, hp1⟩ := hd 1 (by decide)
      obtain ⟨hv1, hr1⟩ := hy1; subst hr1
      rw [hv1] at e1
      obtain ⟨e7, rs7, hy7, hp7⟩ := hd 7 (by decide)
      obtain ⟨hv7, hr7⟩ := hy7; subst hr7
      have hp7_0 := hp7 _ (List.mem_of_getElem? (i := 0) rfl)
      exact opG_of rfl (vn (op_call rfl en_42 (ev2 (tmp_ev (slot_ev e1 rfl)) (tmp_ev (slot_ev e7 rfl))) (ih (l ++ [(lowF R l l.length + (k : Int))]) _ _ (hS.sk 5 rfl) ((SlAt.of_row hp7_0).tell (by rw [List.eq_nil_of_length_eq_zero (Nat.eq_zero_of_not_pos hb103)]; rfl) (by rw [List.eq_nil_of_length_eq_zero (Nat.eq_zero_of_not_pos hb103)]; rfl)) (by simp; omega) hsn)) (fun v w' h => by obtain ⟨ov, hT⟩ := h; exact ⟨_, ⟨ov, trivial, rfl⟩, hT, rfl⟩))
     trivial
    intro a134 w135 vs133 rsf139 hA136 hH138 hS137; clear hA132 hS91
    obtain ⟨hs_0, hy_0⟩ := hH138 0 (by decide)
    obtain ⟨hv_0, hr_0⟩ := hy_0
    obtain ⟨hs_1, hy_1⟩ := hH138 1 (by decide)
    obtain ⟨hv_1, hr_1⟩ := hy_1
    obtain ⟨hs_2, hy_2⟩ := hH138 2 (by decide)
    obtain ⟨b2_, hv_2, hr_2⟩ := hy_2
    obtain ⟨hs_3, hy_3⟩ := hH138 3 (by decide)
    obtain ⟨hv_3, hr_3⟩ := hy_3
    obtain ⟨hs_4, hy_4⟩ := hH138 4 (by decide)
    obtain ⟨hv_4, hr_4⟩ := hy_4
    obtain ⟨hs_5, hy_5⟩ := hH138 5 (by decide)
    obtain ⟨hv_5, hr_5⟩ := hy_5
    obtain ⟨hs_6, hy_6⟩ := hH138 6 (by decide)
    obtain ⟨hv_6, hr_6⟩ := hy_6
    obtain ⟨hs_7, hy_7⟩ := hH138 7 (by decide)
    obtain ⟨hv_7, hr_7⟩ := hy_7
    obtain ⟨hs_8, hy_8⟩ := hH138 8 (by decide)
    obtain ⟨ov8_, hv_8, hr_8⟩ := hy_8
    have hS140 : Sep NoB w w135 [(blk b2_ 3 []), (row (vs133 6) 3 1 1 [(Value.int .i64 (lowF R l l.length + (k : Int)))]), (row (vs133 7) 3 1 1 [(Value.int .i64 (lowF R l l.length + (k : Int)))]), (row (vs133 8) 40 1 ov8_.length ov8_), (lstR ov8_ (rlF R (m + 1) (l ++ [(lowF R l l.length + (k : Int))]))), (lstR ov_ (rlUpto R (m + 1) l k)), (blk b40 48 [(Value.int .i64 ((R.getD l.length (0, 0)).1)), (Value.int .i64 ((R.getD l.length (0, 0)).2))]), (row v5_ 40 1 ov_.length ov_), (blk b4 24 [vr]), (sl xl 1 l.length (ints l)), (sl vr 2 R.length (pairs R))] := by rw [show catR rsf139 0 9 = ([(blk b2_ 3 []), (row (vs133 6) 3 1 1 [(Value.int .i64 (lowF R l l.length + (k : Int)))]), (row (vs133 7) 3 1 1 [(Value.int .i64 (lowF R l l.length + (k : Int)))]), (row (vs133 8) 40 1 ov8_.length ov8_), (lstR ov8_ (rlF R (m + 1) (l ++ [(lowF R l l.length + (k : Int))])))] : List Res) by (try simp only [catR, hr_0, hr_1, hr_2, hr_3, hr_4, hr_5, hr_6, hr_7, hr_8]); (try rfl)] at hS137; exact hS137
    rw [hv_0] at hs_0
    have hA141 : Fr 55 [] [(44, v5_), (9, (Value.int .i64 (lowF R l l.length + (k : Int)))), (6, (bptr b40 0)), (5, v5_), (2, (bptr b4 0)), (1, xl)] a134 := hA136.add (slot_ev hs_0 rfl); clear hA136
    have hA142 : Fr 55 [] [(52, (vs133 8)), (44, v5_), (9, (Value.int .i64 (lowF R l l.length + (k : Int)))), (6, (bptr b40 0)), (5, v5_), (2, (bptr b4 0)), (1, xl)] a134 := hA141.add (slot_ev hs_8 rfl); clear hA141
    clear hH138 hS137 hs_0 hs_1 hs_2 hs_3 hs_4 hs_5 hs_6 hs_7 hs_8
    clear hr_0
    clear hv_0
    clear hr_1
    clear hv_1
    clear hr_2
    clear hv_2
    clear hr_3
    clear hv_3
    clear hr_4
    clear hv_4
    clear hr_5
    clear hv_5
    clear hr_6
    clear hv_6
    clear hr_7
    clear hv_7
    clear hr_8
    clear hv_8
    have hol2 := hS140.lst_len 4 rfl
    refine stw hA142 (op_append hS140 rfl un_38 el_40 (hA142.ev rfl) (hA142.ev rfl) (i := 7) rfl (SlAt.of_row (hS140.ok_row 3 rfl)) (lst_one (hS140.ok 4 _ rfl)) (by simp only [maxLen]; omega) (by omega)) rfl rfl (by decide) ?_
    intro a143 v146 w145 hS147 hA144
    have hS148 := hS147.row_say (i := 7) rfl (n' := (ov_ ++ ov8_).length) (xs' := (ov_ ++ ov8_)) (by simp) rfl; clear hS147 hA142 hS140 a134
    refine st hA144 (op_assign rfl (hA144.ev rfl)) rfl rfl (by decide) fun a149 hA150 => ?_; clear hA144 a143
    refine wl_nil ?_
    refine blk_n ?_
    refine then_n ?_
    refine c_region ?_
    refine st hA150 (op_move rfl (hA150.ev rfl)) rfl rfl (by decide) fun a151 hA152 => ?_; clear hA150 a149
    refine st hA152 (op_add rfl (hA152.ev rfl) (evc _ _) (by omega) (by omega)) rfl rfl (by decide) fun a153 hA154 => ?_; clear hA152 a151
    refine st hA154 (op_assign rfl (hA154.ev rfl)) rfl rfl (by decide) fun a155 hA156 => ?_; clear hA154 a153
    refine wl_nil ?_
    have hS157 : Sep NoB w w145 [(lstR ov_ (rlUpto R (m + 1) l k)), (lstR ov8_ (rlF R (m + 1) (l ++ [(lowF R l l.length + (k : Int))]))), (blk b2_ 3 []), (row (vs133 6) 3 1 1 [(Value.int .i64 (lowF R l l.length + (k : Int)))]), (row (vs133 7) 3 1 1 [(Value.int .i64 (lowF R l l.length + (k : Int)))]), (row (vs133 8) 40 1 ov8_.length ov8_), (blk b40 48 [(Value.int .i64 ((R.getD l.length (0, 0)).1)), (Value.int .i64 ((R.getD l.length (0, 0)).2))]), (row v146 40 1 ((ov_ ++ ov8_).length) (ov_ ++ ov8_)), (blk b4 24 [vr]), (sl xl 1 l.length (ints l)), (sl vr 2 R.length (pairs R))] := hS148.keep [5, 4, 0, 1, 2, 3, 6, 7, 8, 9, 10] (by decide) _ rfl rfl; clear hS148
    have hS158 := hS157.lst_app; clear hS157
    rw [show lowF R l l.length + (k : Int) + 1 = lowF R l l.length + ((k + 1 : Nat) : Int) from by omega] at hA156
    have hS159 : Sep NoB w w145 [(lstR (ov_ ++ ov8_) ((rlUpto R (m + 1) l k) ++ (rlF R (m + 1) (l ++ [(lowF R l l.length + (k : Int))])))), (blk b40 48 [(Value.int .i64 ((R.getD l.length (0, 0)).1)), (Value.int .i64 ((R.getD l.length (0, 0)).2))]), (row v146 40 1 ((ov_ ++ ov8_).length) (ov_ ++ ov8_)), (blk b4 24 [vr]), (sl xl 1 l.length (ints l)), (sl vr 2 R.length (pairs R))] := hS158.keep [0, 5, 6, 7, 8, 9] (by decide) _ rfl rfl; clear hS158
    exact then_n ⟨k + 1, ⟨(ov_ ++ ov8_), v146, hA156.as _ rfl, (hS159.lst_say (i := 0) rfl (by first | (rw [rlUpto_succ]; done) | (rw [rlUpto_succ]; rfl))), hlt⟩, by omega⟩
  ·skip
   rw [decide_eq_false hb100] at hA99
   have hte := cnt_eq hb100 hk1
   refine c_false hA99 rfl ?_
   refine c_exit ?_
   refine then_exit ?_
   refine then_exit ?_
   refine blk_hit ?_
   refine then_n ?_
   refine c_seq ?_
   have hA160 := hA99.as [(5, v5_)] rfl; clear hA99
   refine c_region ?_
   refine st hA160 (op_move rfl (hA160.ev rfl)) rfl rfl (by decide) fun a161 hA162 => ?_; clear hA160 a98
   refine st hA162 (op_assign rfl (hA162.ev rfl)) rfl rfl (by decide) fun a163 hA164 => ?_; clear hA162 a161
   refine wl_nil ?_
   refine then_n ?_
   refine c_ret ?_
   refine fin_run hA164 (.inl rfl) (run_results1 hA164 rfl (.tmp rfl)) ?_
   rw [rlF_end, ← hte]
   exact ⟨_, hS91.keep [2, 0] (by decide) _ rfl rfl⟩
 ·skip
  rw [decide_eq_false hb63] at hA62
  refine c_false hA62 rfl ?_
  refine c_skip ?_
  refine then_n ?_
  refine c_seq ?_
  refine c_seq ?_
  have hA165 := hA62.as [(7, (Value.int .i64 ((R.getD l.length (0, 0)).1))), (6, (bptr b40 0)), (5, (Value.slice none 0 0)), (2, (bptr b4 0)), (1, xl)] rfl; clear hA62
  rw [show (R.getD l.length (0, 0)).1 = lowF R l l.length + ((0 : Nat) : Int) from (by rw [show lowF R l l.length + ((0 : Nat) : Int) = lowF R l l.length from Int.add_zero _]; first | exact (lowF_pos (by assumption)).symm | exact (lowF_zero (by assumption)).symm)] at hA165
  refine c_region ?_
  refine st hA165 (op_move rfl (hA165.ev rfl)) rfl rfl (by decide) fun a166 hA167 => ?_; clear hA165 a61
  refine st hA167 (op_assign rfl (hA167.ev rfl)) rfl rfl (by decide) fun a168 hA169 => ?_; clear hA167 a166
  refine wl_nil ?_
  refine then_n ?_
  refine c_block ?_
  have hS170 := hS45.lst_nil; clear hS45
  have hA171 := hA169.as [(9, (Value.int .i64 (lowF R l l.length + ((0 : Nat) : Int)))), (6, (bptr b40 0)), (5, (Value.slice none 0 0)), (2, (bptr b4 0)), (1, xl)] rfl; clear hA169
  refine c_loop (G := Nat) (fun (k : Nat) a_ w_ => ∃ ov_ : List Value, ∃ v5_ : Value, Fr 55 [] [(9, (Value.int .i64 (lowF R l l.length + (k : Int)))), (6, (bptr b40 0)), (5, v5_), (2, (bptr b4 0)), (1, xl)] a_ ∧ Sep NoB w w_ [(lstR ov_ (rlUpto R (m + 1) l k)), (blk b40 48 [(Value.int .i64 ((R.getD l.length (0, 0)).1)), (Value.int .i64 ((R.getD l.length (0, 0)).2))]), (row v5_ 40 1 ov_.length ov_), (blk b4 24 [vr]), (sl xl 1 l.length (ints l)), (sl vr 2 R.length (pairs R))] ∧ (k ≤ cntF R l l.length)) (fun k => cntF R l l.length - k) 0 ⟨[], (Value.slice none 0 0), hA171.as _ rfl, hS170, (Nat.zero_le _)⟩ ?_
  clear hA171 hS170 a168
  rintro k a172 w174 ⟨ov_, v5_, hA173, hS175, hk1⟩
  have hol := hS175.lst_len 0 rfl
  refine c_seq ?_
  refine c_seq ?_
  refine c_region ?_
  refine st hA173 (op_move rfl (hA173.ev rfl)) rfl rfl (by decide) fun a176 hA177 => ?_; clear hA173 a172
  refine st hA177 (op_field rfl fd_48_1 (hA177.ev rfl)) rfl rfl (by decide) fun a178 hA179 => ?_; clear hA177 a176
  refine st hA179 (op_load1 rfl ty_3 (hA179.ev rfl) (hS175.bk 1 rfl) rfl) rfl rfl (by decide) fun a180 hA181 => ?_; clear hA179 a178
  refine st hA181 (op_leq rfl (hA181.ev rfl) (hA181.ev rfl)) rfl rfl (by decide) fun a182 hA183 => ?_; clear hA181 a180
  refine wl_nil ?_
  refine then_n ?_
  by_cases hb184 : (lowF R l l.length + (k : Int)) ≤ ((R.getD l.length (0, 0)).2)
  ·skip
   rw [decide_eq_true hb184] at hA183
   have hlt := cnt_lt hb184; have hsn := small_snoc hR hsm hlt; have hlb : 0 ≤ lowF R l l.length := by unfold lowF; have h9 := hR.2 l.length; split <;> omega
   have hlu := hR.2 l.length
   refine c_true hA183 rfl ?_
   refine c_skip ?_
   refine then_n ?_
   refine c_seq ?_
   refine c_block ?_
   have hpre : (rlUpto R (m + 1) l k).length ≤ 1003003001 := Nat.le_trans (rlUpto_le R (m + 1) l (Nat.le_of_lt hlt)) (Nat.le_trans (rlF_len hR ((m + 1) + 1) l hsm) (pow_small (by omega))); have hsf : (rlF R (m + 1) (l ++ [(lowF R l l.length + (k : Int))])).length ≤ 1003003001 := Nat.le_trans (rlF_len hR _ _ hsn) (pow_small (by omega))
   have hA185 := hA183.as [(9, (Value.int .i64 (lowF R l l.length + (k : Int)))), (6, (bptr b40 0)), (5, v5_), (2, (bptr b4 0)), (1, xl)] rfl; clear hA183
   by_cases hb187 : 0 < l.length
   ·skip
    have hA188 := hA185.as [(9, (Value.int .i64 (lowF R l l.length + (k : Int)))), (6, (bptr b40 0)), (5, v5_), (2, (bptr b4 0)), (1, xl)] rfl; clear hA185
    refine c_drawC mixed hA188 hS175 9 7 4 (by decide) (by decide) (by decide) rfl [[], [], [], [], [2, 3], [], [5], [4, 6], [1, 7]] [(fun (vs189 : Nat → Value) (v_ : Value) (rs_ : List Res) => v_ = v5_ ∧ rs_ = []), (fun (vs189 : Nat → Value) (v_ : Value) (rs_ : List Res) => v_ = (Value.agg #[vr]) ∧ rs_ = []), (fun (vs189 : Nat → Value) (v_ : Value) (rs_ : List Res) => ∃ (b2_ : Nat), v_ = (Value.slice (some ⟨b2_, 0, none⟩) 0 0) ∧ rs_ = [(blk b2_ 3 [])]), (fun (vs189 : Nat → Value) (v_ : Value) (rs_ : List Res) => v_ = xl ∧ rs_ = []), (fun (vs189 : Nat → Value) (v_ : Value) (rs_ : List Res) => True ∧ rs_ = [(row v_ 3 1 l.length (ints l))]), (fun (vs189 : Nat → Value) (v_ : Value) (rs_ : List Res) => v_ = (Value.int .i64 (lowF R l l.length + (k : Int))) ∧ rs_ = []), (fun (vs189 : Nat → Value) (v_ : Value) (rs_ : List Res) => True ∧ rs_ = [(row v_ 3 1 1 [(Value.int .i64 (lowF R l l.length + (k : Int)))])]), (fun (vs189 : Nat → Value) (v_ : Value) (rs_ : List Res) => True ∧ rs_ = [(row v_ 3 1 ((l ++ [(lowF R l l.length + (k : Int))]).length) (ints (l ++ [(lowF R l l.length + (k : Int))])))]), (fun (vs189 : Nat → Value) (v_ : Value) (rs_ : List Res) => ∃ (ov8_ : List Value), True ∧ rs_ = [(row v_ 40 1 ov8_.length ov8_), (lstR ov8_ (rlF R (m + 1) (l ++ [(lowF R l l.length + (k : Int))])))])] (by decide +kernel) (by decide +kernel) rfl rfl ⟨(fun _ _ _ _ _ h_ => h_), (fun _ _ _ _ _ h_ => h_), (fun _ _ _ _ _ h_ => h_), (fun _ _ _ _ _ h_ => h_), (fun _ _ _ _ _ h_ => h_), (fun _ _ _ _ _ h_ => h_), (fun _ _ _ _ _ h_ => h_), (fun _ _ _ _ _ h_ => h_), (fun _ _ _ _ _ h_ => h_), trivial⟩ (by decide +kernel) (by decide +kernel) ?_ ?_ ?_
    ·skip
     refine ⟨fun hj_ a w vs189 hA hS hd => ?_, ?_⟩
     ·skip
      exact opG_of rfl (vv (op_move rfl (hA.ev rfl)) (And.intro rfl rfl))
     refine ⟨fun hj_ a w vs189 hA hS hd => ?_, ?_⟩
     ·skip
      exact opG_of rfl (vv (op_loadA rfl ty_24 (hA.ev rfl) (hS.bk 3 rfl) (l := [vr]) rfl rfl) (And.intro rfl rfl))
     refine ⟨fun hj_ a w vs189 hA hS hd => ?_, ?_⟩
     ·skip
      exact opG_of rfl (vblz rfl pv0 un_40 ty_3 ze_3 bs_3_0_ (fun b_ => ⟨b_, rfl, rfl⟩))
     refine ⟨fun hj_ a w vs189 hA hS hd => ?_, ?_⟩
     ·skip
      exact opG_of rfl (vv (op_move rfl (hA.ev rfl)) (And.intro rfl rfl))
     refine ⟨fun hj_ a w vs189 hA hS hd => ?_, ?_⟩
     ·skip
      obtain ⟨e2, rs2, hy2, hp2⟩ := hd 2 (by decide)
      obtain ⟨b2_, hv2, hr2⟩ := hy2; subst hr2
      rw [hv2] at e2
      have hp2_0 := hp2 _ (List.mem_of_getElem? (i := 0) rfl)
      obtain ⟨e3, rs3, hy3, hp3⟩ := hd 3 (by decide)
      obtain ⟨hv3, hr3⟩ := hy3; subst hr3
      rw [hv3] at e3
      exact opG_of rfl (vap0 (op_append0 rfl un_40 el_3 (tmp_ev (slot_ev e2 rfl)) (tmp_ev (slot_ev e3 rfl)) (hS.sk 4 rfl) (ints_one _) (by simp only [maxLen]; omega) (by omega) hb187) (fun _ => And.intro trivial rfl))
     refine ⟨fun hj_ a w vs189 hA hS hd => ?_, ?_⟩
     ·skip
      exact opG_of rfl (vv (op_move rfl (hA.ev rfl)) (And.intro rfl rfl))
     refine ⟨fun hj_ a w vs189 hA hS hd => ?_, ?_⟩
     ·skip
      obtain ⟨e5, rs5, hy5, hp5⟩ := hd 5 (by decide)
      obtain ⟨hv5, hr5⟩ := hy5; subst hr5
      rw [hv5] at e5
      exact opG_of rfl (vblt rfl (pv1 (tmp_ev (slot_ev e5 rfl))) un_40 ty_3 ze_3 (by decide) (cs := [(Value.int .i64 (lowF R l l.length + (k : Int)))]) (bs_3_1_0i _) rfl (by decide) (fun _ => And.intro trivial rfl))
     refine ⟨fun hj_ => absurd rfl hj_, ?_⟩
     refine ⟨fun hj_ a w vs189 hA hS hd => ?_, ?_⟩
     ·skip
      obtain ⟨e1, rs1, hy1, hp1⟩ := hd 1 (by decide)
      obtain ⟨hv1, hr1⟩ := hy1; subst hr1
      rw [hv1] at e1
      obtain ⟨e7, rs7, hy7, hp7⟩ := hd 7 (by decide)
      obtain ⟨hv7, hr7⟩ := hy7; subst hr7
      have hp7_0 := hp7 _ (List.mem_of_getElem? (i := 0) rfl)
      exact opG_of rfl (vn (op_call rfl en_42 (ev2 (tmp_ev (slot_ev e1 rfl)) (tmp_ev (slot_ev e7 rfl))) (ih (l ++ [(lowF R l l.length + (k : Int))]) _ _ (hS.sk 5 rfl) (SlAt.of_row hp7_0) (by simp; omega) hsn)) (fun v w' h => by obtain ⟨ov, hT⟩ := h; exact ⟨_, ⟨ov, trivial, rfl⟩, hT, rfl⟩))
     trivial
    ·skip
     intro a w vs189 rs0 Lr hA hs0 hy0 hd hS
     obtain ⟨hv4, hr4⟩ := hy0; subst hr4
     obtain ⟨e6, rs6, hy6, hp6⟩ := hd 6 (by decide) (by decide)
     obtain ⟨hv6, hr6⟩ := hy6; subst hr6
     have hp6_0 := hp6 _ (List.mem_of_getElem? (i := 0) rfl)
     exact opG_of rfl (opY_mono (op_append hS rfl un_40 el_3 (tmp_ev (slot_ev hs0 rfl)) (tmp_ev (slot_ev e6 rfl)) (i := 0) rfl (SlAt.of_row hp6_0) rfl (by simp only [maxLen]; omega) (by omega)) fun v_ w_ h_ => ⟨_, And.intro trivial rfl, h_.row_say (i := 0) rfl (n' := (l ++ [(lowF R l l.length + (k : Int))]).length) (xs' := (ints (l ++ [(lowF R l l.length + (k : Int))]))) (by simp) (by simp [ints])⟩)
    ·skip
     intro a190 w191 vs189 rsf195 hA192 hH194 hrq hS193; clear hA188 hS175
     obtain ⟨hs_0, hy_0⟩ := hH194 0 (by decide) (by decide)
     obtain ⟨hv_0, hr_0⟩ := hy_0
     obtain ⟨hs_1, hy_1⟩ := hH194 1 (by decide) (by decide)
     obtain ⟨hv_1, hr_1⟩ := hy_1
     obtain ⟨hs_2, hy_2⟩ := hH194 2 (by decide) (by decide)
     obtain ⟨b2_, hv_2, hr_2⟩ := hy_2
     obtain ⟨hs_3, hy_3⟩ := hH194 3 (by decide) (by decide)
     obtain ⟨hv_3, hr_3⟩ := hy_3
     obtain ⟨hs_5, hy_5⟩ := hH194 5 (by decide) (by decide)
     obtain ⟨hv_5, hr_5⟩ := hy_5
     obtain ⟨hs_6, hy_6⟩ := hH194 6 (by decide) (by decide)
     obtain ⟨hv_6, hr_6⟩ := hy_6
     obtain ⟨hs_7, hy_7⟩ := hH194 7 (by decide) (by decide)
     obtain ⟨hv_7, hr_7⟩ := hy_7
     obtain ⟨hs_8, hy_8⟩ := hH194 8 (by decide) (by decide)
     obtain ⟨ov8_, hv_8, hr_8⟩ := hy_8
     have hS196 : Sep NoB w w191 [(blk b2_ 3 []), (row (vs189 6) 3 1 1 [(Value.int .i64 (lowF R l l.length + (k : Int)))]), (row (vs189 7) 3 1 ((l ++ [(lowF R l l.length + (k : Int))]).length) (ints (l ++ [(lowF R l l.length + (k : Int))]))), (row (vs189 8) 40 1 ov8_.length ov8_), (lstR ov8_ (rlF R (m + 1) (l ++ [(lowF R l l.length + (k : Int))]))), (lstR ov_ (rlUpto R (m + 1) l k)), (blk b40 48 [(Value.int .i64 ((R.getD l.length (0, 0)).1)), (Value.int .i64 ((R.getD l.length (0, 0)).2))]), (row v5_ 40 1 ov_.length ov_), (blk b4 24 [vr]), (sl xl 1 l.length (ints l)), (sl vr 2 R.length (pairs R))] := by rw [show catR rsf195 0 9 = ([(blk b2_ 3 []), (row (vs189 6) 3 1 1 [(Value.int .i64 (lowF R l l.length + (k : Int)))]), (row (vs189 7) 3 1 ((l ++ [(lowF R l l.length + (k : Int))]).length) (ints (l ++ [(lowF R l l.length + (k : Int))]))), (row (vs189 8) 40 1 ov8_.length ov8_), (lstR ov8_ (rlF R (m + 1) (l ++ [(lowF R l l.length + (k : Int))])))] : List Res) by (try simp only [catR, hr_0, hr_1, hr_2, hr_3, hr_5, hr_6, hr_7, hr_8, hrq]); (try rfl)] at hS193; exact hS193
     rw [hv_0] at hs_0
     have hA197 : Fr 55 [] [(44, v5_), (9, (Value.int .i64 (lowF R l l.length + (k : Int)))), (6, (bptr b40 0)), (5, v5_), (2, (bptr b4 0)), (1, xl)] a190 := hA192.add (slot_ev hs_0 rfl); clear hA192
     have hA198 : Fr 55 [] [(52, (vs189 8)), (44, v5_), (9, (Value.int .i64 (lowF R l l.length + (k : Int)))), (6, (bptr b40 0)), (5, v5_), (2, (bptr b4 0)), (1, xl)] a190 := hA197.add (slot_ev hs_8 rfl); clear hA197
     clear hH194 hS193 hs_0 hs_1 hs_2 hs_3 hs_5 hs_6 hs_7 hs_8 hrq
     clear hr_0
     clear hv_0
     clear hr_1
     clear hv_1
     clear hr_2
     clear hv_2
     clear hr_3
     clear hv_3
     clear hr_5
     clear hv_5
     clear hr_6
     clear hv_6
     clear hr_7
     clear hv_7
     clear hr_8
     clear hv_8
     have hol2 := hS196.lst_len 4 rfl
     refine stw hA198 (op_append hS196 rfl un_38 el_40 (hA198.ev rfl) (hA198.ev rfl) (i := 7) rfl (SlAt.of_row (hS196.ok_row 3 rfl)) (lst_one (hS196.ok 4 _ rfl)) (by simp only [maxLen]; omega) (by omega)) rfl rfl (by decide) ?_
     intro a199 v202 w201 hS203 hA200
     have hS204 := hS203.row_say (i := 7) rfl (n' := (ov_ ++ ov8_).length) (xs' := (ov_ ++ ov8_)) (by simp) rfl; clear hS203 hA198 hS196 a190
     refine st hA200 (op_assign rfl (hA200.ev rfl)) rfl rfl (by decide) fun a205 hA206 => ?_; clear hA200 a199
     refine wl_nil ?_
     refine blk_n ?_
     refine then_n ?_
     refine c_region ?_
     refine st hA206 (op_move rfl (hA206.ev rfl)) rfl rfl (by decide) fun a207 hA208 => ?_; clear hA206 a205
     refine st hA208 (op_add rfl (hA208.ev rfl) (evc _ _) (by omega) (by omega)) rfl rfl (by decide) fun a209 hA210 => ?_; clear hA208 a207
     refine st hA210 (op_assign rfl (hA210.ev rfl)) rfl rfl (by decide) fun a211 hA212 => ?_; clear hA210 a209
     refine wl_nil ?_
     have hS213 : Sep NoB w w201 [(lstR ov_ (rlUpto R (m + 1) l k)), (lstR ov8_ (rlF R (m + 1) (l ++ [(lowF R l l.length + (k : Int))]))), (blk b2_ 3 []), (row (vs189 6) 3 1 1 [(Value.int .i64 (lowF R l l.length + (k : Int)))]), (row (vs189 7) 3 1 ((l ++ [(lowF R l l.length + (k : Int))]).length) (ints (l ++ [(lowF R l l.length + (k : Int))]))), (row (vs189 8) 40 1 ov8_.length ov8_), (blk b40 48 [(Value.int .i64 ((R.getD l.length (0, 0)).1)), (Value.int .i64 ((R.getD l.length (0, 0)).2))]), (row v202 40 1 ((ov_ ++ ov8_).length) (ov_ ++ ov8_)), (blk b4 24 [vr]), (sl xl 1 l.length (ints l)), (sl vr 2 R.length (pairs R))] := hS204.keep [5, 4, 0, 1, 2, 3, 6, 7, 8, 9, 10] (by decide) _ rfl rfl; clear hS204
     have hS214 := hS213.lst_app; clear hS213
     rw [show lowF R l l.length + (k : Int) + 1 = lowF R l l.length + ((k + 1 : Nat) : Int) from by omega] at hA212
     have hS215 : Sep NoB w w201 [(lstR (ov_ ++ ov8_) ((rlUpto R (m + 1) l k) ++ (rlF R (m + 1) (l ++ [(lowF R l l.length + (k : Int))])))), (blk b40 48 [(Value.int .i64 ((R.getD l.length (0, 0)).1)), (Value.int .i64 ((R.getD l.length (0, 0)).2))]), (row v202 40 1 ((ov_ ++ ov8_).length) (ov_ ++ ov8_)), (blk b4 24 [vr]), (sl xl 1 l.length (ints l)), (sl vr 2 R.length (pairs R))] := hS214.keep [0, 5, 6, 7, 8, 9] (by decide) _ rfl rfl; clear hS214
     exact then_n ⟨k + 1, ⟨(ov_ ++ ov8_), v202, hA212.as _ rfl, (hS215.lst_say (i := 0) rfl (by first | (rw [rlUpto_succ]; done) | (rw [rlUpto_succ]; rfl))), hlt⟩, by omega⟩
   ·skip
    have hA216 := hA185.as [(9, (Value.int .i64 (lowF R l l.length + (k : Int)))), (6, (bptr b40 0)), (5, v5_), (2, (bptr b4 0)), (1, xl)] rfl; clear hA185
    refine c_drawV mixed hA216 hS175 9 [[], [], [], [], [2, 3], [], [5], [2, 4, 6], [1, 7]] [(fun (vs217 : Nat → Value) (v_ : Value) (rs_ : List Res) => v_ = v5_ ∧ rs_ = []), (fun (vs217 : Nat → Value) (v_ : Value) (rs_ : List Res) => v_ = (Value.agg #[vr]) ∧ rs_ = []), (fun (vs217 : Nat → Value) (v_ : Value) (rs_ : List Res) => ∃ (b2_ : Nat), v_ = (Value.slice (some ⟨b2_, 0, none⟩) 0 0) ∧ rs_ = [(blk b2_ 3 [])]), (fun (vs217 : Nat → Value) (v_ : Value) (rs_ : List Res) => v_ = xl ∧ rs_ = []), (fun (vs217 : Nat → Value) (v_ : Value) (rs_ : List Res) => v_ = (vs217 2) ∧ rs_ = []), (fun (vs217 : Nat → Value) (v_ : Value) (rs_ : List Res) => v_ = (Value.int .i64 (lowF R l l.length + (k : Int))) ∧ rs_ = []), (fun (vs217 : Nat → Value) (v_ : Value) (rs_ : List Res) => True ∧ rs_ = [(row v_ 3 1 1 [(Value.int .i64 (lowF R l l.length + (k : Int)))])]), (fun (vs217 : Nat → Value) (v_ : Value) (rs_ : List Res) => True ∧ rs_ = [(row v_ 3 1 1 [(Value.int .i64 (lowF R l l.length + (k : Int)))])]), (fun (vs217 : Nat → Value) (v_ : Value) (rs_ : List Res) => ∃ (ov8_ : List Value), True ∧ rs_ = [(row v_ 40 1 ov8_.length ov8_), (lstR ov8_ (rlF R (m + 1) (l ++ [(lowF R l l.length + (k : Int))])))])] (by decide +kernel) (by decide +kernel) rfl rfl ⟨(fun _ _ _ _ _ h_ => h_), (fun _ _ _ _ _ h_ => h_), (fun _ _ _ _ _ h_ => h_), (fun _ _ _ _ _ h_ => h_), (fun _ _ _ _ he_ h_ => by dsimp only at h_ ⊢; rw [← he_ 2 (by decide)]; exact h_), (fun _ _ _ _ _ h_ => h_), (fun _ _ _ _ _ h_ => h_), (fun _ _ _ _ _ h_ => h_), (fun _ _ _ _ _ h_ => h_), trivial⟩ ?_ ?_
    ·skip
     refine ⟨fun a w vs217 hA hS hd => ?_, ?_⟩
     ·skip
      exact opG_of rfl (vv (op_move rfl (hA.ev rfl)) (And.intro rfl rfl))
     refine ⟨fun a w vs217 hA hS hd => ?_, ?_⟩
     ·skip
      exact opG_of rfl (vv (op_loadA rfl ty_24 (hA.ev rfl) (hS.bk 3 rfl) (l := [vr]) rfl rfl) (And.intro rfl rfl))
     refine ⟨fun a w vs217 hA hS hd => ?_, ?_⟩
     ·skip
      exact opG_of rfl (vblz rfl pv0 un_40 ty_3 ze_3 bs_3_0_ (fun b_ => ⟨b_, rfl, rfl⟩))
     refine ⟨fun a w vs217 hA hS hd => ?_, ?_⟩
     ·skip
      exact opG_of rfl (vv (op_move rfl (hA.ev rfl)) (And.intro rfl rfl))
     refine ⟨fun a w vs217 hA hS hd => ?_, ?_⟩
     ·skip
      obtain ⟨e2, rs2, hy2, hp2⟩ := hd 2 (by decide)
      obtain ⟨b2_, hv2, hr2⟩ := hy2; subst hr2
      rw [hv2] at e2
      have hp2_0 := hp2 _ (List.mem_of_getElem? (i := 0) rfl)
      obtain ⟨e3, rs3, hy3, hp3⟩ := hd 3 (by decide)
      obtain ⟨hv3, hr3⟩ := hy3; subst hr3
      rw [hv3] at e3
      exact opG_of rfl (vv (op_appendZ rfl un_40 el_3 (tmp_ev (slot_ev e2 rfl)) (tmp_ev (slot_ev e3 rfl)) (hS.sk 4 rfl) (Nat.eq_zero_of_not_pos hb187)) (And.intro hv2.symm rfl))
     refine ⟨fun a w vs217 hA hS hd => ?_, ?_⟩
     ·skip
      exact opG_of rfl (vv (op_move rfl (hA.ev rfl)) (And.intro rfl rfl))
     refine ⟨fun a w vs217 hA hS hd => ?_, ?_⟩
     ·skip
      obtain ⟨e5, rs5, hy5, hp5⟩ := hd 5 (by decide)
      obtain ⟨hv5, hr5⟩ := hy5; subst hr5
      rw [hv5] at e5
      exact opG_of rfl (vblt rfl (pv1 (tmp_ev (slot_ev e5 rfl))) un_40 ty_3 ze_3 (by decide) (cs := [(Value.int .i64 (lowF R l l.length + (k : Int)))]) (bs_3_1_0i _) rfl (by decide) (fun _ => And.intro trivial rfl))
     refine ⟨fun a w vs217 hA hS hd => ?_, ?_⟩
     ·skip
      obtain ⟨e2, rs2, hy2, hp2⟩ := hd 2 (by decide)
      obtain ⟨b2_, hv2, hr2⟩ := hy2; subst hr2
      rw [hv2] at e2
      have hp2_0 := hp2 _ (List.mem_of_getElem? (i := 0) rfl)
      obtain ⟨e4, rs4, hy4, hp4⟩ := hd 4 (by decide)
      obtain ⟨hv4, hr4⟩ := hy4; subst hr4
      rw [hv4, hv2] at e4
      obtain ⟨e6, rs6, hy6, hp6⟩ := hd 6 (by decide)
      obtain ⟨hv6, hr6⟩ := hy6; subst hr6
      have hp6_0 := hp6 _ (List.mem_of_getElem? (i := 0) rfl)
      exact opG_of rfl (vap0 (op_append0 rfl un_40 el_3 (tmp_ev (slot_ev e4 rfl)) (tmp_ev (slot_ev e6 rfl)) (SlAt.of_row hp6_0) rfl (by simp only [maxLen]; omega) (by omega) (by omega)) (fun _ => And.intro trivial rfl))
     refine ⟨fun a w vs217 hA hS hd => ?_, ?_⟩
     ·skip
      obtain ⟨e1, rs1, hy1, hp1⟩ := hd 1 (by decide)
      obtain ⟨hv1, hr1⟩ := hy1; subst hr1
      rw [hv1] at e1
      obtain ⟨e7, rs7, hy7, hp7⟩ := hd 7 (by decide)
      obtain ⟨hv7, hr7⟩ := hy7; subst hr7
      have hp7_0 := hp7 _ (List.mem_of_getElem? (i := 0) rfl)
      exact opG_of rfl (vn (op_call rfl en_42 (ev2 (tmp_ev (slot_ev e1 rfl)) (tmp_ev (slot_ev e7 rfl))) (ih (l ++ [(lowF R l l.length + (k : Int))]) _ _ (hS.sk 5 rfl) ((SlAt.of_row hp7_0).tell (by rw [List.eq_nil_of_length_eq_zero (Nat.eq_zero_of_not_pos hb187)]; rfl) (by rw [List.eq_nil_of_length_eq_zero (Nat.eq_zero_of_not_pos hb187)]; rfl)) (by simp; omega) hsn)) (fun v w' h => by obtain ⟨ov, hT⟩ := h; exact ⟨_, ⟨ov, trivial, rfl⟩, hT, rfl⟩))
     trivial
    intro a218 w219 vs217 rsf223 hA220 hH222 hS221; clear hA216 hS175
    obtain ⟨hs_0, hy_0⟩ := hH222 0 (by decide)
    obtain ⟨hv_0, hr_0⟩ := hy_0
    obtain ⟨hs_1, hy_1⟩ := hH222 1 (by decide)
    obtain ⟨hv_1, hr_1⟩ := hy_1
    obtain ⟨hs_2, hy_2⟩ := hH222 2 (by decide)
    obtain ⟨b2_, hv_2, hr_2⟩ := hy_2
    obtain ⟨hs_3, hy_3⟩ := hH222 3 (by decide)
    obtain ⟨hv_3, hr_3⟩ := hy_3
    obtain ⟨hs_4, hy_4⟩ := hH222 4 (by decide)
    obtain ⟨hv_4, hr_4⟩ := hy_4
    obtain ⟨hs_5, hy_5⟩ := hH222 5 (by decide)
    obtain ⟨hv_5, hr_5⟩ := hy_5
    obtain ⟨hs_6, hy_6⟩ := hH222 6 (by decide)
    obtain ⟨hv_6, hr_6⟩ := hy_6
    obtain ⟨hs_7, hy_7⟩ := hH222 7 (by decide)
    obtain ⟨hv_7, hr_7⟩ := hy_7
    obtain ⟨hs_8, hy_8⟩ := hH222 8 (by decide)
    obtain ⟨ov8_, hv_8, hr_8⟩ := hy_8
    have hS224 : Sep NoB w w219 [(blk b2_ 3 []), (row (vs217 6) 3 1 1 [(Value.int .i64 (lowF R l l.length + (k : Int)))]), (row (vs217 7) 3 1 1 [(Value.int .i64 (lowF R l l.length + (k : Int)))]), (row (vs217 8) 40 1 ov8_.length ov8_), (lstR ov8_ (rlF R (m + 1) (l ++ [(lowF R l l.length + (k : Int))]))), (lstR ov_ (rlUpto R (m + 1) l k)), (blk b40 48 [(Value.int .i64 ((R.getD l.length (0, 0)).1)), (Value.int .i64 ((R.getD l.length (0, 0)).2))]), (row v5_ 40 1 ov_.length ov_), (blk b4 24 [vr]), (sl xl 1 l.length (ints l)), (sl vr 2 R.length (pairs R))] := by rw [show catR rsf223 0 9 = ([(blk b2_ 3 []), (row (vs217 6) 3 1 1 [(Value.int .i64 (lowF R l l.length + (k : Int)))]), (row (vs217 7) 3 1 1 [(Value.int .i64 (lowF R l l.length + (k : Int)))]), (row (vs217 8) 40 1 ov8_.length ov8_), (lstR ov8_ (rlF R (m + 1) (l ++ [(lowF R l l.length + (k : Int))])))] : List Res) by (try simp only [catR, hr_0, hr_1, hr_2, hr_3, hr_4, hr_5, hr_6, hr_7, hr_8]); (try rfl)] at hS221; exact hS221
    rw [hv_0] at hs_0
    have hA225 : Fr 55 [] [(44, v5_), (9, (Value.int .i64 (lowF R l l.length + (k : Int)))), (6, (bptr b40 0)), (5, v5_), (2, (bptr b4 0)), (1, xl)] a218 := hA220.add (slot_ev hs_0 rfl); clear hA220
    have hA226 : Fr 55 [] [(52, (vs217 8)), (44, v5_), (9, (Value.int .i64 (lowF R l l.length + (k : Int)))), (6, (bptr b40 0)), (5, v5_), (2, (bptr b4 0)), (1, xl)] a218 := hA225.add (slot_ev hs_8 rfl); clear hA225
    clear hH222 hS221 hs_0 hs_1 hs_2 hs_3 hs_4 hs_5 hs_6 hs_7 hs_8
    clear hr_0
    clear hv_0
    clear hr_1
    clear hv_1
    clear hr_2
    clear hv_2
    clear hr_3
    clear hv_3
    clear hr_4
    clear hv_4
    clear hr_5
    clear hv_5
    clear hr_6
    clear hv_6
    clear hr_7
    clear hv_7
    clear hr_8
    clear hv_8
    have hol2 := hS224.lst_len 4 rfl
    refine stw hA226 (op_append hS224 rfl un_38 el_40 (hA226.ev rfl) (hA226.ev rfl) (i := 7) rfl (SlAt.of_row (hS224.ok_row 3 rfl)) (lst_one (hS224.ok 4 _ rfl)) (by simp only [maxLen]; omega) (by omega)) rfl rfl (by decide) ?_
    intro a227 v230 w229 hS231 hA228
    have hS232 := hS231.row_say (i := 7) rfl (n' := (ov_ ++ ov8_).length) (xs' := (ov_ ++ ov8_)) (by simp) rfl; clear hS231 hA226 hS224 a218
    refine st hA228 (op_assign rfl (hA228.ev rfl)) rfl rfl (by decide) fun a233 hA234 => ?_; clear hA228 a227
    refine wl_nil ?_
    refine blk_n ?_
    refine then_n ?_
    refine c_region ?_
    refine st hA234 (op_move rfl (hA234.ev rfl)) rfl rfl (by decide) fun a235 hA236 => ?_; clear hA234 a233
    refine st hA236 (op_add rfl (hA236.ev rfl) (evc _ _) (by omega) (by omega)) rfl rfl (by decide) fun a237 hA238 => ?_; clear hA236 a235
    refine st hA238 (op_assign rfl (hA238.ev rfl)) rfl rfl (by decide) fun a239 hA240 => ?_; clear hA238 a237
    refine wl_nil ?_
    have hS241 : Sep NoB w w229 [(lstR ov_ (rlUpto R (m + 1) l k)), (lstR ov8_ (rlF R (m + 1) (l ++ [(lowF R l l.length + (k : Int))]))), (blk b2_ 3 []), (row (vs217 6) 3 1 1 [(Value.int .i64 (lowF R l l.length + (k : Int)))]), (row (vs217 7) 3 1 1 [(Value.int .i64 (lowF R l l.length + (k : Int)))]), (row (vs217 8) 40 1 ov8_.length ov8_), (blk b40 48 [(Value.int .i64 ((R.getD l.length (0, 0)).1)), (Value.int .i64 ((R.getD l.length (0, 0)).2))]), (row v230 40 1 ((ov_ ++ ov8_).length) (ov_ ++ ov8_)), (blk b4 24 [vr]), (sl xl 1 l.length (ints l)), (sl vr 2 R.length (pairs R))] := hS232.keep [5, 4, 0, 1, 2, 3, 6, 7, 8, 9, 10] (by decide) _ rfl rfl; clear hS232
    have hS242 := hS241.lst_app; clear hS241
    rw [show lowF R l l.length + (k : Int) + 1 = lowF R l l.length + ((k + 1 : Nat) : Int) from by omega] at hA240
    have hS243 : Sep NoB w w229 [(lstR (ov_ ++ ov8_) ((rlUpto R (m + 1) l k) ++ (rlF R (m + 1) (l ++ [(lowF R l l.length + (k : Int))])))), (blk b40 48 [(Value.int .i64 ((R.getD l.length (0, 0)).1)), (Value.int .i64 ((R.getD l.length (0, 0)).2))]), (row v230 40 1 ((ov_ ++ ov8_).length) (ov_ ++ ov8_)), (blk b4 24 [vr]), (sl xl 1 l.length (ints l)), (sl vr 2 R.length (pairs R))] := hS242.keep [0, 5, 6, 7, 8, 9] (by decide) _ rfl rfl; clear hS242
    exact then_n ⟨k + 1, ⟨(ov_ ++ ov8_), v230, hA240.as _ rfl, (hS243.lst_say (i := 0) rfl (by first | (rw [rlUpto_succ]; done) | (rw [rlUpto_succ]; rfl))), hlt⟩, by omega⟩
  ·skip
   rw [decide_eq_false hb184] at hA183
   have hte := cnt_eq hb184 hk1
   refine c_false hA183 rfl ?_
   refine c_exit ?_
   refine then_exit ?_
   refine then_exit ?_
   refine blk_hit ?_
   refine then_n ?_
   refine c_seq ?_
   have hA244 := hA183.as [(5, v5_)] rfl; clear hA183
   refine c_region ?_
   refine st hA244 (op_move rfl (hA244.ev rfl)) rfl rfl (by decide) fun a245 hA246 => ?_; clear hA244 a182
   refine st hA246 (op_assign rfl (hA246.ev rfl)) rfl rfl (by decide) fun a247 hA248 => ?_; clear hA246 a245
   refine wl_nil ?_
   refine then_n ?_
   refine c_ret ?_
   refine fin_run hA248 (.inl rfl) (run_results1 hA248 rfl (.tmp rfl)) ?_
   rw [rlF_end, ← hte]
   exact ⟨_, hS175.keep [2, 0] (by decide) _ rfl rfl⟩
theorem rlists_ok (R : List (Int × Int)) (vr : Value) (hR : MatV R) : ∀ (m : Nat) (l : List Int) (xl : Value) (w : World) (hm : SlAt w vr 2 R.length (pairs R)) (hxl : SlAt w xl 1 l.length (ints l)) (hb : l.length + (m + 1) = R.length) (hsm : ∀ i, 0 ≤ l.getD i 0 ∧ l.getD i 0 ≤ 1000), Calls Try.prog 42 #[.agg #[vr], xl] w (Ret fun v w' => ∃ ov, Sep NoB w w' [row v 40 1 ov.length ov, lstR ov (rlF R (m + 1) l)]) := by
 intro m
 induction m with
 | zero => intro l xl w hm hxl hb hsm; exact rlists_1 w R vr hm l xl hxl hb hsm hR
 | succ m ih => intro l xl w hm hxl hb hsm; exact rlists_s w R vr hm m ih l xl hxl hb hsm hR
end Go.Proofs.Ytkkglkdnnfegkaa

namespace Go.Proofs.Ytkkglkdnnfegkaa
open Go.RowKit Go.Eng
def fsel (p : List Int → Bool) (all : List (List Int)) : Nat → List Nat
  | 0 => []
  | k + 1 => if p (all.getD k []) = true then fsel p all k ++ [k] else fsel p all k
theorem fsel_yes {p : List Int → Bool} {all : List (List Int)} {k : Nat} (h : p (all.getD k []) = true) : fsel p all (k + 1) = fsel p all k ++ [k] := if_pos h
theorem fsel_no {p : List Int → Bool} {all : List (List Int)} {k : Nat} (h : p (all.getD k []) = false) : fsel p all (k + 1) = fsel p all k := if_neg (by rw [h]; decide)
theorem fsel_lt (p : List Int → Bool) (all : List (List Int)) : ∀ k, ∀ i ∈ fsel p all k, i < k
  | 0, i, h => by simp [fsel] at h
  | k + 1, i, h => by
    unfold fsel at h
    split at h
    · rcases List.mem_append.1 h with h | h
      · have := fsel_lt p all k i h; omega
      · rw [List.mem_singleton] at h; omega
    · have := fsel_lt p all k i h; omega
theorem fsel_len (p : List Int → Bool) (all : List (List Int)) : ∀ k, (fsel p all k).length ≤ k
  | 0 => by simp [fsel]
  | k + 1 => by
    have := fsel_len p all k
    unfold fsel; split
    · simp only [List.length_append, List.length_cons, List.length_nil]; omega
    · omega
theorem fsel_map (p : List Int → Bool) (all : List (List Int)) : ∀ k, k ≤ all.length → (fsel p all k).map (fun i => all.getD i []) = fUpto p all k
  | 0, _ => rfl
  | k + 1, h => by
    have ih := fsel_map p all k (by omega)
    rw [fUpto_succ p all (by omega) []]
    unfold fsel
    split
    · rw [List.map_append, ih]; rfl
    · rw [ih, List.append_nil]
theorem fsel_all (p : List Int → Bool) (all : List (List Int)) {k : Nat} (h : k = all.length) : (fsel p all k).map (fun i => all.getD i []) = all.filter p := by
  subst h; rw [fsel_map p all _ (Nat.le_refl _), fUpto_all]
def rallowF (R : List (Int × Int)) (rs : List RunD) : List (List Int) := (rlistsF R).filter (allowB rs)
theorem stU_congr {n : Nat} {segs : List Seg} {r r' : List Int} (f : Int × Int → Int) (h : ∀ i, i < n → r.getD i 0 = r'.getD i 0) (hs : ∀ i, i < segs.length → SegV n (segs.getD i (0, 0, 0))) : ∀ k, k ≤ segs.length → stU segs r f k = stU segs r' f k
  | 0, _ => rfl
  | k + 1, hk => by
    have hb := (hs k (by omega)).b
    simp only [stU]
    rw [stU_congr f h hs k (by omega), h _ (by omega)]
theorem st_congr {n : Nat} {segs : List Seg} {r r' : List Int} (h : ∀ i, i < n → r.getD i 0 = r'.getD i 0) (hs : ∀ i, i < segs.length → SegV n (segs.getD i (0, 0, 0))) : stLo segs r = stLo segs r' ∧ stHi segs r = stHi segs r' := by
  rw [← stU_lo, ← stU_lo, ← stU_hi, ← stU_hi]
  exact ⟨stU_congr _ h hs _ (Nat.le_refl _), stU_congr _ h hs _ (Nat.le_refl _)⟩
theorem allowB_congr {n : Nat} {rs : List RunD} {r r' : List Int} (h : ∀ i, i < n → r.getD i 0 = r'.getD i 0) (hV : RunsV n rs) : allowB rs r = allowB rs r' := by
  have key : ∀ i, i < rs.length → allowsB (rs.getD i run0) r = allowsB (rs.getD i run0) r' := fun i hi => by
    obtain ⟨e1, e2⟩ := st_congr h (hV.runs i hi).segs
    unfold allowsB; rw [e1, e2]
  rw [Bool.eq_iff_iff]
  unfold allowB
  rw [List.all_eq_true, List.all_eq_true]
  exact ⟨fun hh i hi => by rw [← key i (List.mem_range.1 hi)]; exact hh i hi, fun hh i hi => by rw [key i (List.mem_range.1 hi)]; exact hh i hi⟩
theorem take_getD {l : List Int} {n i : Nat} (h : i < n) : (l.take n).getD i 0 = l.getD i 0 := by
  simp [List.getD, List.getElem?_take, h]
theorem rlists_len {R : List (Int × Int)} (h3 : R.length ≤ 3) : (rlistsF R).length = (listsF R).length := by rw [← rlists_take h3, List.length_map]
theorem rlists_at {R : List (Int × Int)} (h3 : R.length ≤ 3) {k : Nat} (h : k < (rlistsF R).length) : (rlistsF R).getD k [] = ((listsF R).getD k []).take R.length := by
  have hl := rlists_len h3
  have hk : k < (listsF R).length := by omega
  rw [← rlists_take h3]
  simp [List.getD, hk]
theorem rlists_small {R : List (Int × Int)} (hR : MatV R) {k : Nat} (h : k < (rlistsF R).length) : ((rlistsF R).getD k []).length = R.length ∧ ∀ i, 0 ≤ ((rlistsF R).getD k []).getD i 0 ∧ ((rlistsF R).getD k []).getD i 0 ≤ 1000 := by
  have hl := rlists_len hR.1
  have hr := lists_rates hR (k := k) (by omega)
  have h3 := hR.1
  rw [rlists_at hR.1 h]
  refine ⟨by rw [List.length_take, hr.1]; omega, fun i => ?_⟩
  by_cases hi : i < R.length
  · rw [take_getD hi]; exact hr.2 i
  · have : (((listsF R).getD k []).take R.length).getD i 0 = 0 := by
      simp [List.getD, List.getElem?_take, hi]
    rw [this]; decide
theorem rallow_take {R : List (Int × Int)} {rs : List RunD} (hR : MatV R) (hV : RunsV R.length rs) : (allowedF R rs).map (List.take R.length) = rallowF R rs := by
  unfold rallowF allowedF
  rw [← rlists_take hR.1, List.filter_map]
  congr 1
  apply List.filter_congr
  intro l _
  exact allowB_congr (n := R.length) (fun i hi => (take_getD hi).symm) hV
theorem rallow_len {R : List (Int × Int)} {rs : List RunD} (hR : MatV R) (hV : RunsV R.length rs) : (rallowF R rs).length = (allowedF R rs).length := by rw [← rallow_take hR hV, List.length_map]
end Go.Proofs.Ytkkglkdnnfegkaa

namespace Go.Proofs.Ytkkglkdnnfegkaa
open Go.RowKit Go.Shelf Go.Eng
theorem en_36 : ∀ args w, (callFunc 36 args).run Try.prog w = .ok (.enter 36 args) w := enters_of Try.func36 (by kernel_rfl) rfl
theorem en_41 : ∀ args w, (callFunc 41 args).run Try.prog w = .ok (.enter 41 args) w := enters_of Try.func41 (by kernel_rfl) rfl
theorem en_22 : ∀ args w, (callFunc 22 args).run Try.prog w = .ok (.enter 22 args) w := enters_of Try.func22 (by kernel_rfl) rfl
set_option maxHeartbeats 4000000 in
theorem rAllowed_ok (w : World) (R : List (Int × Int)) (vr : Value) (hm : SlAt w vr 2 R.length (pairs R)) (rs : List RunD) (lv : List Value) (vu : Value) (hx : RunsAt w vu lv rs) (hR : MatV R) (hR1 : 1 ≤ R.length) (hV : RunsV R.length rs) :
  Calls Try.prog 22 #[(Value.agg #[vr]), vu] w (Ret fun v w' => ∃ ov, Sep NoB w w' [row v 40 1 ov.length ov, lstR ov (rallowF R rs)]) := by
 refine calls_enter Try.func22 rfl fun a0 hA0 => ?_
 replace hA0 : Fr 30 [] [(0, (Value.agg #[vr])), (1, vu)] a0 := hA0
 have hll : (rlistsF R).length ≤ 1003003001 := by rw [rlists_len hR.1]; exact lists_len hR
 have hS0 : Sep NoB w w [(sl vr 2 R.length (pairs R)), (runsR false vu lv rs)] := sep_ro ⟨rfl, hm, rfl, hx, trivial⟩
 refine c_seq ?_
 refine c_region ?_
 refine stw hA0 (op_box hS0 rfl (hA0.ev rfl) (cs := [vr]) rfl) rfl rfl (by decide) ?_
 rintro a1 _ w3 ⟨b4, rfl, hS5⟩ hA2; clear hA0 hS0 a0
 refine st hA2 (op_assign rfl (evc _ _)) rfl rfl (by decide) fun a6 hA7 => ?_; clear hA2 a1
 refine wl_nil ?_
 refine then_n ?_
 refine c_seq ?_
 refine c_region ?_
 refine st hA7 (op_assign rfl (evc _ _)) rfl rfl (by decide) fun a8 hA9 => ?_; clear hA7 a6
 have hS10 := hS5.nil_row 40 1; clear hS5
 refine wl_nil ?_
 refine then_n ?_
 refine c_seq ?_
 refine c_region ?_
 refine st hA9 (op_loadA rfl ty_24 (hA9.ev rfl) (hS10.bk 1 rfl) (l := [vr]) rfl rfl) rfl rfl (by decide) fun a11 hA12 => ?_; clear hA9 a8
 refine stw hA12 (op_call rfl en_42 (ev2 (hA12.ev rfl) (evc _ _)) (by have hz := rlists_ok R vr hR (R.length - 1) [] _ _ (hS10.sk 2 rfl) (slAt_nil _ 1) (by simp only [List.length_nil]; omega) (fun i => by simp); rw [show R.length - 1 + 1 = R.length by omega] at hz; exact hz)) rfl rfl (by decide) ?_
 rintro a13 v16 w15 ⟨ov17, hT18⟩ hA14; have hS19 : Sep NoB w w15 [(row v16 40 1 ov17.length ov17), (lstR ov17 (rlistsF R)), (row (Value.slice none 0 0) 40 1 0 []), (blk b4 24 [vr]), (sl vr 2 R.length (pairs R)), (runsR false vu lv rs)] := hS10.callS hT18 rfl; clear hT18 hA12 hS10 a11
 have hol_al : ov17.length = (rlistsF R).length := hS19.lst_len 1 rfl
 refine st hA14 (op_assign rfl (hA14.ev rfl)) rfl rfl (by decide) fun a20 hA21 => ?_; clear hA14 a13
 refine wl_nil ?_
 refine then_n ?_
 refine c_seq ?_
 refine c_seq ?_
 refine c_region ?_
 refine st hA21 (op_assign rfl (evc _ _)) rfl rfl (by decide) fun a22 hA23 => ?_; clear hA21 a20
 refine wl_nil ?_
 refine then_n ?_
 refine c_block ?_
 have hA24 := hA23.as [(7, (Value.int .i64 0)), (6, v16), (5, (Value.slice none 0 0)), (1, vu)] rfl; clear hA23
 refine c_loop (G := Nat) (fun (k : Nat) a_ w_ => ∃ v5_ : Value, Fr 30 [] [(7, (Value.int .i64 (k : Int))), (6, v16), (5, v5_), (1, vu)] a_ ∧ Sep NoB w w_ [(row v16 40 1 ov17.length ov17), (lstR ov17 (rlistsF R)), (row v5_ 40 1 ((fsel (allowB rs) (rlistsF R) k).length) ((fsel (allowB rs) (rlistsF R) k).map fun i => ov17.getD i nilS)), (blk b4 24 [vr]), (sl vr 2 R.length (pairs R)), (runsR false vu lv rs)] ∧ (k ≤ (rlistsF R).length)) (fun k => (rlistsF R).length - k) 0 ⟨(Value.slice none 0 0), hA24.as _ rfl, hS19, by omega⟩ ?_
 clear hA24 hS19 a22
 rintro k a25 w27 ⟨v5_, hA26, hS28, hk1⟩
 have hsl := fsel_len (allowB rs) (rlistsF R) k
 refine c_seq ?_
 refine c_seq ?_
 refine c_region ?_
 refine st hA26 (op_move rfl (hA26.ev rfl)) rfl rfl (by decide) fun a29 hA30 => ?_; clear hA26 a25
 refine st hA30 (op_move rfl (hA30.ev rfl)) rfl rfl (by decide) fun a31 hA32 => ?_; clear hA30 a29
 refine st hA32 (op_lenS rfl un_38 (hA32.ev rfl) (SlAt.of_row (hS28.ok_row 0 rfl))) rfl rfl (by decide) fun a33 hA34 => ?_; clear hA32 a31
 refine st hA34 (op_lss rfl (hA34.ev rfl) (hA34.ev rfl)) rfl rfl (by decide) fun a35 hA36 => ?_; clear hA34 a33
 refine wl_nil ?_
 refine then_n ?_
 by_cases hb37 : (k : Int) < (ov17.length : Int)
 ·skip
  rw [decide_eq_true hb37] at hA36
  have hsm := rlists_small hR (k := k) (by omega); have hs1 := hsm.1
  refine c_true hA36 rfl ?_
  refine c_skip ?_
  refine then_n ?_
  refine c_seq ?_
  refine c_block ?_
  refine c_seq ?_
  refine c_region ?_
  refine st hA36 (op_move rfl (hA36.ev rfl)) rfl rfl (by decide) fun a38 hA39 => ?_; clear hA36 a35
  refine st hA39 (op_move rfl (hA39.ev rfl)) rfl rfl (by decide) fun a40 hA41 => ?_; clear hA39 a38
  refine st hA41 (op_move rfl (hA41.ev rfl)) rfl rfl (by decide) fun a42 hA43 => ?_; clear hA41 a40
  refine st hA43 (op_indexS rfl un_38 ty_40 (hA43.ev rfl) (i := k) (hA43.ev rfl) (SlAt.of_row (hS28.ok_row 0 rfl)) (by decide) (by omega)) rfl rfl (by decide) fun a44 hA45 => ?_; clear hA43 a42
  refine st hA45 (op_load1E rfl ty_40 (hA45.ev rfl) (SlAt.of_row (hS28.ok_row 0 rfl)) (vals_at (by omega))) rfl rfl (by decide) fun a46 hA47 => ?_; clear hA45 a44
  refine stw hA47 (op_call rfl en_36 (ev2 (hA47.ev rfl) (hA47.ev rfl)) (rAllows_ok _ rs _ _ (runs_at (hS28.ok 5 _ rfl)) ((rlistsF R).getD k []) _ ((hS28.ok 1 _ rfl).2 k (by omega)) R.length hR.1 (by omega) hsm.2 hV)) rfl rfl (by decide) ?_
  rintro a48 _ w50 ⟨rfl, hE51⟩ hA49; have hS52 := hS28.step hE51; clear hE51 hA47 hS28 a46
  refine wl_nil ?_
  refine then_n ?_
  rcases Bool.eq_false_or_eq_true ((allowB rs ((rlistsF R).getD k []))) with hb53 | hb53
  ·skip
   rw [hb53] at hA49
   refine c_true hA49 rfl ?_
   have hA54 := hA49.as [(7, (Value.int .i64 (k : Int))), (6, v16), (5, v5_), (1, vu)] rfl; clear hA49
   refine c_region ?_
   refine st hA54 (op_move rfl (hA54.ev rfl)) rfl rfl (by decide) fun a55 hA56 => ?_; clear hA54 a48
   refine st hA56 (op_move rfl (hA56.ev rfl)) rfl rfl (by decide) fun a57 hA58 => ?_; clear hA56 a55
   refine st hA58 (op_move rfl (hA58.ev rfl)) rfl rfl (by decide) fun a59 hA60 => ?_; clear hA58 a57
   refine st hA60 (op_indexS rfl un_38 ty_40 (hA60.ev rfl) (i := k) (hA60.ev rfl) (SlAt.of_row (hS52.ok_row 0 rfl)) (by decide) (by omega)) rfl rfl (by decide) fun a61 hA62 => ?_; clear hA60 a59
   refine st hA62 (op_load1E rfl ty_40 (hA62.ev rfl) (SlAt.of_row (hS52.ok_row 0 rfl)) (vals_at (by omega))) rfl rfl (by decide) fun a63 hA64 => ?_; clear hA62 a61
   refine stw hA64 (op_buildSlice hS52 rfl (pv1 (hA64.ev rfl)) un_38 ty_40 ze_40 (by decide) (cs := [(ov17.getD k nilS)]) (bs_40_1_0s _ (SlAt.isSl ((hS52.ok 1 _ rfl).2 k (by omega))))) rfl rfl (by decide) ?_
   rintro a65 _ w67 ⟨b68, rfl, hS69⟩ hA66; clear hA64 hS52 a63
   refine stw hA66 (op_append hS69 rfl un_38 el_40 (hA66.ev rfl) (hA66.ev rfl) (i := 3) rfl (SlAt.of_blk (hS69.bk 0 rfl) rfl (Nat.le_of_ble_eq_true rfl)) (all_c (SlAt.one ((hS69.ok 2 _ rfl).2 k (by omega))) all_n) (by simp only [maxLen]; omega) (by omega)) rfl rfl (by decide) ?_
   intro a70 v73 w72 hS74 hA71
   have hS75 := hS74.row_say (i := 3) rfl (n' := (((fsel (allowB rs) (rlistsF R) k).map fun i => ov17.getD i nilS) ++ [(ov17.getD k nilS)]).length) (xs' := (((fsel (allowB rs) (rlistsF R) k).map fun i => ov17.getD i nilS) ++ [(ov17.getD k nilS)])) (by simp) rfl; clear hS74 hA66 hS69 a65
   refine st hA71 (op_assign rfl (hA71.ev rfl)) rfl rfl (by decide) fun a76 hA77 => ?_; clear hA71 a70
   refine wl_nil ?_
   refine blk_n ?_
   refine then_n ?_
   have hA78 := hA77.as [(5, v73), (7, (Value.int .i64 (k : Int))), (6, v16), (1, vu)] rfl; clear hA77
   refine c_region ?_
   refine st hA78 (op_move rfl (hA78.ev rfl)) rfl rfl (by decide) fun a79 hA80 => ?_; clear hA78 a76
   refine st hA80 (op_add rfl (hA80.ev rfl) (evc _ _) (by omega) (by omega)) rfl rfl (by decide) fun a81 hA82 => ?_; clear hA80 a79
   refine st hA82 (op_assign rfl (hA82.ev rfl)) rfl rfl (by decide) fun a83 hA84 => ?_; clear hA82 a81
   refine wl_nil ?_
   have hS85 : Sep NoB w w72 [(row v16 40 1 ov17.length ov17), (lstR ov17 (rlistsF R)), (row v73 40 1 ((((fsel (allowB rs) (rlistsF R) k).map fun i => ov17.getD i nilS) ++ [(ov17.getD k nilS)]).length) (((fsel (allowB rs) (rlistsF R) k).map fun i => ov17.getD i nilS) ++ [(ov17.getD k nilS)])), (blk b4 24 [vr]), (sl vr 2 R.length (pairs R)), (runsR false vu lv rs)] := hS75.keep [1, 2, 3, 4, 5, 6] (by decide) _ rfl rfl; clear hS75
   exact then_n ⟨k + 1, ⟨v73, hA84.as _ rfl, (hS85.row_say (i := 2) rfl (by (rw [fsel_yes (by assumption)]) <;> simp) (by (rw [fsel_yes (by assumption)]) <;> simp)), by omega⟩, by omega⟩
  ·skip
   rw [hb53] at hA49
   refine c_false hA49 rfl ?_
   refine c_skip ?_
   refine blk_n ?_
   refine then_n ?_
   have hA86 := hA49.as [(7, (Value.int .i64 (k : Int))), (6, v16), (5, v5_), (1, vu)] rfl; clear hA49
   refine c_region ?_
   refine st hA86 (op_move rfl (hA86.ev rfl)) rfl rfl (by decide) fun a87 hA88 => ?_; clear hA86 a48
   refine st hA88 (op_add rfl (hA88.ev rfl) (evc _ _) (by omega) (by omega)) rfl rfl (by decide) fun a89 hA90 => ?_; clear hA88 a87
   refine st hA90 (op_assign rfl (hA90.ev rfl)) rfl rfl (by decide) fun a91 hA92 => ?_; clear hA90 a89
   refine wl_nil ?_
   exact then_n ⟨k + 1, ⟨v5_, hA92.as _ rfl, (hS52.row_say (i := 2) rfl (by (rw [fsel_no (by assumption)]) <;> simp) (by (rw [fsel_no (by assumption)]) <;> simp)), by omega⟩, by omega⟩
 ·skip
  rw [decide_eq_false hb37] at hA36
  refine c_false hA36 rfl ?_
  refine c_exit ?_
  refine then_exit ?_
  refine then_exit ?_
  refine blk_hit ?_
  refine then_n ?_
  refine c_seq ?_
  have hA93 := hA36.as [(5, v5_)] rfl; clear hA36
  refine c_region ?_
  refine st hA93 (op_move rfl (hA93.ev rfl)) rfl rfl (by decide) fun a94 hA95 => ?_; clear hA93 a35
  refine st hA95 (op_assign rfl (hA95.ev rfl)) rfl rfl (by decide) fun a96 hA97 => ?_; clear hA95 a94
  refine wl_nil ?_
  refine then_n ?_
  refine c_ret ?_
  refine fin_run hA97 (.inl rfl) (run_results1 hA97 rfl (.tmp rfl)) ?_
  have h1 := (hS28.keep [1, 2] (by decide) _ rfl rfl).lst_sel (fsel (allowB rs) (rlistsF R) k) (fun i hi => by have := fsel_lt (allowB rs) (rlistsF R) k i hi; omega)
  rw [fsel_all _ _ (by omega)] at h1
  exact ⟨_, (h1.row_say (i := 1) rfl (n' := ((fsel (allowB rs) (rlistsF R) k).map fun i => ov17.getD i nilS).length) (xs' := ((fsel (allowB rs) (rlistsF R) k).map fun i => ov17.getD i nilS)) (by simp) rfl).keep [1, 0] (by decide) _ rfl rfl⟩
end Go.Proofs.Ytkkglkdnnfegkaa

namespace Go.Proofs.Ytkkglkdnnfegkaa
open Go.RowKit Go.Eng
def hotR : List (Int × Int) := [(1, 3), (2, 8)]
def madeR : List RunD := [⟨[(0, 100, 100), (1, 10, 10)], 220, 250⟩, ⟨[(1, 20, 30)], 90, 100⟩]
def hotP : List Seg := [(0, 1000, 1000), (1, 10, 20)]
theorem poss_hot : possF hotR madeR = 0 := by decide +kernel
theorem plan_hot : planF hotR madeR hotP = 0 := by decide +kernel
theorem rates_hot : ratesF hotR madeR = [(2, 2), (3, 5)] := by decide +kernel
theorem many_hot : (allowedF hotR madeR).length = 3 := by decide +kernel
theorem low_hot : stLo hotP (leastR hotR madeR hotP) = 2030 := by decide +kernel
theorem high_hot : stHi hotP (mostR hotR madeR hotP) = 2100 := by decide +kernel
theorem life_hot : lifeE hotR madeR 1 1000 = 0 := by decide +kernel
theorem life_hot1 : (lifeR (allowedF hotR madeR) (1 : Int).toNat 1000).1 = 200 := by decide +kernel
theorem life_hot2 : (lifeR (allowedF hotR madeR) (1 : Int).toNat 1000).2 = 334 := by decide +kernel
end Go.Proofs.Ytkkglkdnnfegkaa

namespace Go.Proofs.Ytkkglkdnnfegkaa
open Go.RowKit Go.Shelf Go.Eng
theorem en_31 : ∀ args w, (callFunc 31 args).run Try.prog w = .ok (.enter 31 args) w := enters_of Try.func31 (by kernel_rfl) rfl
theorem bs_42_2_0iia_1iia (x0_0 : Int) (x0_1 : Int) (x1_0 : Int) (x1_1 : Int) : Instr.fill (fun i => some (i * 2, 2)) ((Array.range (2 * 2)).map ((Value.agg #[(Value.int .i64 0), (Value.int .i64 0)]).cells[· % (Value.agg #[(Value.int .i64 0), (Value.int .i64 0)]).cells.size]!)) [(0, .agg #[(.int .i64 x0_0), (.int .i64 x0_1)]), (1, .agg #[(.int .i64 x1_0), (.int .i64 x1_1)])] = some (([(.int .i64 x0_0), (.int .i64 x0_1), (.int .i64 x1_0), (.int .i64 x1_1)] : List Value).toArray) := by kernel_rfl
theorem bd_33_0s (x0_0 : Value) (hx0_0 : IsSl x0_0) (w : World) : (Instr.build 33 #[(0, x0_0)]).run Try.prog w = .ok (.agg #[x0_0]) w := by obtain ⟨Ax0_0, Bx0_0, Cx0_0, rfl⟩ := hx0_0; kernel_rfl
theorem bs_67_2_0iiia_1iiia (x0_0 : Int) (x0_1 : Int) (x0_2 : Int) (x1_0 : Int) (x1_1 : Int) (x1_2 : Int) : Instr.fill (fun i => some (i * 3, 3)) ((Array.range (2 * 3)).map ((Value.agg #[(Value.int .i64 0), (Value.int .i64 0), (Value.int .i64 0)]).cells[· % (Value.agg #[(Value.int .i64 0), (Value.int .i64 0), (Value.int .i64 0)]).cells.size]!)) [(0, .agg #[(.int .i64 x0_0), (.int .i64 x0_1), (.int .i64 x0_2)]), (1, .agg #[(.int .i64 x1_0), (.int .i64 x1_1), (.int .i64 x1_2)])] = some (([(.int .i64 x0_0), (.int .i64 x0_1), (.int .i64 x0_2), (.int .i64 x1_0), (.int .i64 x1_1), (.int .i64 x1_2)] : List Value).toArray) := by kernel_rfl
theorem bs_96_2_0viia_1viia (x0_0 : Value) (x0_1 : Int) (x0_2 : Int) (x1_0 : Value) (x1_1 : Int) (x1_2 : Int) : Instr.fill (fun i => some (i * 3, 3)) ((Array.range (2 * 3)).map ((Value.agg #[(Value.slice none 0 0), (Value.int .i64 0), (Value.int .i64 0)]).cells[· % (Value.agg #[(Value.slice none 0 0), (Value.int .i64 0), (Value.int .i64 0)]).cells.size]!)) [(0, .agg #[x0_0, (.int .i64 x0_1), (.int .i64 x0_2)]), (1, .agg #[x1_0, (.int .i64 x1_1), (.int .i64 x1_2)])] = some (([x0_0, (.int .i64 x0_1), (.int .i64 x0_2), x1_0, (.int .i64 x1_1), (.int .i64 x1_2)] : List Value).toArray) := by kernel_rfl
theorem hot_ok (w : World) :
  Calls Try.prog 51 #[] w (Ret fun v w' => ∃ u, v = .agg #[u] ∧ Sep NoB w w' [row u 42 2 2 (pairs hotR)]) := by
 refine calls_enter Try.func51 rfl fun a0 hA0 => ?_
 replace hA0 : Fr 5 [] [] a0 := hA0
 have hS0 : Sep NoB w w [] := Sep.start _ _
 refine c_seq ?_
 refine c_region ?_
 refine stw hA0 (op_alloc hS0 rfl ze_33 (cs := [(Value.slice none 0 0)]) rfl) rfl rfl (by decide) ?_
 rintro a1 _ w3 ⟨b4, rfl, hS5⟩ hA2; clear hA0 hS0 a0
 refine wl_nil ?_
 refine then_n ?_
 refine c_seq ?_
 refine c_region ?_
 refine stw hA2 (op_call rfl en_31 (ev2 (evc _ _) (evc _ _)) (between_ok _ _ _)) rfl rfl (by decide) ?_
 rintro a6 _ w8 ⟨rfl, hE9⟩ hA7; have hS10 := hS5.step hE9; clear hE9 hA2 hS5 a1
 refine stw hA7 (op_call rfl en_31 (ev2 (evc _ _) (evc _ _)) (between_ok _ _ _)) rfl rfl (by decide) ?_
 rintro a11 _ w13 ⟨rfl, hE14⟩ hA12; have hS15 := hS10.step hE14; clear hE14 hA7 hS10 a6
 refine stw hA12 (op_buildSlice hS15 rfl (pv2 (hA12.ev rfl) (hA12.ev rfl)) un_28 ty_42 ze_42 (by decide) (cs := [(Value.int .i64 1), (Value.int .i64 3), (Value.int .i64 2), (Value.int .i64 8)]) (bs_42_2_0iia_1iia _ _ _ _)) rfl rfl (by decide) ?_
 rintro a16 _ w18 ⟨b19, rfl, hS20⟩ hA17; clear hA12 hS15 a11
 refine st hA17 (op_build rfl (pv1 (hA17.ev rfl)) (bd_33_0s _ ⟨_, _, _, rfl⟩)) rfl rfl (by decide) fun a21 hA22 => ?_; clear hA17 a16
 refine sts hA22 (op_store hS20 rfl ty_33 (hA22.ev rfl) (hA22.ev rfl) (i := 1) rfl (vs := [(Value.slice (some ⟨b19, 0, none⟩) 2 2)]) rfl rfl (all_c rfl all_n) (Nat.le_of_ble_eq_true rfl)) rfl rfl ?_
 intro _ w23 hS24 hA25; clear hA22
 have hS26 : Sep NoB w w23 [(blk b19 42 [(Value.int .i64 1), (Value.int .i64 3), (Value.int .i64 2), (Value.int .i64 8)]), (blk b4 33 [(Value.slice (some ⟨b19, 0, none⟩) 2 2)])] := hS24; clear hS24 hS20
 refine wl_nil ?_
 refine then_n ?_
 refine c_ret ?_
 refine fin_run hA25 (.inl rfl) (run_results1 hA25 rfl (.cellA rfl ty_33 (hS26.bk 1 rfl) (l := [(Value.slice (some ⟨b19, 0, none⟩) 2 2)]) rfl rfl)) ?_
 have hz : Sep NoB w w23 [blk b19 42 _] := hS26.keep [0] (by decide) _ rfl rfl
 exact ⟨_, rfl, (hz.blk_row (i := 0) (sz := 2) (n := 2) rfl rfl (by decide)).keep [0] (by decide) [row _ 42 2 2 (pairs hotR)] rfl rfl⟩
set_option maxHeartbeats 1000000 in
theorem made_ok (w : World) :
  Calls Try.prog 52 #[] w (Ret fun v w' => ∃ lv, Sep NoB w w' [runsR true v lv madeR]) := by
 refine calls_enter Try.func52 rfl fun a0 hA0 => ?_
 replace hA0 : Fr 14 [] [] a0 := hA0
 have hS0 : Sep NoB w w [] := Sep.start _ _
 refine c_seq ?_
 refine c_region ?_
 refine st hA0 (op_assign rfl (evc _ _)) rfl rfl (by decide) fun a1 hA2 => ?_; clear hA0 a0
 refine wl_nil ?_
 refine then_n ?_
 refine c_seq ?_
 refine c_region ?_
 refine stw hA2 (op_call rfl en_31 (ev2 (evc _ _) (evc _ _)) (between_ok _ _ _)) rfl rfl (by decide) ?_
 rintro a3 _ w5 ⟨rfl, hE6⟩ hA4; have hS7 := hS0.step hE6; clear hE6 hA2 hS0 a1
 refine st hA4 (op_build rfl (pv2 (evc _ _) (hA4.ev rfl)) (bd_67_0i_1iia _ _ _)) rfl rfl (by decide) fun a8 hA9 => ?_; clear hA4 a3
 refine stw hA9 (op_call rfl en_31 (ev2 (evc _ _) (evc _ _)) (between_ok _ _ _)) rfl rfl (by decide) ?_
 rintro a10 _ w12 ⟨rfl, hE13⟩ hA11; have hS14 := hS7.step hE13; clear hE13 hA9 hS7 a8
 refine st hA11 (op_build rfl (pv2 (evc _ _) (hA11.ev rfl)) (bd_67_0i_1iia _ _ _)) rfl rfl (by decide) fun a15 hA16 => ?_; clear hA11 a10
 refine stw hA16 (op_buildSlice hS14 rfl (pv2 (hA16.ev rfl) (hA16.ev rfl)) un_58 ty_67 ze_67 (by decide) (cs := [(Value.int .i64 0), (Value.int .i64 100), (Value.int .i64 100), (Value.int .i64 1), (Value.int .i64 10), (Value.int .i64 10)]) (bs_67_2_0iiia_1iiia _ _ _ _ _ _)) rfl rfl (by decide) ?_
 rintro a17 _ w19 ⟨b20, rfl, hS21⟩ hA18; clear hA16 hS14 a15
 refine stw hA18 (op_call rfl en_31 (ev2 (evc _ _) (evc _ _)) (between_ok _ _ _)) rfl rfl (by decide) ?_
 rintro a22 _ w24 ⟨rfl, hE25⟩ hA23; have hS26 := hS21.step hE25; clear hE25 hA18 hS21 a17
 refine st hA23 (op_build rfl (pv2 (hA23.ev rfl) (hA23.ev rfl)) (bd_96_0s_1iia _ ⟨_, _, _, rfl⟩ _ _)) rfl rfl (by decide) fun a27 hA28 => ?_; clear hA23 a22
 refine stw hA28 (op_call rfl en_31 (ev2 (evc _ _) (evc _ _)) (between_ok _ _ _)) rfl rfl (by decide) ?_
 rintro a29 _ w31 ⟨rfl, hE32⟩ hA30; have hS33 := hS26.step hE32; clear hE32 hA28 hS26 a27
 refine st hA30 (op_build rfl (pv2 (evc _ _) (hA30.ev rfl)) (bd_67_0i_1iia _ _ _)) rfl rfl (by decide) fun a34 hA35 => ?_; clear hA30 a29
 refine stw hA35 (op_buildSlice hS33 rfl (pv1 (hA35.ev rfl)) un_58 ty_67 ze_67 (by decide) (cs := [(Value.int .i64 1), (Value.int .i64 20), (Value.int .i64 30)]) (bs_67_1_0iiia _ _ _)) rfl rfl (by decide) ?_
 rintro a36 _ w38 ⟨b39, rfl, hS40⟩ hA37; clear hA35 hS33 a34
 refine stw hA37 (op_call rfl en_31 (ev2 (evc _ _) (evc _ _)) (between_ok _ _ _)) rfl rfl (by decide) ?_
 rintro a41 _ w43 ⟨rfl, hE44⟩ hA42; have hS45 := hS40.step hE44; clear hE44 hA37 hS40 a36
 refine st hA42 (op_build rfl (pv2 (hA42.ev rfl) (hA42.ev rfl)) (bd_96_0s_1iia _ ⟨_, _, _, rfl⟩ _ _)) rfl rfl (by decide) fun a46 hA47 => ?_; clear hA42 a41
 refine stw hA47 (op_buildSlice hS45 rfl (pv2 (hA47.ev rfl) (hA47.ev rfl)) un_35 ty_96 ze_96 (by decide) (cs := [(Value.slice (some ⟨b20, 0, none⟩) 2 2), (Value.int .i64 220), (Value.int .i64 250), (Value.slice (some ⟨b39, 0, none⟩) 1 1), (Value.int .i64 90), (Value.int .i64 100)]) (bs_96_2_0viia_1viia _ _ _ _ _ _)) rfl rfl (by decide) ?_
 rintro a48 _ w50 ⟨b51, rfl, hS52⟩ hA49; clear hA47 hS45 a46
 refine st hA49 (op_assign rfl (hA49.ev rfl)) rfl rfl (by decide) fun a53 hA54 => ?_; clear hA49 a48
 refine wl_nil ?_
 refine then_n ?_
 refine c_ret ?_
 refine fin_run hA54 (.inl rfl) (run_results1 hA54 rfl (.tmp rfl)) ?_
 have h0 := hS52.keep [0, 2, 1] (by decide) _ rfl rfl
 have h1 := ((h0.blk_row (i := 0) (sz := 3) (n := 2) rfl rfl (by decide)).blk_row (i := 1) (sz := 3) (n := 2) rfl rfl (by decide)).blk_row (i := 2) (sz := 3) (n := 1) rfl rfl (by decide)
 have h2 := (h1.keep [1, 2, 0] (by decide) [row (Value.slice (some ⟨b20, 0, none⟩) 2 2) 67 3 2 (trips [(0, 100, 100), (1, 10, 10)]), row (Value.slice (some ⟨b39, 0, none⟩) 1 1) 67 3 1 (trips [(1, 20, 30)]), row (Value.slice (some ⟨b51, 0, none⟩) 2 2) 96 3 2 (vtrips (runV [(Value.slice (some ⟨b20, 0, none⟩) 2 2), (Value.slice (some ⟨b39, 0, none⟩) 1 1)] madeR))] rfl rfl).segs_nil
 have h3 := (h2.keep [1, 0, 2, 3] (by decide) _ rfl rfl).segs_snoc (x := ⟨[(0, 100, 100), (1, 10, 10)], 220, 250⟩)
 have h4 := (h3.keep [1, 0, 2] (by decide) _ rfl rfl).segs_snoc (x := ⟨[(1, 20, 30)], 90, 100⟩)
 have h5 := (h4.keep [1, 0] (by decide) [row (Value.slice (some ⟨b51, 0, none⟩) 2 2) 96 3 2 (vtrips (runV [(Value.slice (some ⟨b20, 0, none⟩) 2 2), (Value.slice (some ⟨b39, 0, none⟩) 1 1)] madeR)), segsR true [(Value.slice (some ⟨b20, 0, none⟩) 2 2), (Value.slice (some ⟨b39, 0, none⟩) 1 1)] madeR] rfl rfl).runs_join rfl
 exact ⟨_, h5⟩
end Go.Proofs.Ytkkglkdnnfegkaa

namespace Go.Proofs.Ytkkglkdnnfegkaa
open Go.RowKit Go.Shelf Go.Eng
theorem en_51 : ∀ args w, (callFunc 51 args).run Try.prog w = .ok (.enter 51 args) w := enters_of Try.func51 (by kernel_rfl) rfl
theorem en_52 : ∀ args w, (callFunc 52 args).run Try.prog w = .ok (.enter 52 args) w := enters_of Try.func52 (by kernel_rfl) rfl
theorem en_18 : ∀ args w, (callFunc 18 args).run Try.prog w = .ok (.enter 18 args) w := enters_of Try.func18 (by kernel_rfl) rfl
theorem en_28 : ∀ args w, (callFunc 28 args).run Try.prog w = .ok (.enter 28 args) w := enters_of Try.func28 (by kernel_rfl) rfl
theorem en_23 : ∀ args w, (callFunc 23 args).run Try.prog w = .ok (.enter 23 args) w := enters_of Try.func23 (by kernel_rfl) rfl
theorem life_fine (R : List (Int × Int)) (rs : List RunD) (lv : List Value) (vr vu : Value) (w : World) (hm : SlAt w vr 2 R.length (pairs R)) (hx : RunsAt w vu lv rs) (hlen : R.length ≤ 1000000) (hrl : rs.length ≤ 1000000) (band s : Int) (he : lifeE R rs band s = 0) : Calls Try.prog 23 #[.agg #[vr], vu, .int .i64 band, .int .i64 s] w (Ret fun v w' => v = .tuple #[.agg #[.int .i64 (lifeR (allowedF R rs) band.toNat s).1, .int .i64 (lifeR (allowedF R rs) band.toNat s).2], .int .i64 0] ∧ Ext NoB w w') := by
 have hp : possF R rs = 0 := by
  by_cases h : possF R rs = 0
  ·exact h
  ·rw [life_p h] at he; exact absurd he h
 refine (life_any R rs lv vr vu w hm hx hlen hrl band s hp).mono (Ret.mono fun v w' h => ?_)
 rcases h with ⟨h, _⟩ | ⟨_, h⟩
 ·rw [he] at h; exact absurd h (by decide)
 ·exact h
set_option maxHeartbeats 4000000 in
theorem awake_ok (w : World) :
  Calls Try.prog 17 #[] w (Ret fun v w' => v = .bool true ∧ Ext NoB w w') := by
 refine calls_enter Try.func17 rfl fun a0 hA0 => ?_
 replace hA0 : Fr 75 [] [] a0 := hA0
 have hS0 : Sep NoB w w [] := Sep.start _ _
 refine c_seq ?_
 refine c_region ?_
 refine st hA0 (op_assign rfl (evc _ _)) rfl rfl (by decide) fun a1 hA2 => ?_; clear hA0 a0
 refine wl_nil ?_
 refine then_n ?_
 refine c_seq ?_
 refine c_region ?_
 refine stw hA2 (op_call rfl en_51 ev0 (hot_ok _)) rfl rfl (by decide) ?_
 rintro a3 _ w5 ⟨u8, rfl, hT6⟩ hA4; have hS7 := hS0.callS hT6 rfl; clear hT6 hA2 hS0 a1
 refine stw hA4 (op_call rfl en_52 ev0 (made_ok _)) rfl rfl (by decide) ?_
 rintro a9 v14 w11 ⟨lv15, hT12⟩ hA10; have hS13 := hS7.callS hT12 rfl; clear hT12 hA4 hS7 a3
 refine stw hA10 (op_call rfl en_18 (ev2 (hA10.ev rfl) (hA10.ev rfl)) (rates_ok hotR madeR lv15 u8 v14 _ (SlAt.of_row (hS13.ok_row 1 rfl)) (runs_at (hS13.ok 0 _ rfl)) (by decide) (by decide) poss_hot)) rfl rfl (by decide) ?_
 rintro a16 _ w18 ⟨u21, rfl, hT19⟩ hA17
 rw [rates_hot] at hT19; rw [many_hot] at hA17
 have hS20 : Sep NoB w w18 [(row u21 42 2 2 (pairs ([(2, 2), (3, 5)]))), (runsR true v14 lv15 madeR), (row u8 42 2 2 (pairs hotR))] := hS13.callS hT19 rfl; clear hT19 hA10 hS13 a9
 refine st hA17 (op_move rfl (hA17.ev rfl)) rfl rfl (by decide) fun a22 hA23 => ?_; clear hA17 a16
 refine st hA23 (op_extract rfl (hA23.ev rfl) rfl) rfl rfl (by decide) fun a24 hA25 => ?_; clear hA23 a22
 refine st hA25 (op_extract rfl (hA25.ev rfl) rfl) rfl rfl (by decide) fun a26 hA27 => ?_; clear hA25 a24
 refine st hA27 (op_extract rfl (hA27.ev rfl) rfl) rfl rfl (by decide) fun a28 hA29 => ?_; clear hA27 a26
 refine st hA29 (op_assign rfl (hA29.ev rfl)) rfl rfl (by decide) fun a30 hA31 => ?_; clear hA29 a28
 refine st hA31 (op_assign rfl (hA31.ev rfl)) rfl rfl (by decide) fun a32 hA33 => ?_; clear hA31 a30
 refine st hA33 (op_assign rfl (hA33.ev rfl)) rfl rfl (by decide) fun a34 hA35 => ?_; clear hA33 a32
 refine wl_nil ?_
 refine then_n ?_
 refine c_seq ?_
 have hA36 := hA35.as [(3, (Value.int .i64 0)), (2, (Value.int .i64 ((3 : Nat) : Int))), (1, u21)] rfl; clear hA35
 refine c_region ?_
 refine stw hA36 (op_call rfl en_51 ev0 (hot_ok _)) rfl rfl (by decide) ?_
 rintro a37 _ w39 ⟨u42, rfl, hT40⟩ hA38; have hS41 := hS20.callS hT40 rfl; clear hT40 hA36 hS20 a34
 refine stw hA38 (op_call rfl en_52 ev0 (made_ok _)) rfl rfl (by decide) ?_
 rintro a43 v48 w45 ⟨lv49, hT46⟩ hA44; have hS47 := hS41.callS hT46 rfl; clear hT46 hA38 hS41 a37
 refine stw hA44 (op_call rfl en_31 (ev2 (evc _ _) (evc _ _)) (between_ok _ _ _)) rfl rfl (by decide) ?_
 rintro a50 _ w52 ⟨rfl, hE53⟩ hA51; have hS54 := hS47.step hE53; clear hE53 hA44 hS47 a43
 refine st hA51 (op_build rfl (pv2 (evc _ _) (hA51.ev rfl)) (bd_67_0i_1iia _ _ _)) rfl rfl (by decide) fun a55 hA56 => ?_; clear hA51 a50
 refine stw hA56 (op_call rfl en_31 (ev2 (evc _ _) (evc _ _)) (between_ok _ _ _)) rfl rfl (by decide) ?_
 rintro a57 _ w59 ⟨rfl, hE60⟩ hA58; have hS61 := hS54.step hE60; clear hE60 hA56 hS54 a55
 refine st hA58 (op_build rfl (pv2 (evc _ _) (hA58.ev rfl)) (bd_67_0i_1iia _ _ _)) rfl rfl (by decide) fun a62 hA63 => ?_; clear hA58 a57
 refine stw hA63 (op_buildSlice hS61 rfl (pv2 (hA63.ev rfl) (hA63.ev rfl)) un_58 ty_67 ze_67 (by decide) (cs := [(Value.int .i64 0), (Value.int .i64 1000), (Value.int .i64 1000), (Value.int .i64 1), (Value.int .i64 10), (Value.int .i64 20)]) (bs_67_2_0iiia_1iiia _ _ _ _ _ _)) rfl rfl (by decide) ?_
 rintro a64 _ w66 ⟨b67, rfl, hS68⟩ hA65; clear hA63 hS61 a62
 refine stw hA65 (op_call rfl en_28 (ev3 (hA65.ev rfl) (hA65.ev rfl) (hA65.ev rfl)) (stretch_fine hotR madeR lv49 u42 v48 _ (SlAt.of_row (hS68.ok_row 2 rfl)) (runs_at (hS68.ok 1 _ rfl)) (by decide) (by decide) hotP (Value.slice (some ⟨b67, 0, none⟩) 2 2) (SlAt.of_blk (hS68.bk 0 rfl) rfl (Nat.le_of_ble_eq_true rfl)) (by decide) plan_hot)) rfl rfl (by decide) ?_
 rintro a69 _ w71 ⟨rfl, hE72⟩ hA70; have hS73 := hS68.step hE72; clear hE72 hA65 hS68 a64
 refine st hA70 (op_move rfl (hA70.ev rfl)) rfl rfl (by decide) fun a74 hA75 => ?_; clear hA70 a69
 refine st hA75 (op_extract rfl (hA75.ev rfl) rfl) rfl rfl (by decide) fun a76 hA77 => ?_; clear hA75 a74
 refine st hA77 (op_extract rfl (hA77.ev rfl) rfl) rfl rfl (by decide) fun a78 hA79 => ?_; clear hA77 a76
 refine stw hA79 (op_alloc hS73 rfl ze_42 (cs := [(Value.int .i64 0), (Value.int .i64 0)]) rfl) rfl rfl (by decide) ?_
 rintro a80 _ w82 ⟨b83, rfl, hS84⟩ hA81; clear hA79 hS73 a78
 refine sts hA81 (op_store hS84 rfl ty_42 (hA81.ev rfl) (hA81.ev rfl) (i := 0) rfl (vs := [(Value.int .i64 (stLo hotP (leastR hotR madeR hotP))), (Value.int .i64 (stHi hotP (mostR hotR madeR hotP)))]) rfl rfl rfl (Nat.le_of_ble_eq_true rfl)) rfl rfl ?_
 intro _ w85 hS86 hA87; clear hA81
 have hS88 : Sep NoB w w85 [(blk b83 42 [(Value.int .i64 (stLo hotP (leastR hotR madeR hotP))), (Value.int .i64 (stHi hotP (mostR hotR madeR hotP)))]), (blk b67 67 [(Value.int .i64 0), (Value.int .i64 1000), (Value.int .i64 1000), (Value.int .i64 1), (Value.int .i64 10), (Value.int .i64 20)]), (runsR true v48 lv49 madeR), (row u42 42 2 2 (pairs hotR)), (row u21 42 2 2 (pairs ([(2, 2), (3, 5)]))), (runsR true v14 lv15 madeR), (row u8 42 2 2 (pairs hotR))] := hS86; clear hS86 hS84
 refine st hA87 (op_assign rfl (hA87.ev rfl)) rfl rfl (by decide) fun a89 hA90 => ?_; clear hA87 a80
 refine wl_nil ?_
 refine then_n ?_
 refine c_seq ?_
 have hA91 := hA90.as [(5, (Value.int .i64 0)), (4, (bptr b83 0)), (3, (Value.int .i64 0)), (2, (Value.int .i64 ((3 : Nat) : Int))), (1, u21)] rfl; clear hA90
 refine c_region ?_
 refine stw hA91 (op_call rfl en_51 ev0 (hot_ok _)) rfl rfl (by decide) ?_
 rintro a92 _ w94 ⟨u97, rfl, hT95⟩ hA93; have hS96 := hS88.callS hT95 rfl; clear hT95 hA91 hS88 a89
 refine stw hA93 (op_call rfl en_52 ev0 (made_ok _)) rfl rfl (by decide) ?_
 rintro a98 v103 w100 ⟨lv104, hT101⟩ hA99; have hS102 := hS96.callS hT101 rfl; clear hT101 hA93 hS96 a92
 refine stw hA99 (op_call rfl en_23 (ev4 (hA99.ev rfl) (hA99.ev rfl) (evc _ _) (evc _ _)) (life_fine hotR madeR lv104 u97 v103 _ (SlAt.of_row (hS102.ok_row 1 rfl)) (runs_at (hS102.ok 0 _ rfl)) (by decide) (by decide) 1 1000 life_hot)) rfl rfl (by decide) ?_
 rintro a105 _ w107 ⟨rfl, hE108⟩ hA106; have hS109 := hS102.step hE108; clear hE108 hA99 hS102 a98
 refine st hA106 (op_move rfl (hA106.ev rfl)) rfl rfl (by decide) fun a110 hA111 => ?_; clear hA106 a105
 refine st hA111 (op_extract rfl (hA111.ev rfl) rfl) rfl rfl (by decide) fun a112 hA113 => ?_; clear hA111 a110
 refine st hA113 (op_extract rfl (hA113.ev rfl) rfl) rfl rfl (by decide) fun a114 hA115 => ?_; clear hA113 a112
 refine stw hA115 (op_alloc hS109 rfl ze_42 (cs := [(Value.int .i64 0), (Value.int .i64 0)]) rfl) rfl rfl (by decide) ?_
 rintro a116 _ w118 ⟨b119, rfl, hS120⟩ hA117; clear hA115 hS109 a114
 refine sts hA117 (op_store hS120 rfl ty_42 (hA117.ev rfl) (hA117.ev rfl) (i := 0) rfl (vs := [(Value.int .i64 ((lifeR (allowedF hotR madeR) (1 : Int).toNat 1000).1)), (Value.int .i64 ((lifeR (allowedF hotR madeR) (1 : Int).toNat 1000).2))]) rfl rfl rfl (Nat.le_of_ble_eq_true rfl)) rfl rfl ?_
 intro _ w121 hS122 hA123; clear hA117
 have hS124 : Sep NoB w w121 [(blk b119 42 [(Value.int .i64 ((lifeR (allowedF hotR madeR) (1 : Int).toNat 1000).1)), (Value.int .i64 ((lifeR (allowedF hotR madeR) (1 : Int).toNat 1000).2))]), (runsR true v103 lv104 madeR), (row u97 42 2 2 (pairs hotR)), (blk b83 42 [(Value.int .i64 (stLo hotP (leastR hotR madeR hotP))), (Value.int .i64 (stHi hotP (mostR hotR madeR hotP)))]), (blk b67 67 [(Value.int .i64 0), (Value.int .i64 1000), (Value.int .i64 1000), (Value.int .i64 1), (Value.int .i64 10), (Value.int .i64 20)]), (runsR true v48 lv49 madeR), (row u42 42 2 2 (pairs hotR)), (row u21 42 2 2 (pairs ([(2, 2), (3, 5)]))), (runsR true v14 lv15 madeR), (row u8 42 2 2 (pairs hotR))] := hS122; clear hS122 hS120
 refine st hA123 (op_assign rfl (hA123.ev rfl)) rfl rfl (by decide) fun a125 hA126 => ?_; clear hA123 a116
 refine wl_nil ?_
 refine then_n ?_
 refine c_seq ?_
 have hA127 := hA126.as [(7, (Value.int .i64 0)), (6, (bptr b119 0)), (5, (Value.int .i64 0)), (4, (bptr b83 0)), (3, (Value.int .i64 0)), (2, (Value.int .i64 ((3 : Nat) : Int))), (1, u21)] rfl; clear hA126
 have hA128 := hA127.as [(7, (Value.int .i64 0)), (6, (bptr b119 0)), (5, (Value.int .i64 0)), (4, (bptr b83 0)), (3, (Value.int .i64 0)), (2, (Value.int .i64 ((3 : Nat) : Int))), (1, u21)] rfl; clear hA127
 refine c_drawn mixed hA128 hS124 41 [[], [0], [1], [2], [2, 3], [2, 4], [5], [6], [6, 7], [6, 8], [6, 9], [10], [11], [11, 12], [11, 13], [11], [11, 14, 15], [11, 16], [17], [18], [18, 19], [18, 20], [18], [18, 21, 22], [18, 23], [24], [25], [25, 26], [25, 27], [28], [29], [29], [29, 30, 31], [29, 32], [33], [34], [34, 35], [34, 36], [37], [38], [38]] [(Yd.val (Value.int .i64 0)), (Yd.val (Value.bool true)), (Yd.val (Value.bool true)), (Yd.val (Value.int .i64 ((3 : Nat) : Int))), (Yd.val (Value.bool true)), (Yd.val (Value.bool true)), (Yd.val (Value.bool true)), (Yd.val u21), (Yd.val (Value.int .i64 ((2 : Nat) : Int))), (Yd.val (Value.bool true)), (Yd.val (Value.bool true)), (Yd.val (Value.bool true)), (Yd.val u21), (Yd.val (eptr u21 (0 * 2))), (Yd.val (Value.agg #[(Value.int .i64 ((([(2, 2), (3, 5)]).getD 0 (0, 0)).1)), (Value.int .i64 ((([(2, 2), (3, 5)]).getD 0 (0, 0)).2))])), (Yd.val (Value.agg #[(Value.int .i64 2), (Value.int .i64 2)])), (Yd.val (Value.bool true)), (Yd.val (Value.bool true)), (Yd.val (Value.bool true)), (Yd.val u21), (Yd.val (eptr u21 (1 * 2))), (Yd.val (Value.agg #[(Value.int .i64 ((([(2, 2), (3, 5)]).getD 1 (0, 0)).1)), (Value.int .i64 ((([(2, 2), (3, 5)]).getD 1 (0, 0)).2))])), (Yd.val (Value.agg #[(Value.int .i64 3), (Value.int .i64 5)])), (Yd.val (Value.bool true)), (Yd.val (Value.bool true)), (Yd.val (Value.bool true)), (Yd.val (Value.int .i64 0)), (Yd.val (Value.bool true)), (Yd.val (Value.bool true)), (Yd.val (Value.bool true)), (Yd.val (Value.agg #[(Value.int .i64 (stLo hotP (leastR hotR madeR hotP))), (Value.int .i64 (stHi hotP (mostR hotR madeR hotP)))])), (Yd.val (Value.agg #[(Value.int .i64 2030), (Value.int .i64 2100)])), (Yd.val (Value.bool true)), (Yd.val (Value.bool true)), (Yd.val (Value.bool true)), (Yd.val (Value.int .i64 0)), (Yd.val (Value.bool true)), (Yd.val (Value.bool true)), (Yd.val (Value.bool true)), (Yd.val (Value.agg #[(Value.int .i64 ((lifeR (allowedF hotR madeR) (1 : Int).toNat 1000).1)), (Value.int .i64 ((lifeR (allowedF hotR madeR) (1 : Int).toNat 1000).2))])), (Yd.val (Value.agg #[(Value.int .i64 200), (Value.int .i64 334)]))] (by decide +kernel) rfl rfl ?_ ?_
 ·skip
  refine ⟨fun a w hA hS hd => by exact opG_of rfl (dv (op_move rfl (hA.ev rfl)) hS rfl), ?_⟩
  refine ⟨fun a w hA hS hd => by have e0 := has_ev (hd 0 (by decide)) rfl (fun _ h => h); exact opG_of rfl (dv (op_eql rfl (tmp_ev e0) (evc _ _)) hS rfl), ?_⟩
  refine ⟨fun a w hA hS hd => by have e1 := has_ev (hd 1 (by decide)) rfl (fun _ h => h); exact opG_of rfl (dv (op_move rfl (tmp_ev e1)) hS rfl), ?_⟩
  refine ⟨fun a w hA hS hd => by have e2 := has_ev (hd 2 (by decide)) rfl (fun _ h => h); exact opG_yes rfl rfl e2 (dv (op_move rfl (hA.ev rfl)) hS rfl), ?_⟩
  refine ⟨fun a w hA hS hd => by have e2 := has_ev (hd 2 (by decide)) rfl (fun _ h => h); have e3 := has_ev (hd 3 (by decide)) rfl (fun _ h => h); exact opG_yes rfl rfl e2 (dv (op_eql rfl (tmp_ev e3) (evc _ _)) hS (by show Value.bool _ = _; simp only [decide_eq_true (show ((3 : Nat) : Int) = 3 from (by decide)), decide_true, decide_false, Bool.not_true, Bool.not_false])), ?_⟩
  refine ⟨fun a w hA hS hd => by have e2 := has_ev (hd 2 (by decide)) rfl (fun _ h => h); have e4 := has_ev (hd 4 (by decide)) rfl (fun _ h => h); exact opG_of rfl (dv (op_pick_t rfl (tmp_ev e2) (tmp_ev e4)) hS rfl), ?_⟩
  refine ⟨fun a w hA hS hd => by have e5 := has_ev (hd 5 (by decide)) rfl (fun _ h => h); exact opG_of rfl (dv (op_move rfl (tmp_ev e5)) hS rfl), ?_⟩
  refine ⟨fun a w hA hS hd => by have e6 := has_ev (hd 6 (by decide)) rfl (fun _ h => h); exact opG_yes rfl rfl e6 (dv (op_move rfl (hA.ev rfl)) hS rfl), ?_⟩
  refine ⟨fun a w hA hS hd => by have e6 := has_ev (hd 6 (by decide)) rfl (fun _ h => h); have e7 := has_ev (hd 7 (by decide)) rfl (fun _ h => h); exact opG_yes rfl rfl e6 (dv (op_lenS rfl un_28 (tmp_ev e7) (SlAt.of_row (hS.ok_row 7 rfl))) hS rfl), ?_⟩
  refine ⟨fun a w hA hS hd => by have e6 := has_ev (hd 6 (by decide)) rfl (fun _ h => h); have e8 := has_ev (hd 8 (by decide)) rfl (fun _ h => h); exact opG_yes rfl rfl e6 (dv (op_eql rfl (tmp_ev e8) (evc _ _)) hS (by show Value.bool _ = _; simp only [decide_eq_true (show ((2 : Nat) : Int) = 2 from (by decide)), decide_true, decide_false, Bool.not_true, Bool.not_false])), ?_⟩
  refine ⟨fun a w hA hS hd => by have e6 := has_ev (hd 6 (by decide)) rfl (fun _ h => h); have e9 := has_ev (hd 9 (by decide)) rfl (fun _ h => h); exact opG_of rfl (dv (op_pick_t rfl (tmp_ev e6) (tmp_ev e9)) hS rfl), ?_⟩
  refine ⟨fun a w hA hS hd => by have e10 := has_ev (hd 10 (by decide)) rfl (fun _ h => h); exact opG_of rfl (dv (op_move rfl (tmp_ev e10)) hS rfl), ?_⟩
  refine ⟨fun a w hA hS hd => by have e11 := has_ev (hd 11 (by decide)) rfl (fun _ h => h); exact opG_yes rfl rfl e11 (dv (op_move rfl (hA.ev rfl)) hS rfl), ?_⟩
  refine ⟨fun a w hA hS hd => by have e11 := has_ev (hd 11 (by decide)) rfl (fun _ h => h); have e12 := has_ev (hd 12 (by decide)) rfl (fun _ h => h); exact opG_yes rfl rfl e11 (dv (op_indexS rfl un_28 ty_42 (tmp_ev e12) (i := 0) (show _ = Value.int .i64 ((0 : Nat) : Int) from (evc _ _)) (SlAt.of_row (hS.ok_row 7 rfl)) (by decide) (by decide)) hS rfl), ?_⟩
  refine ⟨fun a w hA hS hd => by have e11 := has_ev (hd 11 (by decide)) rfl (fun _ h => h); have e13 := has_ev (hd 13 (by decide)) rfl (fun _ h => h); exact opG_yes rfl rfl e11 (dv (op_loadAE rfl ty_42 (tmp_ev e13) (SlAt.of_row (hS.ok_row 7 rfl)) (pairs_all (by decide)) rfl (by decide)) hS rfl), ?_⟩
  refine ⟨fun a w hA hS hd => by have e11 := has_ev (hd 11 (by decide)) rfl (fun _ h => h); exact opG_yes rfl rfl e11 (dx (op_call rfl en_31 (ev2 (evc _ _) (evc _ _)) (between_ok _ _ _)) hS (fun _ => rfl)), ?_⟩
  refine ⟨fun a w hA hS hd => by have e11 := has_ev (hd 11 (by decide)) rfl (fun _ h => h); have e14 := has_ev (hd 14 (by decide)) rfl (fun _ h => h); have e15 := has_ev (hd 15 (by decide)) rfl (fun _ h => h); exact opG_yes rfl rfl e11 (dv (op_eqlP tw_42 rfl (tmp_ev e14) (tmp_ev e15)) hS (by show Value.bool _ = _; simp only [(show (decide ((((([(2, 2), (3, 5)]).getD 0 (0, 0)).1) : Int) = 2) && decide ((((([(2, 2), (3, 5)]).getD 0 (0, 0)).2) : Int) = 2)) = true from (by first | decide | (rw [low_hot, high_hot]; decide) | (rw [life_hot1, life_hot2]; decide))), decide_true, decide_false, Bool.not_true, Bool.not_false])), ?_⟩
  refine ⟨fun a w hA hS hd => by have e11 := has_ev (hd 11 (by decide)) rfl (fun _ h => h); have e16 := has_ev (hd 16 (by decide)) rfl (fun _ h => h); exact opG_of rfl (dv (op_pick_t rfl (tmp_ev e11) (tmp_ev e16)) hS rfl), ?_⟩
  refine ⟨fun a w hA hS hd => by have e17 := has_ev (hd 17 (by decide)) rfl (fun _ h => h); exact opG_of rfl (dv (op_move rfl (tmp_ev e17)) hS rfl), ?_⟩
  refine ⟨fun a w hA hS hd => by have e18 := has_ev (hd 18 (by decide)) rfl (fun _ h => h); exact opG_yes rfl rfl e18 (dv (op_move rfl (hA.ev rfl)) hS rfl), ?_⟩
  refine ⟨fun a w hA hS hd => by have e18 := has_ev (hd 18 (by decide)) rfl (fun _ h => h); have e19 := has_ev (hd 19 (by decide)) rfl (fun _ h => h); exact opG_yes rfl rfl e18 (dv (op_indexS rfl un_28 ty_42 (tmp_ev e19) (i := 1) (show _ = Value.int .i64 ((1 : Nat) : Int) from (evc _ _)) (SlAt.of_row (hS.ok_row 7 rfl)) (by decide) (by decide)) hS rfl), ?_⟩
  refine ⟨fun a w hA hS hd => by have e18 := has_ev (hd 18 (by decide)) rfl (fun _ h => h); have e20 := has_ev (hd 20 (by decide)) rfl (fun _ h => h); exact opG_yes rfl rfl e18 (dv (op_loadAE rfl ty_42 (tmp_ev e20) (SlAt.of_row (hS.ok_row 7 rfl)) (pairs_all (by decide)) rfl (by decide)) hS rfl), ?_⟩
  refine ⟨fun a w hA hS hd => by have e18 := has_ev (hd 18 (by decide)) rfl (fun _ h => h); exact opG_yes rfl rfl e18 (dx (op_call rfl en_31 (ev2 (evc _ _) (evc _ _)) (between_ok _ _ _)) hS (fun _ => rfl)), ?_⟩
  refine ⟨fun a w hA hS hd => by have e18 := has_ev (hd 18 (by decide)) rfl (fun _ h => h); have e21 := has_ev (hd 21 (by decide)) rfl (fun _ h => h); have e22 := has_ev (hd 22 (by decide)) rfl (fun _ h => h); exact opG_yes rfl rfl e18 (dv (op_eqlP tw_42 rfl (tmp_ev e21) (tmp_ev e22)) hS (by show Value.bool _ = _; simp only [(show (decide ((((([(2, 2), (3, 5)]).getD 1 (0, 0)).1) : Int) = 3) && decide ((((([(2, 2), (3, 5)]).getD 1 (0, 0)).2) : Int) = 5)) = true from (by first | decide | (rw [low_hot, high_hot]; decide) | (rw [life_hot1, life_hot2]; decide))), decide_true, decide_false, Bool.not_true, Bool.not_false])), ?_⟩
  refine ⟨fun a w hA hS hd => by have e18 := has_ev (hd 18 (by decide)) rfl (fun _ h => h); have e23 := has_ev (hd 23 (by decide)) rfl (fun _ h => h); exact opG_of rfl (dv (op_pick_t rfl (tmp_ev e18) (tmp_ev e23)) hS rfl), ?_⟩
  refine ⟨fun a w hA hS hd => by have e24 := has_ev (hd 24 (by decide)) rfl (fun _ h => h); exact opG_of rfl (dv (op_move rfl (tmp_ev e24)) hS rfl), ?_⟩
  refine ⟨fun a w hA hS hd => by have e25 := has_ev (hd 25 (by decide)) rfl (fun _ h => h); exact opG_yes rfl rfl e25 (dv (op_move rfl (hA.ev rfl)) hS rfl), ?_⟩
  refine ⟨fun a w hA hS hd => by have e25 := has_ev (hd 25 (by decide)) rfl (fun _ h => h); have e26 := has_ev (hd 26 (by decide)) rfl (fun _ h => h); exact opG_yes rfl rfl e25 (dv (op_eql rfl (tmp_ev e26) (evc _ _)) hS rfl), ?_⟩
  refine ⟨fun a w hA hS hd => by have e25 := has_ev (hd 25 (by decide)) rfl (fun _ h => h); have e27 := has_ev (hd 27 (by decide)) rfl (fun _ h => h); exact opG_of rfl (dv (op_pick_t rfl (tmp_ev e25) (tmp_ev e27)) hS rfl), ?_⟩
  refine ⟨fun a w hA hS hd => by have e28 := has_ev (hd 28 (by decide)) rfl (fun _ h => h); exact opG_of rfl (dv (op_move rfl (tmp_ev e28)) hS rfl), ?_⟩
  refine ⟨fun a w hA hS hd => by have e29 := has_ev (hd 29 (by decide)) rfl (fun _ h => h); exact opG_yes rfl rfl e29 (dv (op_loadA rfl ty_42 (hA.ev rfl) (hS.bk 3 rfl) (l := [(Value.int .i64 (stLo hotP (leastR hotR madeR hotP))), (Value.int .i64 (stHi hotP (mostR hotR madeR hotP)))]) rfl rfl) hS rfl), ?_⟩
  refine ⟨fun a w hA hS hd => by have e29 := has_ev (hd 29 (by decide)) rfl (fun _ h => h); exact opG_yes rfl rfl e29 (dx (op_call rfl en_31 (ev2 (evc _ _) (evc _ _)) (between_ok _ _ _)) hS (fun _ => rfl)), ?_⟩
  refine ⟨fun a w hA hS hd => by have e29 := has_ev (hd 29 (by decide)) rfl (fun _ h => h); have e30 := has_ev (hd 30 (by decide)) rfl (fun _ h => h); have e31 := has_ev (hd 31 (by decide)) rfl (fun _ h => h); exact opG_yes rfl rfl e29 (dv (op_eqlP tw_42 rfl (tmp_ev e30) (tmp_ev e31)) hS (by show Value.bool _ = _; simp only [(show (decide (((stLo hotP (leastR hotR madeR hotP)) : Int) = 2030) && decide (((stHi hotP (mostR hotR madeR hotP)) : Int) = 2100)) = true from (by first | decide | (rw [low_hot, high_hot]; decide) | (rw [life_hot1, life_hot2]; decide))), decide_true, decide_false, Bool.not_true, Bool.not_false])), ?_⟩
  refine ⟨fun a w hA hS hd => by have e29 := has_ev (hd 29 (by decide)) rfl (fun _ h => h); have e32 := has_ev (hd 32 (by decide)) rfl (fun _ h => h); exact opG_of rfl (dv (op_pick_t rfl (tmp_ev e29) (tmp_ev e32)) hS rfl), ?_⟩
  refine ⟨fun a w hA hS hd => by have e33 := has_ev (hd 33 (by decide)) rfl (fun _ h => h); exact opG_of rfl (dv (op_move rfl (tmp_ev e33)) hS rfl), ?_⟩
  refine ⟨fun a w hA hS hd => by have e34 := has_ev (hd 34 (by decide)) rfl (fun _ h => h); exact opG_yes rfl rfl e34 (dv (op_move rfl (hA.ev rfl)) hS rfl), ?_⟩
  refine ⟨fun a w hA hS hd => by have e34 := has_ev (hd 34 (by decide)) rfl (fun _ h => h); have e35 := has_ev (hd 35 (by decide)) rfl (fun _ h => h); exact opG_yes rfl rfl e34 (dv (op_eql rfl (tmp_ev e35) (evc _ _)) hS rfl), ?_⟩
  refine ⟨fun a w hA hS hd => by have e34 := has_ev (hd 34 (by decide)) rfl (fun _ h => h); have e36 := has_ev (hd 36 (by decide)) rfl (fun _ h => h); exact opG_of rfl (dv (op_pick_t rfl (tmp_ev e34) (tmp_ev e36)) hS rfl), ?_⟩
  refine ⟨fun a w hA hS hd => by have e37 := has_ev (hd 37 (by decide)) rfl (fun _ h => h); exact opG_of rfl (dv (op_move rfl (tmp_ev e37)) hS rfl), ?_⟩
  refine ⟨fun a w hA hS hd => by have e38 := has_ev (hd 38 (by decide)) rfl (fun _ h => h); exact opG_yes rfl rfl e38 (dv (op_loadA rfl ty_42 (hA.ev rfl) (hS.bk 0 rfl) (l := [(Value.int .i64 ((lifeR (allowedF hotR madeR) (1 : Int).toNat 1000).1)), (Value.int .i64 ((lifeR (allowedF hotR madeR) (1 : Int).toNat 1000).2))]) rfl rfl) hS rfl), ?_⟩
  refine ⟨fun a w hA hS hd => by have e38 := has_ev (hd 38 (by decide)) rfl (fun _ h => h); exact opG_yes rfl rfl e38 (dx (op_call rfl en_31 (ev2 (evc _ _) (evc _ _)) (between_ok _ _ _)) hS (fun _ => rfl)), ?_⟩
  trivial
 intro a130 w131 hA132 hS133 hH134; clear hA128 hS124
 have hA135 := hA132.add (has_ev (hH134 38 (by decide)) rfl (fun _ h => h)); clear hA132
 have hA136 := hA135.add (has_ev (hH134 39 (by decide)) rfl (fun _ h => h)); clear hA135
 have hA137 := hA136.add (has_ev (hH134 40 (by decide)) rfl (fun _ h => h)); clear hA136
 clear hH134
 refine stg hA137 (op_eqlP tw_42 rfl (hA137.ev rfl) (hA137.ev rfl)) rfl rfl rfl rfl (by decide) fun a138 hA139 => ?_; clear hA137 a130
 have hd140 : (decide ((((lifeR (allowedF hotR madeR) (1 : Int).toNat 1000).1) : Int) = 200) && decide ((((lifeR (allowedF hotR madeR) (1 : Int).toNat 1000).2) : Int) = 334)) = true := (by first | decide | (rw [low_hot, high_hot]; decide) | (rw [life_hot1, life_hot2]; decide))
 rw [hd140] at hA139
 have hq141 := hd140; simp only [Bool.and_eq_true, Bool.and_eq_false_iff, decide_eq_true_eq, decide_eq_false_iff_not] at hq141
 refine st hA139 (op_pick_t rfl (hA139.ev rfl) (hA139.ev rfl)) rfl rfl (by decide) fun a142 hA143 => ?_; clear hA139 a138
 refine st hA143 (op_assign rfl (hA143.ev rfl)) rfl rfl (by decide) fun a144 hA145 => ?_; clear hA143 a142
 refine wl_nil ?_
 refine then_n ?_
 refine c_ret ?_
 refine fin_run hA145 (.inl rfl) (run_results1 hA145 rfl (.tmp rfl)) ?_
 exact ⟨rfl, hS133.ext⟩
end Go.Proofs.Ytkkglkdnnfegkaa

namespace Go.Proofs.Ytkkglkdnnfegkaa
open Go.RowKit Go.Eng
end Go.Proofs.Ytkkglkdnnfegkaa

namespace Go.Proofs.Ytkkglkdnnfegkaa
open Go.RowKit Go.Shelf Go.Eng
theorem en_16 : ∀ args w, (callFunc 16 args).run Try.prog w = .ok (.enter 16 args) w := enters_of Try.func16 (by kernel_rfl) rfl
theorem en_17 : ∀ args w, (callFunc 17 args).run Try.prog w = .ok (.enter 17 args) w := enters_of Try.func17 (by kernel_rfl) rfl
theorem en_19 : ∀ args w, (callFunc 19 args).run Try.prog w = .ok (.enter 19 args) w := enters_of Try.func19 (by kernel_rfl) rfl
theorem en_20 : ∀ args w, (callFunc 20 args).run Try.prog w = .ok (.enter 20 args) w := enters_of Try.func20 (by kernel_rfl) rfl
theorem en_61 : ∀ args w, (callFunc 61 args).run Try.prog w = .ok (.enter 61 args) w := enters_of Try.func61 (by kernel_rfl) rfl
theorem ze_54 : (Try.prog.info? 54).bind (·.zero) = some (Value.agg #[(Value.slice none 0 0), (Value.int .i64 0), (Value.int .i64 0)]) := by kernel_rfl
theorem bs_54_1_0viia (x0_0 : Value) (x0_1 : Int) (x0_2 : Int) : Instr.fill (fun i => some (i * 3, 3)) ((Array.range (1 * 3)).map ((Value.agg #[(Value.slice none 0 0), (Value.int .i64 0), (Value.int .i64 0)]).cells[· % (Value.agg #[(Value.slice none 0 0), (Value.int .i64 0), (Value.int .i64 0)]).cells.size]!)) [(0, .agg #[x0_0, (.int .i64 x0_1), (.int .i64 x0_2)])] = some (([x0_0, (.int .i64 x0_1), (.int .i64 x0_2)] : List Value).toArray) := by kernel_rfl
theorem el_54 : elK Try.prog 54 = some ((Value.agg #[(Value.slice none 0 0), (Value.int .i64 0), (Value.int .i64 0)]), 3, 40) := by kernel_rfl
theorem en_95 : ∀ args w, (callFunc 95 args).run Try.prog w = .ok (.enter 95 args) w := enters_of Try.func95 (by kernel_rfl) rfl
theorem en_76 : ∀ args w, (callFunc 76 args).run Try.prog w = .ok (.enter 76 args) w := enters_of Try.func76 (by kernel_rfl) rfl
theorem en_75 : ∀ args w, (callFunc 75 args).run Try.prog w = .ok (.enter 75 args) w := enters_of Try.func75 (by kernel_rfl) rfl
theorem en_74 : ∀ args w, (callFunc 74 args).run Try.prog w = .ok (.enter 74 args) w := enters_of Try.func74 (by kernel_rfl) rfl
theorem ty_38 : tyK Try.prog 38 = some (false, 1) := by kernel_rfl
theorem en_73 : ∀ args w, (callFunc 73 args).run Try.prog w = .ok (.enter 73 args) w := enters_of Try.func73 (by kernel_rfl) rfl
theorem en_72 : ∀ args w, (callFunc 72 args).run Try.prog w = .ok (.enter 72 args) w := enters_of Try.func72 (by kernel_rfl) rfl
theorem ty_120 : tyK Try.prog 120 = some (false, 1) := by kernel_rfl
theorem en_71 : ∀ args w, (callFunc 71 args).run Try.prog w = .ok (.enter 71 args) w := enters_of Try.func71 (by kernel_rfl) rfl
theorem ze_38 : (Try.prog.info? 38).bind (·.zero) = some (Value.slice none 0 0) := by kernel_rfl
theorem ze_120 : (Try.prog.info? 120).bind (·.zero) = some Value.nilFunc := by kernel_rfl
theorem en_43 : ∀ args w, (callFunc 43 args).run Try.prog w = .ok (.enter 43 args) w := enters_of Try.func43 (by kernel_rfl) rfl
theorem en_46 : ∀ args w, (callFunc 46 args).run Try.prog w = .ok (.enter 46 args) w := enters_of Try.func46 (by kernel_rfl) rfl
theorem en_44 : ∀ args w, (callFunc 44 args).run Try.prog w = .ok (.enter 44 args) w := enters_of Try.func44 (by kernel_rfl) rfl
theorem un_126 : Try.prog.underlying 126 = some (.int .u64) := by kernel_rfl
theorem en_77 : ∀ args w, (callFunc 77 args).run Try.prog w = .ok (.enter 77 args) w := enters_of Try.func77 (by kernel_rfl) rfl
theorem en_45 : ∀ args w, (callFunc 45 args).run Try.prog w = .ok (.enter 45 args) w := enters_of Try.func45 (by kernel_rfl) rfl
end Go.Proofs.Ytkkglkdnnfegkaa

namespace Go.Proofs.Ytkkglkdnnfegkaa
open Go.RowKit Go.Eng
def lstRo (lv : List Value) (ls : List (List Int)) : Res where
  S := (lstR lv ls).S
  p := (lstR lv ls).p
  own := false
  stable := (lstR lv ls).stable
  lt := (lstR lv ls).lt
end Go.Proofs.Ytkkglkdnnfegkaa

namespace Go.Proofs.Ytkkglkdnnfegkaa
open Go.RowKit Go.Eng
end Go.Proofs.Ytkkglkdnnfegkaa

namespace Go.Proofs.Ytkkglkdnnfegkaa
open Go.RowKit Go.Shelf Go.Eng
end Go.Proofs.Ytkkglkdnnfegkaa

namespace Go.Proofs.Ytkkglkdnnfegkaa
open Go.RowKit Go.Eng
end Go.Proofs.Ytkkglkdnnfegkaa

namespace Go.Proofs.Ytkkglkdnnfegkaa
open Go.RowKit Go.Shelf Go.Eng
end Go.Proofs.Ytkkglkdnnfegkaa

namespace Go.Proofs.Ytkkglkdnnfegkaa
open Go.RowKit Go.Shelf Go.Eng
end Go.Proofs.Ytkkglkdnnfegkaa

namespace Go.Proofs.Ytkkglkdnnfegkaa
open Go.RowKit Go.Eng
theorem getD_memL {A : List (List Int)} {k : Nat} (h : k < A.length) : A.getD k [] ∈ A := by
  simp only [List.getD, List.getElem?_eq_getElem h, Option.getD_some]
  exact List.getElem_mem h
theorem mem_getD {A : List (List Int)} {l : List Int} (h : l ∈ A) : ∃ k, k < A.length ∧ A.getD k [] = l := by
  obtain ⟨k, hk, e⟩ := List.mem_iff_getElem.1 h
  exact ⟨k, hk, by simp [List.getD, hk, e]⟩
section
variable {R : List (Int × Int)} {rs : List RunD} {plan : List Seg} (hR : MatV R) (hV : RunsV R.length rs) (hpos : 0 < (allowedF R rs).length) (hs : ∀ i, i < plan.length → SegV R.length (plan.getD i (0, 0, 0)))
include hR hV hpos hs
omit hs
end
end Go.Proofs.Ytkkglkdnnfegkaa

namespace Go.Proofs.Ytkkglkdnnfegkaa
open Go.RowKit Go.Eng
end Go.Proofs.Ytkkglkdnnfegkaa

namespace Go.Proofs.Ytkkglkdnnfegkaa
open Go.RowKit Go.Eng
def Sub (A B : List (List Int)) : Prop := ∀ k, k < A.length → ∃ j, j < B.length ∧ A.getD k [] = B.getD j []
section
variable {R : List (Int × Int)} {rs rs' : List RunD} (hpos : 0 < (allowedF R rs').length) (hsub : Sub (allowedF R rs') (allowedF R rs))
include hpos hsub
end
end Go.Proofs.Ytkkglkdnnfegkaa

namespace Go.Proofs.Ytkkglkdnnfegkaa
open Go.RowKit Go.Eng
end Go.Proofs.Ytkkglkdnnfegkaa

namespace Go.Proofs.Ytkkglkdnnfegkaa
open Go.RowKit Go.Shelf Go.Eng
theorem clone_int (xs : List Int) (v : Value) (w : World) (hv : SlAt w v 1 xs.length (ints xs)) (hlen : xs.length ≤ 1000000) :
  Calls Try.prog 61 #[v] w (Ret fun v w' => Ext NoB w w' ∧ w'.ownsRow w.heap.size 3 1 v xs.length (ints xs)) := by
 refine calls_enter Try.func61 rfl fun a0 hA0 => ?_
 replace hA0 : Fr 8 [] [(0, v)] a0 := hA0
 have hS0 : Sep NoB w w [(sl v 1 xs.length (ints xs))] := sep_ro ⟨rfl, hv, trivial⟩
 refine c_seq ?_
 refine c_region ?_
 refine st hA0 (op_assign rfl (evc _ _)) rfl rfl (by decide) fun a1 hA2 => ?_; clear hA0 a0
 refine wl_nil ?_
 refine then_n ?_
 refine c_seq ?_
 refine c_seq ?_
 refine c_region ?_
 refine st hA2 (op_move rfl (hA2.ev rfl)) rfl rfl (by decide) fun a3 hA4 => ?_; clear hA2 a1
 refine stw hA4 (op_eqlNil un_40 rfl (hA4.ev rfl) (evc _ _) (hS0.sk 0 rfl) (by decide)) rfl rfl (by decide) ?_
 rintro a5 _ _ ⟨bn7, rfl, rfl, hn8⟩ hA6; clear hA4 a3
 refine wl_nil ?_
 refine then_n ?_
 rcases Bool.eq_false_or_eq_true (bn7) with hb9 | hb9
 ·skip
  rw [hb9] at hA6
  refine c_true hA6 rfl ?_
  refine c_seq ?_
  refine c_region ?_
  refine st hA6 (op_assign rfl (evc _ _)) rfl rfl (by decide) fun a10 hA11 => ?_; clear hA6 a5
  refine wl_nil ?_
  refine then_n ?_
  refine c_ret ?_
  refine then_ret ?_
  refine fin_run hA11 (.inl rfl) (run_results1 hA11 rfl (.tmp rfl)) ?_
  exact ⟨hS0.ext, by have hz := (hn8 (by assumption)); rw [hz.1, hz.2]; exact ⟨by simp, .inl ⟨rfl, rfl⟩⟩⟩
 ·skip
  rw [hb9] at hA6
  refine c_false hA6 rfl ?_
  refine c_skip ?_
  refine then_n ?_
  refine c_seq ?_
  refine c_region ?_
  refine stw hA6 (op_buildSlice hS0 rfl pv0 un_40 ty_3 ze_3 (by decide) (cs := []) bs_3_0_) rfl rfl (by decide) ?_
  rintro a12 _ w14 ⟨b15, rfl, hS16⟩ hA13; clear hA6 hS0 a5
  refine st hA13 (op_move rfl (hA13.ev rfl)) rfl rfl (by decide) fun a17 hA18 => ?_; clear hA13 a12
  have hS19 := hS16.blk_row (i := 0) (sz := 1) (n := 0) rfl rfl (by decide); clear hS16
  refine stw hA18 (op_append hS19 rfl un_40 el_3 (hA18.ev rfl) (hA18.ev rfl) (i := 0) rfl (hS19.sk 1 rfl) (ints_one _) (by simp only [maxLen]; omega) (by omega)) rfl rfl (by decide) ?_
  intro a20 v23 w22 hS24 hA21
  have hS25 := hS24.row_say (i := 0) rfl (n' := xs.length) (xs' := (ints xs)) (by simp) (by simp); clear hS24 hA18 hS19 a17
  refine st hA21 (op_assign rfl (hA21.ev rfl)) rfl rfl (by decide) fun a26 hA27 => ?_; clear hA21 a20
  refine wl_nil ?_
  refine then_n ?_
  refine c_ret ?_
  refine fin_run hA27 (.inl rfl) (run_results1 hA27 rfl (.tmp rfl)) ?_
  exact ⟨hS25.ext, hS25.row_new (i := 0) rfl⟩
end Go.Proofs.Ytkkglkdnnfegkaa

namespace Go.Proofs.Ytkkglkdnnfegkaa
open Go.RowKit Go.Eng
section
variable {lv : List Value} {rs : List RunD} {i : Nat} (hl : lv.length = rs.length) (h : i < rs.length)
include hl h
end
end Go.Proofs.Ytkkglkdnnfegkaa
namespace Go.Eng
open Go.RowKit Go.Eng
open Go.Proofs.Ytkkglkdnnfegkaa
section
variable {X : Nat → Prop} {w0 w : World} {L : List Res}
theorem Sep.row_sl {i : Nat} {v : Value} {e sz n : Nat} {xs : List Value} (h : Eng.Sep X w0 w L) (hi : L[i]? = some (row v e sz n xs)) : Eng.Sep X w0 w (L.set i (sl v sz n xs)) :=
  h.say hi (SlAt.of_row (h.ok_row i hi)) (fun _ hb => slFoot_row hb) (fun he => by cases he)
end
end Go.Eng
namespace Go.Proofs.Ytkkglkdnnfegkaa
open Go.RowKit Go.Eng
end Go.Proofs.Ytkkglkdnnfegkaa

namespace Go.Proofs.Ytkkglkdnnfegkaa
open Go.RowKit Go.Eng
end Go.Proofs.Ytkkglkdnnfegkaa

namespace Go.Proofs.Ytkkglkdnnfegkaa
open Go.RowKit Go.Eng
section
variable {plan : List Seg} {k : Nat} {y : Int} (hk : k < plan.length)
include hk
end
end Go.Proofs.Ytkkglkdnnfegkaa

namespace Go.Proofs.Ytkkglkdnnfegkaa
open Go.RowKit Go.Eng
end Go.Proofs.Ytkkglkdnnfegkaa

namespace Go.Proofs.Ytkkglkdnnfegkaa
open Go.RowKit Go.Eng
def setsF (nb : Nat) : Nat → List Int → Nat → List (List Int)
  | 0, l, _ => [l]
  | m + 1, l, next => (List.range' next (nb - next)).flatMap fun (k : Nat) => setsF nb m (l ++ [(k : Int)]) (k + 1)
def setsUpto (nb m : Nat) (l : List Int) (next k : Nat) : List (List Int) := (List.range' next (k - next)).flatMap fun (k : Nat) => setsF nb m (l ++ [(k : Int)]) (k + 1)
theorem setsUpto_self (nb m : Nat) (l : List Int) (next : Nat) : setsUpto nb m l next next = [] := by simp [setsUpto]
theorem setsUpto_succ (nb m : Nat) (l : List Int) (next k : Nat) (h : next ≤ k) : setsUpto nb m l next (k + 1) = setsUpto nb m l next k ++ setsF nb m (l ++ [(k : Int)]) (k + 1) := by
  unfold setsUpto
  rw [show k + 1 - next = (k - next) + 1 by omega, List.range'_1_concat, List.flatMap_append, show next + (k - next) = k by omega]
  simp
theorem setsUpto_all (nb m : Nat) (l : List Int) (next k : Nat) (h1 : k = next ∨ k ≤ nb) (h2 : nb ≤ k) : setsUpto nb m l next k = setsF nb (m + 1) l next := by
  rw [setsF]; unfold setsUpto
  rw [show k - next = nb - next by omega]
theorem setsUpto_pre (nb m : Nat) (l : List Int) (next k : Nat) (h : next ≤ k) : ∀ n, ∃ rest, setsUpto nb m l next (k + n) = setsUpto nb m l next k ++ rest
  | 0 => ⟨[], by simp⟩
  | n + 1 => by
    obtain ⟨rest, e⟩ := setsUpto_pre nb m l next k h n
    exact ⟨rest ++ setsF nb m (l ++ [((k + n : Nat) : Int)]) (k + n + 1), by rw [← Nat.add_assoc, setsUpto_succ nb m l next (k + n) (by omega), e, List.append_assoc]⟩
theorem sets_split (nb m : Nat) (l : List Int) (next k : Nat) (h : next ≤ k) (h1 : k < nb) : ∃ rest, setsF nb (m + 1) l next = setsUpto nb m l next k ++ (setsF nb m (l ++ [(k : Int)]) (k + 1) ++ rest) := by
  obtain ⟨rest, e⟩ := setsUpto_pre nb m l next (k + 1) (by omega) (nb - (k + 1))
  refine ⟨rest, ?_⟩
  rw [← setsUpto_all nb m l next nb (.inr (Nat.le_refl _)) (Nat.le_refl _), ← List.append_assoc, ← setsUpto_succ nb m l next k h, ← e, show k + 1 + (nb - (k + 1)) = nb by omega]
theorem setsF_each (nb : Nat) : ∀ (m : Nat) (l : List Int) (next : Nat) (z : List Int), z ∈ setsF nb m l next → ∃ ys, z = l ++ ys ∧ ys.length = m ∧ (∀ y ∈ ys, (next : Int) ≤ y ∧ y ≤ (nb : Int) - 1) ∧ ys.Pairwise (· < ·)
  | 0, l, next, z, h => by
    rw [setsF, List.mem_singleton] at h
    exact ⟨[], by rw [h, List.append_nil], rfl, by simp, List.Pairwise.nil⟩
  | m + 1, l, next, z, h => by
    rw [setsF, List.mem_flatMap] at h
    obtain ⟨k, hk, hz⟩ := h
    rw [List.mem_range'_1] at hk
    obtain ⟨ys, e, hl, hb, hp⟩ := setsF_each nb m (l ++ [(k : Int)]) (k + 1) z hz
    refine ⟨(k : Int) :: ys, by rw [e, List.append_assoc]; rfl, by simp [hl], fun y hy => ?_, List.pairwise_cons.2 ⟨fun y hy => by have := hb y hy; omega, hp⟩⟩
    rcases List.mem_cons.1 hy with rfl | hy
    · omega
    · have := hb y hy; omega
theorem setsF_mem (nb : Nat) : ∀ (ys l : List Int) (next : Nat), (∀ y ∈ ys, (next : Int) ≤ y ∧ y ≤ (nb : Int) - 1) → ys.Pairwise (· < ·) → l ++ ys ∈ setsF nb ys.length l next
  | [], l, next, _, _ => by simp [setsF]
  | y :: ys, l, next, hb, hp => by
    have hy := hb y (List.mem_cons_self ..)
    rw [List.length_cons, setsF, List.mem_flatMap]
    refine ⟨y.toNat, List.mem_range'_1.2 ⟨by omega, by omega⟩, ?_⟩
    have e : ((y.toNat : Nat) : Int) = y := by omega
    rw [e]
    have := setsF_mem nb ys (l ++ [y]) (y.toNat + 1) (fun z hz => by
      have h1 := (List.pairwise_cons.1 hp).1 z hz
      have h2 := hb z (List.mem_cons_of_mem _ hz)
      omega) (List.pairwise_cons.1 hp).2
    rwa [List.append_assoc] at this
def hasB (l : List Int) (k : Int) : Bool := (List.range l.length).any fun i => decide (k = l.getD i 0)
theorem hasB_iff {l : List Int} {k : Int} : hasB l k = true ↔ k ∈ l := by
  unfold hasB
  rw [List.any_eq_true]
  constructor
  · rintro ⟨i, hi, h⟩
    rw [List.mem_range] at hi
    rw [of_decide_eq_true h]
    simp only [List.getD, List.getElem?_eq_getElem hi, Option.getD_some]
    exact List.getElem_mem hi
  · intro h
    obtain ⟨i, hi, e⟩ := List.getElem_of_mem h
    exact ⟨i, List.mem_range.2 hi, decide_eq_true (by simp [List.getD, hi, e])⟩
def coverB (a l : List Int) : Bool := (List.range a.length).all fun i => hasB l (a.getD i 0)
def okB (A : List (List Int)) (l : List Int) : Bool := (List.range A.length).any fun i => coverB (A.getD i []) l
def leaveB (nb : Nat) (A : List (List Int)) (m : Nat) (l : List Int) (next : Nat) : Bool := (setsF nb m l next).any (okB A)
section
variable {nb m next k : Nat} {A : List (List Int)} {l : List Int}
theorem find_app {p : List Int → Bool} : ∀ {x y : List (List Int)}, x.any p = false → (x ++ y).find? p = y.find? p
  | [], _, _ => rfl
  | a :: x, y, h => by
    simp only [List.any_cons, Bool.or_eq_false_iff] at h
    rw [List.cons_append, List.find?_cons, h.1]
    exact find_app h.2
theorem find_app2 {p : List Int → Bool} {z : List Int} : ∀ {x y : List (List Int)}, x.find? p = some z → (x ++ y).find? p = some z
  | [], _, h => by cases h
  | a :: x, y, h => by
    rw [List.cons_append, List.find?_cons]
    rw [List.find?_cons] at h
    split <;> rename_i hp
    · rw [hp] at h; exact h
    · rw [hp] at h; exact find_app2 h
theorem leave_hit {z : List Int} (h : next ≤ k) (h1 : k < nb) (hn : (setsUpto nb m l next k).any (okB A) = false) (hy : leaveB nb A m (l ++ [(k : Int)]) (k + 1) = true) (hf : (setsF nb m (l ++ [(k : Int)]) (k + 1)).find? (okB A) = some z) :
    leaveB nb A (m + 1) l next = true ∧ (setsF nb (m + 1) l next).find? (okB A) = some z := by
  obtain ⟨rest, e⟩ := sets_split nb m l next k h h1
  unfold leaveB at hy ⊢
  rw [e, find_app hn]
  exact ⟨by rw [List.any_append, List.any_append, hy]; simp, find_app2 hf⟩
theorem leave_go (h : next ≤ k) (hn : (setsUpto nb m l next k).any (okB A) = false) (hy : leaveB nb A m (l ++ [(k : Int)]) (k + 1) = false) : (setsUpto nb m l next (k + 1)).any (okB A) = false := by
  rw [setsUpto_succ nb m l next k h, List.any_append, hn]
  unfold leaveB at hy; rw [hy]; rfl
theorem leave_end (h1 : k = next ∨ k ≤ nb) (h2 : nb ≤ k) (hn : (setsUpto nb m l next k).any (okB A) = false) : leaveB nb A (m + 1) l next = false := by
  unfold leaveB; rw [← setsUpto_all nb m l next k h1 h2]; exact hn
theorem leave_0 : leaveB nb A 0 l next = okB A l := by simp [leaveB, setsF]
theorem find_0 (h : okB A l = true) : (setsF nb 0 l next).find? (okB A) = some l := by simp [setsF, h]
end
def allUpto (nb k : Nat) : List (List Int) := (List.range k).flatMap fun m => setsF nb m [] 0
theorem allUpto_succ (nb k : Nat) : allUpto nb (k + 1) = allUpto nb k ++ setsF nb k [] 0 := by
  unfold allUpto; rw [List.range_succ, List.flatMap_append]; simp
theorem allUpto_pre (nb k : Nat) : ∀ n, ∃ rest, allUpto nb (k + n) = allUpto nb k ++ rest
  | 0 => ⟨[], by simp⟩
  | n + 1 => by
    obtain ⟨rest, e⟩ := allUpto_pre nb k n
    exact ⟨rest ++ setsF nb (k + n) [] 0, by rw [← Nat.add_assoc, allUpto_succ, e, List.append_assoc]⟩
def agU (rs : List RunD) (r : List Int) (k : Nat) : List Int := ((List.range k).filter fun i => !allowsB (rs.getD i run0) r).map fun (i : Nat) => (i : Int)
theorem agU_y {rs : List RunD} {r : List Int} {k : Nat} (h : allowsB (rs.getD k run0) r = false) : agU rs r (k + 1) = agU rs r k ++ [(k : Int)] := by
  unfold agU; rw [List.range_succ, List.filter_append, List.map_append, List.filter_cons, if_pos (by rw [h]; rfl)]; rfl
theorem agU_n {rs : List RunD} {r : List Int} {k : Nat} (h : allowsB (rs.getD k run0) r = true) : agU rs r (k + 1) = agU rs r k := by
  unfold agU; rw [List.range_succ, List.filter_append, List.map_append, List.filter_cons, if_neg (by rw [h]; decide)]; simp
theorem agU_len (rs : List RunD) (r : List Int) (k : Nat) : (agU rs r k).length ≤ k := by
  unfold agU; rw [List.length_map]; exact Nat.le_trans (List.length_filter_le ..) (by simp)
def againstF (R : List (Int × Int)) (rs : List RunD) : List (List Int) := (listsF R).map fun r => agU rs r rs.length
theorem against_len (R : List (Int × Int)) (rs : List RunD) : (againstF R rs).length = (listsF R).length := by simp [againstF]
theorem against_succ {R : List (Int × Int)} {rs : List RunD} {q : Nat} (h : q < (listsF R).length) : (againstF R rs).take q ++ [agU rs ((listsF R).getD q []) rs.length] = (againstF R rs).take (q + 1) := by
  have e : (againstF R rs)[q]? = some (agU rs ((listsF R).getD q []) rs.length) := by
    simp [againstF, List.getD, h]
  rw [List.take_add_one, e]; rfl
theorem against_at {R : List (Int × Int)} {rs : List RunD} {i : Nat} (h : i < (listsF R).length) : (againstF R rs).getD i [] = agU rs ((listsF R).getD i []) rs.length := by
  simp [againstF, List.getD, h]
def doubtF (R : List (Int × Int)) (rs : List RunD) : List Int := ((allUpto rs.length (rs.length + 1)).find? (okB (againstF R rs))).getD []
theorem mem_agU {rs : List RunD} {r : List Int} {k : Nat} {x : Int} : x ∈ agU rs r k ↔ ∃ i : Nat, i < k ∧ x = (i : Int) ∧ allowsB (rs.getD i run0) r = false := by
  unfold agU
  rw [List.mem_map]
  constructor
  · rintro ⟨i, hi, e⟩
    rw [List.mem_filter, List.mem_range] at hi
    exact ⟨i, hi.1, e.symm, by cases hb : allowsB (rs.getD i run0) r with
      | false => rfl
      | true => rw [hb] at hi; exact absurd hi.2 (by decide)⟩
  · rintro ⟨i, hi, e, h⟩
    exact ⟨i, List.mem_filter.2 ⟨List.mem_range.2 hi, by rw [h]; rfl⟩, e.symm⟩
theorem cover_iff {a l : List Int} : coverB a l = true ↔ ∀ x ∈ a, x ∈ l := by
  unfold coverB
  rw [List.all_eq_true]
  constructor
  · intro h x hx
    obtain ⟨i, hi, e⟩ := List.getElem_of_mem hx
    have := hasB_iff.1 (h i (List.mem_range.2 hi))
    rwa [show a.getD i 0 = x by simp [List.getD, hi, e]] at this
  · intro h i hi
    rw [List.mem_range] at hi
    refine hasB_iff.2 (h _ ?_)
    simp only [List.getD, List.getElem?_eq_getElem hi, Option.getD_some]
    exact List.getElem_mem hi
theorem ok_iff {R : List (Int × Int)} {rs : List RunD} {l : List Int} : okB (againstF R rs) l = true ↔ ∃ r ∈ listsF R, ∀ i, i < rs.length → ((i : Nat) : Int) ∉ l → allowsB (rs.getD i run0) r = true := by
  unfold okB
  rw [List.any_eq_true]
  constructor
  · rintro ⟨q, hq, h⟩
    rw [List.mem_range, against_len] at hq
    rw [against_at hq, cover_iff] at h
    refine ⟨(listsF R).getD q [], getD_memL hq, fun i hi hn => ?_⟩
    cases hb : allowsB (rs.getD i run0) ((listsF R).getD q []) with
    | true => rfl
    | false => exact absurd (h _ (mem_agU.2 ⟨i, hi, rfl, hb⟩)) hn
  · rintro ⟨r, hr, h⟩
    obtain ⟨q, hq, e⟩ := mem_getD hr
    refine ⟨q, List.mem_range.2 (by rw [against_len]; exact hq), ?_⟩
    rw [against_at hq, cover_iff]
    intro x hx
    obtain ⟨i, hi, rfl, hb⟩ := mem_agU.1 hx
    by_cases hm : ((i : Nat) : Int) ∈ l
    · exact hm
    · rw [e, h i hi hm] at hb; cases hb
def numsF (n : Nat) : List Int := (List.range n).map fun (i : Nat) => (i : Int)
theorem nums_sets (n : Nat) : numsF n ∈ setsF n n [] 0 := by
  have h := setsF_mem n (numsF n) [] 0 (fun y hy => by
    obtain ⟨i, hi, rfl⟩ := List.mem_map.1 hy
    rw [List.mem_range] at hi; omega) (by
    unfold numsF; rw [List.pairwise_map]
    exact List.pairwise_lt_range.imp (fun h => by omega))
  have e : (numsF n).length = n := by simp [numsF]
  rwa [e, List.nil_append] at h
theorem ok_all {R : List (Int × Int)} {rs : List RunD} (hpos : 0 < (listsF R).length) : leaveB rs.length (againstF R rs) rs.length [] 0 = true := by
  unfold leaveB
  rw [List.any_eq_true]
  refine ⟨numsF rs.length, nums_sets _, ok_iff.2 ⟨(listsF R).getD 0 [], getD_memL hpos, fun i hi hn => ?_⟩⟩
  exact absurd (List.mem_map.2 ⟨i, List.mem_range.2 hi, rfl⟩) hn
theorem doubt_found {R : List (Int × Int)} {rs : List RunD} {k : Nat} {z : List Int} (hk : k ≤ rs.length) (hn : (allUpto rs.length k).any (okB (againstF R rs)) = false) (hf : (setsF rs.length k [] 0).find? (okB (againstF R rs)) = some z) : doubtF R rs = z := by
  unfold doubtF
  obtain ⟨rest, e⟩ := allUpto_pre rs.length (k + 1) (rs.length - k)
  rw [show rs.length + 1 = k + 1 + (rs.length - k) by omega, e, allUpto_succ, List.append_assoc, find_app hn, find_app2 hf]; rfl
theorem all_go {n k : Nat} {A : List (List Int)} (hn : (allUpto n k).any (okB A) = false) (hy : leaveB n A k [] 0 = false) : (allUpto n (k + 1)).any (okB A) = false := by
  rw [allUpto_succ, List.any_append, hn]
  unfold leaveB at hy; rw [hy]; rfl
theorem all_not {R : List (Int × Int)} {rs : List RunD} {k : Nat} (hpos : 0 < (listsF R).length) (hk : rs.length < k) (hn : (allUpto rs.length k).any (okB (againstF R rs)) = false) : False := by
  obtain ⟨rest, e⟩ := allUpto_pre rs.length (rs.length + 1) (k - (rs.length + 1))
  rw [show rs.length + 1 + (k - (rs.length + 1)) = k by omega] at e
  rw [e, allUpto_succ] at hn
  simp only [List.any_append, Bool.or_eq_false_iff] at hn
  have := ok_all (R := R) (rs := rs) hpos
  unfold leaveB at this
  rw [hn.1.2] at this; cases this
theorem doubt_is {R : List (Int × Int)} {rs : List RunD} (hpos : 0 < (listsF R).length) : okB (againstF R rs) (doubtF R rs) = true ∧ (∀ y ∈ doubtF R rs, (0 : Int) ≤ y ∧ y ≤ (rs.length : Int) - 1) ∧ (doubtF R rs).Pairwise (· < ·) ∧ (doubtF R rs).length ≤ rs.length ∧
    (∀ z : List Int, (∀ y ∈ z, (0 : Int) ≤ y ∧ y ≤ (rs.length : Int) - 1) → z.Pairwise (· < ·) → z.length < (doubtF R rs).length → okB (againstF R rs) z = false) := by
  have hex : ∃ k, k ≤ rs.length ∧ leaveB rs.length (againstF R rs) k [] 0 = true ∧ (allUpto rs.length k).any (okB (againstF R rs)) = false := by
    have key : ∀ k, (allUpto rs.length k).any (okB (againstF R rs)) = false ∨ ∃ j, j < k ∧ leaveB rs.length (againstF R rs) j [] 0 = true ∧ (allUpto rs.length j).any (okB (againstF R rs)) = false := by
      intro k
      induction k with
      | zero => exact .inl rfl
      | succ k ih =>
        rcases ih with h | ⟨j, hj, h⟩
        · cases hb : leaveB rs.length (againstF R rs) k [] 0 with
          | true => exact .inr ⟨k, by omega, hb, h⟩
          | false => exact .inl (all_go h hb)
        · exact .inr ⟨j, by omega, h⟩
    rcases key (rs.length + 1) with h | ⟨j, hj, h⟩
    · exact (all_not hpos (Nat.lt_succ_self _) h).elim
    · exact ⟨j, by omega, h⟩
  obtain ⟨k, hk, hy, hn⟩ := hex
  unfold leaveB at hy
  obtain ⟨z0, hz0⟩ : ∃ z, (setsF rs.length k [] 0).find? (okB (againstF R rs)) = some z := by
    exact Option.isSome_iff_exists.1 (by rw [List.find?_isSome]; obtain ⟨x, h1, h2⟩ := List.any_eq_true.1 hy; exact ⟨x, h1, h2⟩)
  have e := doubt_found hk hn hz0
  have h1 := List.find?_some hz0
  obtain ⟨ys, e2, hl, hb, hp⟩ := setsF_each _ _ _ _ _ (List.mem_of_find?_eq_some hz0)
  rw [List.nil_append] at e2
  subst e2
  rw [e]
  refine ⟨h1, fun y hy => by have := hb y hy; omega, hp, by omega, fun z hzb hzp hzl => ?_⟩
  have hm := setsF_mem rs.length z [] 0 (fun y hy => by have := hzb y hy; omega) hzp
  rw [List.nil_append] at hm
  cases hc : okB (againstF R rs) z with
  | false => rfl
  | true =>
    have : (allUpto rs.length k).any (okB (againstF R rs)) = true := List.any_eq_true.2 ⟨z, List.mem_flatMap.2 ⟨z.length, List.mem_range.2 (by omega), hm⟩, hc⟩
    rw [hn] at this; cases this
theorem narrow_len {R : List (Int × Int)} (hR : MatV R) (hw : ∀ i, (R.getD i (0, 0)).2 - (R.getD i (0, 0)).1 ≤ 20) : ∀ (m : Nat) (arr : List Int) (band : Nat), (fromF R m arr band).length ≤ 21 ^ m
  | 0, arr, band => by simp [fromF]
  | m + 1, arr, band => by
    have h1 := hw band
    have hc : cntF R arr band ≤ 21 := by unfold cntF lowF; split <;> omega
    have key : ∀ t, (fromUpto R m arr band t).length ≤ 21 ^ m * t := by
      intro t
      induction t with
      | zero => simp [fromUpto]
      | succ t ih =>
        have h3 := narrow_len hR hw m (arr.set band (lowF R arr band + (t : Int))) (band + 1)
        rw [fromUpto_succ, List.length_append, Nat.mul_succ]; omega
    rw [fromF_end]
    calc _ ≤ 21 ^ m * cntF R arr band := key _
      _ ≤ 21 ^ m * 21 := Nat.mul_le_mul_left _ hc
      _ = 21 ^ (m + 1) := (Nat.pow_succ ..).symm
theorem check_few {R : List (Int × Int)} (h : checkF R = 0) : (listsF R).length ≤ 9261 := by
  have hR := (check_mat h).1
  have hw : ∀ i, (R.getD i (0, 0)).2 - (R.getD i (0, 0)).1 ≤ 20 := fun i => by
    unfold checkF at h
    by_cases h1 : (1 ≤ R.length ∧ R.length ≤ 3) ∧ allRateB R = true
    · by_cases hi : i < R.length
      · have := List.all_eq_true.1 h1.2 i (List.mem_range.2 hi)
        simp only [rateB, Bool.and_eq_true, decide_eq_true_eq] at this
        exact this.2
      · have : R.getD i (0, 0) = (0, 0) := by simp [List.getD, List.getElem?_eq_none (Nat.le_of_not_lt hi)]
        rw [this]; decide
    · rw [if_neg h1] at h; exact absurd h (by decide)
  refine Nat.le_trans (narrow_len hR hw R.length [0, 0, 0] 0) ?_
  calc 21 ^ R.length ≤ 21 ^ 3 := Nat.pow_le_pow_right (by decide) hR.1
    _ = 9261 := by decide
end Go.Proofs.Ytkkglkdnnfegkaa
namespace Go.Eng
open Go.RowKit Go.Eng
open Go.Proofs.Ytkkglkdnnfegkaa
theorem Sep.lst_ro {X : Nat → Prop} {w0 w : World} {L : List Res} {i : Nat} {lv : List Value} {ls : List (List Int)} (h : Eng.Sep X w0 w L) (hi : L[i]? = some (lstR lv ls)) : Eng.Sep X w0 w (L.set i (lstRo lv ls)) :=
  h.say hi (h.ok i _ hi : (lstR lv ls).p w) (fun _ hb => hb) (fun he => by cases he)
end Go.Eng
namespace Go.Proofs.Ytkkglkdnnfegkaa
open Go.RowKit Go.Eng
theorem against_small {R : List (Int × Int)} {rs : List RunD} {n : Nat} (h : rs.length ≤ n) (i : Nat) : ((againstF R rs).getD i []).length ≤ n := by
  by_cases hi : i < (listsF R).length
  · rw [against_at hi]; exact Nat.le_trans (agU_len ..) h
  · have : (againstF R rs).getD i [] = [] := by simp [List.getD, List.getElem?_eq_none (show (againstF R rs).length ≤ i by rw [against_len]; omega)]
    rw [this]; simp
end Go.Proofs.Ytkkglkdnnfegkaa

namespace Go.Proofs.Ytkkglkdnnfegkaa
open Go.RowKit Go.Shelf Go.Eng
theorem index_ok (xs : List Int) (x : Int) (v : Value) (w : World) (hv : SlAt w v 1 xs.length (ints xs)) (hlen : xs.length ≤ 1000000) :
  Calls Try.prog 95 #[v, (Value.int .i64 x)] w (Ret fun v w' => v = .int .i64 (fidx (fun i => decide (x = xs.getD i 0)) xs.length) ∧ Ext NoB w w') := by
 refine calls_enter Try.func95 rfl fun a0 hA0 => ?_
 replace hA0 : Fr 19 [] [(0, v), (1, (Value.int .i64 x))] a0 := hA0
 have hS0 : Sep NoB w w [(sl v 1 xs.length (ints xs))] := sep_ro ⟨rfl, hv, trivial⟩
 refine c_seq ?_
 refine c_region ?_
 refine st hA0 (op_assign rfl (evc _ _)) rfl rfl (by decide) fun a1 hA2 => ?_; clear hA0 a0
 refine wl_nil ?_
 refine then_n ?_
 refine c_seq ?_
 refine c_seq ?_
 refine c_region ?_
 refine st hA2 (op_move rfl (hA2.ev rfl)) rfl rfl (by decide) fun a3 hA4 => ?_; clear hA2 a1
 refine st hA4 (op_lenS rfl un_40 (hA4.ev rfl) (hS0.sk 0 rfl)) rfl rfl (by decide) fun a5 hA6 => ?_; clear hA4 a3
 refine st hA6 (op_move rfl (evc _ _)) rfl rfl (by decide) fun a7 hA8 => ?_; clear hA6 a5
 refine wl_nil ?_
 refine then_n ?_
 refine c_block ?_
 have hA9 := hA8.as [(8, (Value.int .i64 0)), (7, (Value.int .i64 (xs.length : Int))), (0, v), (1, (Value.int .i64 x))] rfl; clear hA8
 refine c_loop (G := Nat) (fun (k : Nat) a_ w_ => Fr 19 [] [(8, (Value.int .i64 (k : Int))), (7, (Value.int .i64 (xs.length : Int))), (0, v), (1, (Value.int .i64 x))] a_ ∧ Sep NoB w w_ [(sl v 1 xs.length (ints xs))] ∧ (k ≤ xs.length) ∧ (∀ i, i < k → decide (x = xs.getD i 0) = false)) (fun k => xs.length - k) 0 ⟨hA9.as _ rfl, hS0, by omega, by omega⟩ ?_
 clear hA9 hS0 a7
 rintro k a10 w12 ⟨hA11, hS13, hk, hn⟩
 refine c_seq ?_
 refine c_region ?_
 refine st hA11 (op_lss rfl (hA11.ev rfl) (hA11.ev rfl)) rfl rfl (by decide) fun a14 hA15 => ?_; clear hA11 a10
 refine wl_nil ?_
 refine then_n ?_
 refine c_seq ?_
 by_cases hb16 : (k : Int) < (xs.length : Int)
 ·skip
  rw [decide_eq_true hb16] at hA15
  refine c_true hA15 rfl ?_
  refine c_skip ?_
  refine then_n ?_
  refine c_seq ?_
  refine c_block ?_
  refine c_seq ?_
  refine c_region ?_
  refine st hA15 (op_move rfl (hA15.ev rfl)) rfl rfl (by decide) fun a17 hA18 => ?_; clear hA15 a14
  refine st hA18 (op_assign rfl (hA18.ev rfl)) rfl rfl (by decide) fun a19 hA20 => ?_; clear hA18 a17
  refine wl_nil ?_
  refine then_n ?_
  refine c_seq ?_
  refine c_region ?_
  refine st hA20 (op_move rfl (hA20.ev rfl)) rfl rfl (by decide) fun a21 hA22 => ?_; clear hA20 a19
  refine st hA22 (op_move rfl (hA22.ev rfl)) rfl rfl (by decide) fun a23 hA24 => ?_; clear hA22 a21
  refine st hA24 (op_move rfl (hA24.ev rfl)) rfl rfl (by decide) fun a25 hA26 => ?_; clear hA24 a23
  refine st hA26 (op_indexS rfl un_40 ty_3 (hA26.ev rfl) (i := k) (hA26.ev rfl) (hS13.sk 0 rfl) (by decide) (by omega)) rfl rfl (by decide) fun a27 hA28 => ?_; clear hA26 a25
  refine st hA28 (op_load1E rfl ty_3 (hA28.ev rfl) (hS13.sk 0 rfl) (ints_at (by omega))) rfl rfl (by decide) fun a29 hA30 => ?_; clear hA28 a27
  refine st hA30 (op_eql rfl (hA30.ev rfl) (hA30.ev rfl)) rfl rfl (by decide) fun a31 hA32 => ?_; clear hA30 a29
  refine wl_nil ?_
  refine then_n ?_
  by_cases hb33 : x = (xs.getD k 0)
  ·skip
   rw [decide_eq_true hb33] at hA32
   refine c_true hA32 rfl ?_
   refine c_seq ?_
   have hA34 := hA32.as [(5, (Value.int .i64 (k : Int)))] rfl; clear hA32
   refine c_region ?_
   refine st hA34 (op_move rfl (hA34.ev rfl)) rfl rfl (by decide) fun a35 hA36 => ?_; clear hA34 a31
   refine st hA36 (op_assign rfl (hA36.ev rfl)) rfl rfl (by decide) fun a37 hA38 => ?_; clear hA36 a35
   refine wl_nil ?_
   refine then_n ?_
   refine c_ret ?_
   refine blk_ret ?_
   refine then_ret ?_
   refine then_ret ?_
   refine blk_ret ?_
   refine then_ret ?_
   refine fin_run hA38 (.inl rfl) (run_results1 hA38 rfl (.tmp rfl)) ?_
   exact ⟨by first | rw [fidx_hit (by omega) hn (decide_eq_true (by assumption))] | rw [fidx_miss (fun i hi => hn i (by omega))], hS13.ext⟩
  ·skip
   rw [decide_eq_false hb33] at hA32
   refine c_false hA32 rfl ?_
   refine c_skip ?_
   refine blk_n ?_
   refine then_n ?_
   have hA39 := hA32.as [(8, (Value.int .i64 (k : Int))), (7, (Value.int .i64 (xs.length : Int))), (0, v), (1, (Value.int .i64 x))] rfl; clear hA32
   refine c_region ?_
   refine st hA39 (op_add rfl (hA39.ev rfl) (evc _ _) (by omega) (by omega)) rfl rfl (by decide) fun a40 hA41 => ?_; clear hA39 a31
   refine st hA41 (op_move rfl (hA41.ev rfl)) rfl rfl (by decide) fun a42 hA43 => ?_; clear hA41 a40
   refine wl_nil ?_
   exact then_n ⟨k + 1, ⟨hA43.as _ rfl, hS13, by omega, (fun i hi => by rcases Nat.lt_succ_iff_lt_or_eq.1 hi with h | h; exact hn i h; subst h; exact decide_eq_false (by assumption))⟩, by omega⟩
 ·skip
  rw [decide_eq_false hb16] at hA15
  refine c_false hA15 rfl ?_
  refine c_exit ?_
  refine then_exit ?_
  refine then_exit ?_
  refine blk_hit ?_
  refine then_n ?_
  refine c_seq ?_
  refine c_region ?_
  refine st hA15 (op_assign rfl (evc _ _)) rfl rfl (by decide) fun a44 hA45 => ?_; clear hA15 a14
  refine wl_nil ?_
  refine then_n ?_
  refine c_ret ?_
  refine fin_run hA45 (.inl rfl) (run_results1 hA45 rfl (.tmp rfl)) ?_
  exact ⟨by first | rw [fidx_hit (by omega) hn (decide_eq_true (by assumption))] | rw [fidx_miss (fun i hi => hn i (by omega))], hS13.ext⟩
theorem contains_ok (xs : List Int) (x : Int) (v : Value) (w : World) (hv : SlAt w v 1 xs.length (ints xs)) (hlen : xs.length ≤ 1000000) :
  Calls Try.prog 76 #[v, (Value.int .i64 x)] w (Ret fun v w' => v = .bool (hasB xs x) ∧ Ext NoB w w') := by
 refine calls_enter Try.func76 rfl fun a0 hA0 => ?_
 replace hA0 : Fr 9 [] [(0, v), (1, (Value.int .i64 x))] a0 := hA0
 have hS0 : Sep NoB w w [(sl v 1 xs.length (ints xs))] := sep_ro ⟨rfl, hv, trivial⟩
 refine c_seq ?_
 refine c_region ?_
 refine st hA0 (op_assign rfl (evc _ _)) rfl rfl (by decide) fun a1 hA2 => ?_; clear hA0 a0
 refine wl_nil ?_
 refine then_n ?_
 refine c_seq ?_
 refine c_region ?_
 refine st hA2 (op_move rfl (hA2.ev rfl)) rfl rfl (by decide) fun a3 hA4 => ?_; clear hA2 a1
 refine st hA4 (op_move rfl (hA4.ev rfl)) rfl rfl (by decide) fun a5 hA6 => ?_; clear hA4 a3
 refine stw hA6 (op_call rfl en_95 (ev2 (hA6.ev rfl) (hA6.ev rfl)) (index_ok xs x _ _ (hS0.sk 0 rfl) hlen)) rfl rfl (by decide) ?_
 rintro a7 _ w9 ⟨rfl, hE10⟩ hA8; have hS11 := hS0.step hE10; clear hE10 hA6 hS0 a5
 refine st hA8 (op_geq rfl (hA8.ev rfl) (evc _ _)) rfl rfl (by decide) fun a12 hA13 => ?_; clear hA8 a7
 refine st hA13 (op_assign rfl (hA13.ev rfl)) rfl rfl (by decide) fun a14 hA15 => ?_; clear hA13 a12
 refine wl_nil ?_
 refine then_n ?_
 refine c_ret ?_
 refine fin_run hA15 (.inl rfl) (run_results1 hA15 rfl (.tmp rfl)) ?_
 exact ⟨congrArg Value.bool (fidx_any (fun i => decide (x = xs.getD i 0)) xs.length), hS11.ext⟩
theorem hasin_ok (x : Int) (b : Nat) (l : List Int) (xl : Value) (w : World) (hb : (blk b 40 [xl]).p w) (hv : SlAt w xl 1 l.length (ints l)) (hl : l.length ≤ 1000000) :
  Calls Try.prog 75 #[(Value.int .i64 x), (bptr b 0)] w (Ret fun v w' => v = .bool (hasB l x) ∧ Ext NoB w w') := by
 refine calls_enter Try.func75 rfl fun a0 hA0 => ?_
 replace hA0 : Fr 7 [] [(0, (Value.int .i64 x)), (1, (bptr b 0))] a0 := hA0
 have hS0 : Sep NoB w w [(rob b 40 [xl]), (sl xl 1 l.length (ints l))] := sep_ro ⟨rfl, hb, rfl, hv, trivial⟩
 refine c_seq ?_
 refine c_region ?_
 refine st hA0 (op_assign rfl (evc _ _)) rfl rfl (by decide) fun a1 hA2 => ?_; clear hA0 a0
 refine wl_nil ?_
 refine then_n ?_
 refine c_seq ?_
 refine c_region ?_
 refine st hA2 (op_load1 rfl ty_40 (hA2.ev rfl) (hS0.rk 0 rfl) rfl) rfl rfl (by decide) fun a3 hA4 => ?_; clear hA2 a1
 refine st hA4 (op_move rfl (hA4.ev rfl)) rfl rfl (by decide) fun a5 hA6 => ?_; clear hA4 a3
 refine stw hA6 (op_call rfl en_76 (ev2 (hA6.ev rfl) (hA6.ev rfl)) (contains_ok l x _ _ (hS0.sk 1 rfl) (by omega))) rfl rfl (by decide) ?_
 rintro a7 _ w9 ⟨rfl, hE10⟩ hA8; have hS11 := hS0.step hE10; clear hE10 hA6 hS0 a5
 refine st hA8 (op_assign rfl (hA8.ev rfl)) rfl rfl (by decide) fun a12 hA13 => ?_; clear hA8 a7
 refine wl_nil ?_
 refine then_n ?_
 refine c_ret ?_
 refine fin_run hA13 (.inl rfl) (run_results1 hA13 rfl (.tmp rfl)) ?_
 exact ⟨rfl, hS11.ext⟩
theorem covers_ok (a : List Int) (xa : Value) (b : Nat) (l : List Int) (xl : Value) (w : World) (hb : (blk b 40 [xl]).p w) (hv : SlAt w xl 1 l.length (ints l)) (hl : l.length ≤ 1000000) (ha : SlAt w xa 1 a.length (ints a)) (hal : a.length ≤ 1000000) :
  Calls Try.prog 73 #[xa, (bptr b 0)] w (Ret fun v w' => v = .bool (coverB a l) ∧ Ext NoB w w') := by
 refine calls_enter Try.func73 rfl fun a0 hA0 => ?_
 replace hA0 : Fr 7 [] [(0, xa), (1, (bptr b 0))] a0 := hA0
 have hS0 : Sep NoB w w [(rob b 40 [xl]), (sl xl 1 l.length (ints l)), (sl xa 1 a.length (ints a))] := sep_ro ⟨rfl, hb, rfl, hv, rfl, ha, trivial⟩
 refine c_seq ?_
 refine c_region ?_
 refine st hA0 (op_assign rfl (evc _ _)) rfl rfl (by decide) fun a1 hA2 => ?_; clear hA0 a0
 refine wl_nil ?_
 refine then_n ?_
 refine c_seq ?_
 refine c_region ?_
 refine st hA2 (op_move rfl (hA2.ev rfl)) rfl rfl (by decide) fun a3 hA4 => ?_; clear hA2 a1
 refine st hA4 (op_makeFunc rfl ev0 (ev1 (hA4.ev rfl))) rfl rfl (by decide) fun a5 hA6 => ?_; clear hA4 a3
 refine stw hA6 (op_call rfl en_74 (ev2 (hA6.ev rfl) (hA6.ev rfl)) (all_int a _ 75 #[] #[(bptr b 0)] (fun i => hasB l (a.getD i 0)) _ (hS0.sk 2 rfl) (by omega) ⟨en_75, fun i hi W hW => hasin_ok _ b l xl W ((hS0.step hW).rk 0 rfl) ((hS0.step hW).sk 1 rfl) hl⟩)) rfl rfl (by decide) ?_
 rintro a7 _ w9 ⟨rfl, hE10⟩ hA8; have hS11 := hS0.step hE10; clear hE10 hA6 hS0 a5
 refine st hA8 (op_assign rfl (hA8.ev rfl)) rfl rfl (by decide) fun a12 hA13 => ?_; clear hA8 a7
 refine wl_nil ?_
 refine then_n ?_
 refine c_ret ?_
 refine fin_run hA13 (.inl rfl) (run_results1 hA13 rfl (.tmp rfl)) ?_
 exact ⟨rfl, hS11.ext⟩
theorem leave_zero (bb ba br bs : Nat) (va vu : Value) (ov lv : List Value) (A : List (List Int)) (rs : List RunD) (hlv : lv.length = rs.length) (hAl : A.length ≤ 1000000) (hAs : ∀ i, (A.getD i []).length ≤ 1000000) (hrl : rs.length ≤ 1000) (l : List Int) (next : Nat) (xl vb : Value) (best : List Int) (w : World) (X : Nat → Prop) (hl : l.length + 0 ≤ 1000) (hJ : Sep X w w [(row xl 3 1 l.length (ints l)), (blk bb 40 [vb]), (row vb 3 1 best.length (ints best)), (rob bs 120 [(Value.func (.func 71) #[] #[(bptr bb 0), (bptr ba 0), (bptr br 0), (bptr bs 0)])]), (rob ba 38 [va]), (rob br 35 [vu]), (sl va 1 ov.length ov), (lstRo ov A), (sl vu 3 rs.length (vtrips (runV lv rs)))]) :
  Calls Try.prog 71 #[xl, (Value.int .i64 (next : Int)), (Value.int .i64 0), (bptr bb 0), (bptr ba 0), (bptr br 0), (bptr bs 0)] w (Ret fun v w' => v = .bool (leaveB rs.length A 0 l next) ∧ ∃ vb' best', (leaveB rs.length A 0 l next = true → (setsF rs.length 0 l next).find? (okB A) = some best') ∧ Sep X w w' [(row xl 3 1 l.length (ints l)), (blk bb 40 [vb']), (row vb' 3 1 best'.length (ints best')), (rob bs 120 [(Value.func (.func 71) #[] #[(bptr bb 0), (bptr ba 0), (bptr br 0), (bptr bs 0)])]), (rob ba 38 [va]), (rob br 35 [vu]), (sl va 1 ov.length ov), (lstRo ov A), (sl vu 3 rs.length (vtrips (runV lv rs)))]) := by
 refine calls_enter Try.func71 rfl fun a0 hA0 => ?_
 replace hA0 : Fr 36 [] [(0, xl), (1, (Value.int .i64 (next : Int))), (2, (Value.int .i64 0)), (3, (bptr bb 0)), (4, (bptr ba 0)), (5, (bptr br 0)), (6, (bptr bs 0))] a0 := hA0
 have hol := (show (lstR ov A).p _ from hJ.ok 7 (lstRo ov A) rfl).1
 have hS0 : Sep X w w [(row xl 3 1 l.length (ints l)), (blk bb 40 [vb]), (row vb 3 1 best.length (ints best)), (rob bs 120 [(Value.func (.func 71) #[] #[(bptr bb 0), (bptr ba 0), (bptr br 0), (bptr bs 0)])]), (rob ba 38 [va]), (rob br 35 [vu]), (sl va 1 ov.length ov), (lstRo ov A), (sl vu 3 rs.length (vtrips (runV lv rs)))] := hJ
 refine c_seq ?_
 refine c_region ?_
 refine stw hA0 (op_box hS0 rfl (hA0.ev rfl) (cs := [xl]) (isSl_cells (SlAt.isSl (SlAt.of_row (hS0.ok_row 0 rfl))))) rfl rfl (by decide) ?_
 rintro a1 _ w3 ⟨b4, rfl, hS5⟩ hA2; clear hA0 hS0 a0
 refine st hA2 (op_assign rfl (evc _ _)) rfl rfl (by decide) fun a6 hA7 => ?_; clear hA2 a1
 refine wl_nil ?_
 refine then_n ?_
 refine c_seq ?_
 refine c_seq ?_
 refine c_region ?_
 refine st hA7 (op_move rfl (hA7.ev rfl)) rfl rfl (by decide) fun a8 hA9 => ?_; clear hA7 a6
 refine st hA9 (op_eql rfl (hA9.ev rfl) (evc _ _)) rfl rfl (by decide) fun a10 hA11 => ?_; clear hA9 a8
 refine wl_nil ?_
 refine then_n ?_
 refine c_true hA11 rfl ?_
 refine c_seq ?_
 have hA12 := hA11.as [(7, (bptr b4 0)), (3, (bptr bb 0)), (4, (bptr ba 0))] rfl; clear hA11
 refine c_region ?_
 refine st hA12 (op_load1 rfl ty_40 (hA12.ev rfl) (hS5.bk 0 rfl) rfl) rfl rfl (by decide) fun a13 hA14 => ?_; clear hA12 a10
 refine stw hA14 (op_call rfl en_61 (ev1 (hA14.ev rfl)) (clone_int l _ _ (SlAt.of_row (hS5.ok_row 1 rfl)) (by omega))) rfl rfl (by decide) ?_
 rintro a15 v21 w17 ⟨hE18, hO19⟩ hA16; have hS20 := hS5.new_row hE18 hO19; clear hE18 hO19 hA14 hS5 a13
 refine sts hA16 (op_store hS20 rfl ty_40 (hA16.ev rfl) (hA16.ev rfl) (i := 3) rfl (vs := [v21]) (isSl_cells (SlAt.isSl (SlAt.of_row (hS20.ok_row 0 rfl)))) rfl (all_c (SlAt.one (SlAt.of_row (hS20.ok_row 0 rfl))) all_n) (Nat.le_of_ble_eq_true rfl)) rfl rfl ?_
 intro _ w22 hS23 hA24; clear hA16
 have hS25 : Sep X w w22 [(row v21 3 1 l.length (ints l)), (blk b4 40 [xl]), (row xl 3 1 l.length (ints l)), (blk bb 40 [v21]), (row vb 3 1 best.length (ints best)), (rob bs 120 [(Value.func (.func 71) #[] #[(bptr bb 0), (bptr ba 0), (bptr br 0), (bptr bs 0)])]), (rob ba 38 [va]), (rob br 35 [vu]), (sl va 1 ov.length ov), (lstRo ov A), (sl vu 3 rs.length (vtrips (runV lv rs)))] := hS23; clear hS23 hS20
 refine wl_nil ?_
 refine then_n ?_
 refine c_seq ?_
 refine c_region ?_
 refine st hA24 (op_load1 rfl ty_38 (hA24.ev rfl) (hS25.rk 6 rfl) rfl) rfl rfl (by decide) fun a26 hA27 => ?_; clear hA24 a15
 refine st hA27 (op_makeFunc rfl ev0 (ev1 (hA27.ev rfl))) rfl rfl (by decide) fun a28 hA29 => ?_; clear hA27 a26
 refine stw hA29 (op_call rfl en_72 (ev2 (hA29.ev rfl) (hA29.ev rfl)) (contf_sls ov _ 73 #[] #[(bptr b4 0)] (fun i => coverB (A.getD i []) l) _ (hS25.sk 8 rfl) (by omega) ⟨en_73, fun i hi W hW => covers_ok _ _ _ l xl W ((hS25.step hW).bk 1 rfl) (SlAt.of_row ((hS25.step hW).ok_row 2 rfl)) (by omega) ((show (lstR ov A).p _ from (hS25.step hW).ok 9 (lstRo ov A) rfl).2 i (by omega)) (hAs i)⟩)) rfl rfl (by decide) ?_
 rintro a30 _ w32 ⟨rfl, hE33⟩ hA31; have hS34 := hS25.step hE33; clear hE33 hA29 hS25 a28
 refine st hA31 (op_assign rfl (hA31.ev rfl)) rfl rfl (by decide) fun a35 hA36 => ?_; clear hA31 a30
 refine wl_nil ?_
 refine then_n ?_
 refine c_ret ?_
 refine then_ret ?_
 refine fin_run hA36 (.inl rfl) (run_results1 hA36 rfl (.tmp rfl)) ?_
 rw [leave_0]
 exact ⟨congrArg Value.bool (by unfold okB; rw [hol]), _, l, fun h => find_0 h, hS34.keep [2, 3, 0, 5, 6, 7, 8, 9, 10] (by decide) _ rfl rfl⟩
theorem leave_succ (bb ba br bs : Nat) (va vu : Value) (ov lv : List Value) (A : List (List Int)) (rs : List RunD) (hlv : lv.length = rs.length) (hAl : A.length ≤ 1000000) (hAs : ∀ i, (A.getD i []).length ≤ 1000000) (hrl : rs.length ≤ 1000) (m : Nat) (ih : ∀ (l : List Int) (next : Nat) (xl vb : Value) (best : List Int) (w : World) (X : Nat → Prop) (hl : l.length + m ≤ 1000) (_ : Sep X w w [(row xl 3 1 l.length (ints l)), (blk bb 40 [vb]), (row vb 3 1 best.length (ints best)), (rob bs 120 [(Value.func (.func 71) #[] #[(bptr bb 0), (bptr ba 0), (bptr br 0), (bptr bs 0)])]), (rob ba 38 [va]), (rob br 35 [vu]), (sl va 1 ov.length ov), (lstRo ov A), (sl vu 3 rs.length (vtrips (runV lv rs)))]), Calls Try.prog 71 #[xl, .int .i64 (next : Int), .int .i64 (m : Int), bptr bb 0, bptr ba 0, bptr br 0, bptr bs 0] w (Ret fun v w' => v = .bool (leaveB rs.length A m l next) ∧ ∃ vb' best', (leaveB rs.length A m l next = true → (setsF rs.length m l next).find? (okB A) = some best') ∧ Sep X w w' [(row xl 3 1 l.length (ints l)), (blk bb 40 [vb']), (row vb' 3 1 best'.length (ints best')), (rob bs 120 [(Value.func (.func 71) #[] #[(bptr bb 0), (bptr ba 0), (bptr br 0), (bptr bs 0)])]), (rob ba 38 [va]), (rob br 35 [vu]), (sl va 1 ov.length ov), (lstRo ov A), (sl vu 3 rs.length (vtrips (runV lv rs)))])) (l : List Int) (next : Nat) (xl vb : Value) (best : List Int) (w : World) (X : Nat → Prop) (hl : l.length + (m + 1) ≤ 1000) (hJ : Sep X w w [(row xl 3 1 l.length (ints l)), (blk bb 40 [vb]), (row vb 3 1 best.length (ints best)), (rob bs 120 [(Value.func (.func 71) #[] #[(bptr bb 0), (bptr ba 0), (bptr br 0), (bptr bs 0)])]), (rob ba 38 [va]), (rob br 35 [vu]), (sl va 1 ov.length ov), (lstRo ov A), (sl vu 3 rs.length (vtrips (runV lv rs)))]) :
  Calls Try.prog 71 #[xl, (Value.int .i64 (next : Int)), (Value.int .i64 ((m : Int) + 1)), (bptr bb 0), (bptr ba 0), (bptr br 0), (bptr bs 0)] w (Ret fun v w' => v = .bool (leaveB rs.length A (m + 1) l next) ∧ ∃ vb' best', (leaveB rs.length A (m + 1) l next = true → (setsF rs.length (m + 1) l next).find? (okB A) = some best') ∧ Sep X w w' [(row xl 3 1 l.length (ints l)), (blk bb 40 [vb']), (row vb' 3 1 best'.length (ints best')), (rob bs 120 [(Value.func (.func 71) #[] #[(bptr bb 0), (bptr ba 0), (bptr br 0), (bptr bs 0)])]), (rob ba 38 [va]), (rob br 35 [vu]), (sl va 1 ov.length ov), (lstRo ov A), (sl vu 3 rs.length (vtrips (runV lv rs)))]) := by
 refine calls_enter Try.func71 rfl fun a0 hA0 => ?_
 replace hA0 : Fr 36 [] [(0, xl), (1, (Value.int .i64 (next : Int))), (2, (Value.int .i64 ((m : Int) + 1))), (3, (bptr bb 0)), (4, (bptr ba 0)), (5, (bptr br 0)), (6, (bptr bs 0))] a0 := hA0
 have hS0 : Sep X w w [(row xl 3 1 l.length (ints l)), (blk bb 40 [vb]), (row vb 3 1 best.length (ints best)), (rob bs 120 [(Value.func (.func 71) #[] #[(bptr bb 0), (bptr ba 0), (bptr br 0), (bptr bs 0)])]), (rob ba 38 [va]), (rob br 35 [vu]), (sl va 1 ov.length ov), (lstRo ov A), (sl vu 3 rs.length (vtrips (runV lv rs)))] := hJ
 refine c_seq ?_
 refine c_region ?_
 refine stw hA0 (op_box hS0 rfl (hA0.ev rfl) (cs := [xl]) (isSl_cells (SlAt.isSl (SlAt.of_row (hS0.ok_row 0 rfl))))) rfl rfl (by decide) ?_
 rintro a1 _ w3 ⟨b4, rfl, hS5⟩ hA2; clear hA0 hS0 a0
 refine st hA2 (op_assign rfl (evc _ _)) rfl rfl (by decide) fun a6 hA7 => ?_; clear hA2 a1
 refine wl_nil ?_
 refine then_n ?_
 refine c_seq ?_
 refine c_seq ?_
 refine c_region ?_
 refine st hA7 (op_move rfl (hA7.ev rfl)) rfl rfl (by decide) fun a8 hA9 => ?_; clear hA7 a6
 refine st hA9 (op_eql rfl (hA9.ev rfl) (evc _ _)) rfl rfl (by decide) fun a10 hA11 => ?_; clear hA9 a8
 have hd12 : ¬ (((m : Int) + 1) = 0) := (by omega)
 rw [decide_eq_false hd12] at hA11
 refine wl_nil ?_
 refine then_n ?_
 refine c_false hA11 rfl ?_
 refine c_skip ?_
 refine then_n ?_
 refine c_seq ?_
 refine c_seq ?_
 have hA13 := hA11.as [(7, (bptr b4 0)), (1, (Value.int .i64 (next : Int))), (2, (Value.int .i64 ((m : Int) + 1))), (5, (bptr br 0)), (6, (bptr bs 0))] rfl; clear hA11
 refine c_region ?_
 refine st hA13 (op_move rfl (hA13.ev rfl)) rfl rfl (by decide) fun a14 hA15 => ?_; clear hA13 a10
 refine st hA15 (op_assign rfl (hA15.ev rfl)) rfl rfl (by decide) fun a16 hA17 => ?_; clear hA15 a14
 refine wl_nil ?_
 refine then_n ?_
 refine c_block ?_
 have hA18 := hA17.as [(11, (Value.int .i64 (next : Int))), (7, (bptr b4 0)), (2, (Value.int .i64 ((m : Int) + 1))), (5, (bptr br 0)), (6, (bptr bs 0))] rfl; clear hA17
 refine c_loop (G := Nat) (fun (k : Nat) a_ w_ => ∃ vb_ : Value, ∃ best_ : List Int, Fr 36 [] [(11, (Value.int .i64 (k : Int))), (7, (bptr b4 0)), (2, (Value.int .i64 ((m : Int) + 1))), (5, (bptr br 0)), (6, (bptr bs 0))] a_ ∧ Sep X w w_ [(blk b4 40 [xl]), (row xl 3 1 l.length (ints l)), (blk bb 40 [vb_]), (row vb_ 3 1 best_.length (ints best_)), (rob bs 120 [(Value.func (.func 71) #[] #[(bptr bb 0), (bptr ba 0), (bptr br 0), (bptr bs 0)])]), (rob ba 38 [va]), (rob br 35 [vu]), (sl va 1 ov.length ov), (lstRo ov A), (sl vu 3 rs.length (vtrips (runV lv rs)))] ∧ (next ≤ k) ∧ (k = next ∨ k ≤ rs.length) ∧ ((setsUpto rs.length m l next k).any (okB A) = false)) (fun k => rs.length - k) next ⟨vb, best, hA18.as _ rfl, hS5, Nat.le_refl _, .inl rfl, (by rw [setsUpto_self]; rfl)⟩ ?_
 clear hA18 hS5 a16
 rintro k a19 w21 ⟨vb_, best_, hA20, hS22, hk1, hk2, hno⟩
 refine c_seq ?_
 refine c_seq ?_
 refine c_region ?_
 refine st hA20 (op_move rfl (hA20.ev rfl)) rfl rfl (by decide) fun a23 hA24 => ?_; clear hA20 a19
 refine st hA24 (op_load1 rfl ty_35 (hA24.ev rfl) (hS22.rk 6 rfl) rfl) rfl rfl (by decide) fun a25 hA26 => ?_; clear hA24 a23
 refine st hA26 (op_lenS rfl un_35 (hA26.ev rfl) (hS22.sk 9 rfl)) rfl rfl (by decide) fun a27 hA28 => ?_; clear hA26 a25
 refine st hA28 (op_lss rfl (hA28.ev rfl) (hA28.ev rfl)) rfl rfl (by decide) fun a29 hA30 => ?_; clear hA28 a27
 refine wl_nil ?_
 refine then_n ?_
 by_cases hb31 : (k : Int) < (rs.length : Int)
 ·skip
  rw [decide_eq_true hb31] at hA30
  refine c_true hA30 rfl ?_
  refine c_skip ?_
  refine then_n ?_
  refine c_seq ?_
  refine c_block ?_
  refine c_seq ?_
  have hA32 := hA30.as [(11, (Value.int .i64 (k : Int))), (7, (bptr b4 0)), (2, (Value.int .i64 ((m : Int) + 1))), (5, (bptr br 0)), (6, (bptr bs 0))] rfl; clear hA30
  have hB33 := hS22.below
  refine c_drawnA mixed hA32 hS22 9 [[], [], [], [2], [1, 3], [], [5], [], [7]] [(Yd.val (Value.func (.func 71) #[] #[(bptr bb 0), (bptr ba 0), (bptr br 0), (bptr bs 0)])), (Yd.val xl), (Yd.val (Value.int .i64 (k : Int))), (Yd.blt w21.heap.size 3 1 [(Value.int .i64 (k : Int))]), Yd.any, (Yd.val (Value.int .i64 (k : Int))), (Yd.val (Value.int .i64 ((k : Int) + 1))), (Yd.val (Value.int .i64 ((m : Int) + 1))), (Yd.val (Value.int .i64 (((m : Int) + 1) - 1)))] (by decide +kernel) rfl rfl 4 1 (by decide) rfl 1 ((ints l) ++ [(Value.int .i64 (k : Int))]) rfl ⟨ydb_val _ _, ydb_val _ _, ydb_val _ _, ydb_blt _ _ _ _, ydb_any _, ydb_val _ _, ydb_val _ _, ydb_val _ _, ydb_val _ _, trivial⟩ ?_ ?_
  ·skip
   refine ⟨⟨fun _ a w hA hS hz hd => ?_, fun e_ => absurd e_ (by decide)⟩, ?_⟩
   ·skip
    exact opG_of rfl (dv (op_load1 rfl ty_120 (hA.ev rfl) (hS.rk 4 rfl) rfl) hS rfl)
   refine ⟨⟨fun _ a w hA hS hz hd => ?_, fun e_ => absurd e_ (by decide)⟩, ?_⟩
   ·skip
    exact opG_of rfl (dv (op_load1 rfl ty_40 (hA.ev rfl) (hS.bk 0 rfl) rfl) hS rfl)
   refine ⟨⟨fun _ a w hA hS hz hd => ?_, fun e_ => absurd e_ (by decide)⟩, ?_⟩
   ·skip
    exact opG_of rfl (dv (op_move rfl (hA.ev rfl)) hS rfl)
   refine ⟨⟨fun _ a w hA hS hz hd => ?_, fun e_ => absurd e_ (by decide)⟩, ?_⟩
   ·skip
    have e2 := has_ev (hd 2 (by decide)) rfl (fun _ h => h)
    exact opG_of rfl (dbltZ hS hz rfl (pv1 (tmp_ev e2)) un_40 ty_3 ze_3 (by decide) (cs := [(Value.int .i64 (k : Int))]) (bs_3_1_0i _) (fun _ _ h => h))
   refine ⟨⟨fun e_ => absurd rfl e_, fun _ a w hA hS hz hd => ?_⟩, ?_⟩
   ·skip
    have e1 := has_ev (hd 1 (by decide)) rfl (fun _ h => h)
    obtain ⟨_, e3, b3, rfl, hp3, _⟩ := has_get (hd 3 (by decide)) rfl
    exact opG_of rfl (op_appendL hS hz rfl un_40 el_3 (tmp_ev e1) (tmp_ev e3) (i := 1) rfl (SlAt.of_blk hp3 rfl (by decide)) (by decide) rfl (by simp only [maxLen]; omega) (by omega))
   refine ⟨⟨fun _ a w hA hS hz hd => ?_, fun e_ => absurd e_ (by decide)⟩, ?_⟩
   ·skip
    exact opG_of rfl (dv (op_move rfl (hA.ev rfl)) hS rfl)
   refine ⟨⟨fun _ a w hA hS hz hd => ?_, fun e_ => absurd e_ (by decide)⟩, ?_⟩
   ·skip
    have e5 := has_ev (hd 5 (by decide)) rfl (fun _ h => h)
    exact opG_of rfl (dv (op_add rfl (tmp_ev e5) (evc _ _) (by omega) (by omega)) hS rfl)
   refine ⟨⟨fun _ a w hA hS hz hd => ?_, fun e_ => absurd e_ (by decide)⟩, ?_⟩
   ·skip
    exact opG_of rfl (dv (op_move rfl (hA.ev rfl)) hS rfl)
   refine ⟨⟨fun _ a w hA hS hz hd => ?_, fun e_ => absurd e_ (by decide)⟩, ?_⟩
   ·skip
    have e7 := has_ev (hd 7 (by decide)) rfl (fun _ h => h)
    exact opG_of rfl (dv (op_sub rfl (tmp_ev e7) (evc _ _) (by omega) (by omega)) hS rfl)
   trivial
  intro a34 w35 hA36 hS37 hH38 hAp39; clear hA32 hS22
  have hA40 := hA36.add (has_ev (hH38 0 (by decide) (by decide)) rfl (fun _ h => h)); clear hA36
  obtain ⟨u42, ht43, hap44⟩ := has_get hAp39 rfl
  have hA41 := hA40.add ht43; clear hA40 ht43 hAp39
  have hA45 := hA41.add (has_ev (hH38 6 (by decide) (by decide)) rfl (fun _ h => h)); clear hA41
  have hA46 := hA45.add (has_ev (hH38 8 (by decide) (by decide)) rfl (fun _ h => h)); clear hA45
  clear hH38
  rcases appL_row hS37 hB33 (i0 := 1) rfl hap44 with ⟨hS47, hbk48⟩ | hS47
  ·skip
   clear hS37
   have hS53 := hS47.row_say (i := 1) rfl (n' := (l ++ [(k : Int)]).length) (xs' := ints (l ++ [(k : Int)])) (by simp) (by simp [ints]); clear hS47
   have hS54 : Sep X w w35 [(row u42 3 1 ((l ++ [(k : Int)]).length) (ints (l ++ [(k : Int)]))), (blk bb 40 [vb_]), (row vb_ 3 1 best_.length (ints best_)), (rob bs 120 [(Value.func (.func 71) #[] #[(bptr bb 0), (bptr ba 0), (bptr br 0), (bptr bs 0)])]), (rob ba 38 [va]), (rob br 35 [vu]), (sl va 1 ov.length ov), (lstRo ov A), (sl vu 3 rs.length (vtrips (runV lv rs))), (blk b4 40 [xl])] := hS53.keep [1, 2, 3, 4, 5, 6, 7, 8, 9, 0] (by decide) _ rfl rfl; clear hS53
   refine stw hA46 (op_callv rfl (hA46.ev rfl) en_71 (ev3 (hA46.ev rfl) (hA46.ev rfl) (hA46.ev rfl)) (by have hz := ih (l ++ [(k : Int)]) (k + 1) _ _ _ _ (ownX [(row u42 3 1 ((l ++ [(k : Int)]).length) (ints (l ++ [(k : Int)]))), (blk bb 40 [vb_]), (row vb_ 3 1 best_.length (ints best_)), (rob bs 120 [(Value.func (.func 71) #[] #[(bptr bb 0), (bptr ba 0), (bptr br 0), (bptr bs 0)])]), (rob ba 38 [va]), (rob br 35 [vu]), (sl va 1 ov.length ov), (lstRo ov A), (sl vu 3 rs.length (vtrips (runV lv rs)))]) (by simp; omega) (Sep.enterG (A := [(row u42 3 1 ((l ++ [(k : Int)]).length) (ints (l ++ [(k : Int)]))), (blk bb 40 [vb_]), (row vb_ 3 1 best_.length (ints best_)), (rob bs 120 [(Value.func (.func 71) #[] #[(bptr bb 0), (bptr ba 0), (bptr br 0), (bptr bs 0)])]), (rob ba 38 [va]), (rob br 35 [vu]), (sl va 1 ov.length ov), (lstRo ov A), (sl vu 3 rs.length (vtrips (runV lv rs)))]) (B := [(blk b4 40 [xl])]) hS54); rw [show ((m : Int) + 1) - 1 = (m : Int) by omega]; exact hz)) rfl rfl (by decide) ?_
   rintro a50 _ w52 ⟨rfl, vb56, best57, hf58, hT55⟩ hA51; clear hA46 a34
   have hS59 : Sep X w w52 [(row u42 3 1 ((l ++ [(k : Int)]).length) (ints (l ++ [(k : Int)]))), (blk bb 40 [vb56]), (row vb56 3 1 best57.length (ints best57)), (rob bs 120 [(Value.func (.func 71) #[] #[(bptr bb 0), (bptr ba 0), (bptr br 0), (bptr bs 0)])]), (rob ba 38 [va]), (rob br 35 [vu]), (sl va 1 ov.length ov), (lstRo ov A), (sl vu 3 rs.length (vtrips (runV lv rs))), (blk b4 40 [xl])] := Sep.callG (A := [(row u42 3 1 ((l ++ [(k : Int)]).length) (ints (l ++ [(k : Int)]))), (blk bb 40 [vb_]), (row vb_ 3 1 best_.length (ints best_)), (rob bs 120 [(Value.func (.func 71) #[] #[(bptr bb 0), (bptr ba 0), (bptr br 0), (bptr bs 0)])]), (rob ba 38 [va]), (rob br 35 [vu]), (sl va 1 ov.length ov), (lstRo ov A), (sl vu 3 rs.length (vtrips (runV lv rs)))]) (B := [(blk b4 40 [xl])]) hS54 hT55 (lentOk_at ⟨.inl rfl, .inl rfl, .inl rfl, .inr ⟨3, rfl⟩, .inr ⟨4, rfl⟩, .inr ⟨5, rfl⟩, .inr ⟨6, rfl⟩, .inr ⟨7, rfl⟩, .inr ⟨8, rfl⟩, trivial⟩); clear hT55 hS54
   have hS60 := hbk48 _ _ _ _ (hS59.row_say (i := 0) rfl (n' := l.length + 1) (xs' := ints l ++ [Value.int .i64 (k : Int)]) (by simp) (by simp [ints])) 0 rfl (by simp [ints]); clear hS59
   refine wl_nil ?_
   refine then_n ?_
   rcases Bool.eq_false_or_eq_true ((leaveB rs.length A m (l ++ [(k : Int)]) (k + 1))) with hb61 | hb61
   ·skip
    rw [hb61] at hA51
    refine c_true hA51 rfl ?_
    refine c_seq ?_
    have hA62 := hA51.as [] rfl; clear hA51
    refine c_region ?_
    refine st hA62 (op_assign rfl (evc _ _)) rfl rfl (by decide) fun a63 hA64 => ?_; clear hA62 a50
    refine wl_nil ?_
    refine then_n ?_
    refine c_ret ?_
    refine blk_ret ?_
    refine then_ret ?_
    refine then_ret ?_
    refine blk_ret ?_
    refine then_ret ?_
    refine fin_run hA64 (.inl rfl) (run_results1 hA64 rfl (.tmp rfl)) ?_
    have hh := leave_hit (A := A) hk1 (by omega) hno (by assumption) (hf58 (by assumption))
    rw [hh.1]
    exact ⟨rfl, _, _, fun _ => hh.2, hS60.keep [0, 1, 2, 3, 4, 5, 6, 7, 8] (by decide) _ rfl rfl⟩
   ·skip
    rw [hb61] at hA51
    refine c_false hA51 rfl ?_
    refine c_skip ?_
    refine blk_n ?_
    refine then_n ?_
    refine c_region ?_
    refine st hA51 (op_move rfl (hA51.ev rfl)) rfl rfl (by decide) fun a65 hA66 => ?_; clear hA51 a50
    refine st hA66 (op_add rfl (hA66.ev rfl) (evc _ _) (by omega) (by omega)) rfl rfl (by decide) fun a67 hA68 => ?_; clear hA66 a65
    refine st hA68 (op_assign rfl (hA68.ev rfl)) rfl rfl (by decide) fun a69 hA70 => ?_; clear hA68 a67
    refine wl_nil ?_
    have hS71 : Sep X w w52 [(blk b4 40 [xl]), (row xl 3 1 l.length (ints l)), (blk bb 40 [vb56]), (row vb56 3 1 best57.length (ints best57)), (rob bs 120 [(Value.func (.func 71) #[] #[(bptr bb 0), (bptr ba 0), (bptr br 0), (bptr bs 0)])]), (rob ba 38 [va]), (rob br 35 [vu]), (sl va 1 ov.length ov), (lstRo ov A), (sl vu 3 rs.length (vtrips (runV lv rs)))] := hS60.keep [9, 0, 1, 2, 3, 4, 5, 6, 7, 8] (by decide) _ rfl rfl; clear hS60
    exact then_n ⟨k + 1, ⟨vb56, best57, hA70.as _ rfl, hS71, by omega, by omega, leave_go hk1 hno (by assumption)⟩, by omega⟩
  ·skip
   clear hS37
   have hS76 := hS47.row_say (i := 0) rfl (n' := (l ++ [(k : Int)]).length) (xs' := ints (l ++ [(k : Int)])) (by simp) (by simp [ints]); clear hS47
   have hS77 : Sep X w w35 [(row u42 3 1 ((l ++ [(k : Int)]).length) (ints (l ++ [(k : Int)]))), (blk bb 40 [vb_]), (row vb_ 3 1 best_.length (ints best_)), (rob bs 120 [(Value.func (.func 71) #[] #[(bptr bb 0), (bptr ba 0), (bptr br 0), (bptr bs 0)])]), (rob ba 38 [va]), (rob br 35 [vu]), (sl va 1 ov.length ov), (lstRo ov A), (sl vu 3 rs.length (vtrips (runV lv rs))), (blk b4 40 [xl]), (row xl 3 1 l.length (ints l))] := hS76.keep [0, 3, 4, 5, 6, 7, 8, 9, 10, 1, 2] (by decide) _ rfl rfl; clear hS76
   refine stw hA46 (op_callv rfl (hA46.ev rfl) en_71 (ev3 (hA46.ev rfl) (hA46.ev rfl) (hA46.ev rfl)) (by have hz := ih (l ++ [(k : Int)]) (k + 1) _ _ _ _ (ownX [(row u42 3 1 ((l ++ [(k : Int)]).length) (ints (l ++ [(k : Int)]))), (blk bb 40 [vb_]), (row vb_ 3 1 best_.length (ints best_)), (rob bs 120 [(Value.func (.func 71) #[] #[(bptr bb 0), (bptr ba 0), (bptr br 0), (bptr bs 0)])]), (rob ba 38 [va]), (rob br 35 [vu]), (sl va 1 ov.length ov), (lstRo ov A), (sl vu 3 rs.length (vtrips (runV lv rs)))]) (by simp; omega) (Sep.enterG (A := [(row u42 3 1 ((l ++ [(k : Int)]).length) (ints (l ++ [(k : Int)]))), (blk bb 40 [vb_]), (row vb_ 3 1 best_.length (ints best_)), (rob bs 120 [(Value.func (.func 71) #[] #[(bptr bb 0), (bptr ba 0), (bptr br 0), (bptr bs 0)])]), (rob ba 38 [va]), (rob br 35 [vu]), (sl va 1 ov.length ov), (lstRo ov A), (sl vu 3 rs.length (vtrips (runV lv rs)))]) (B := [(blk b4 40 [xl]), (row xl 3 1 l.length (ints l))]) hS77); rw [show ((m : Int) + 1) - 1 = (m : Int) by omega]; exact hz)) rfl rfl (by decide) ?_
   rintro a73 _ w75 ⟨rfl, vb79, best80, hf81, hT78⟩ hA74; clear hA46 a34
   have hS82 : Sep X w w75 [(row u42 3 1 ((l ++ [(k : Int)]).length) (ints (l ++ [(k : Int)]))), (blk bb 40 [vb79]), (row vb79 3 1 best80.length (ints best80)), (rob bs 120 [(Value.func (.func 71) #[] #[(bptr bb 0), (bptr ba 0), (bptr br 0), (bptr bs 0)])]), (rob ba 38 [va]), (rob br 35 [vu]), (sl va 1 ov.length ov), (lstRo ov A), (sl vu 3 rs.length (vtrips (runV lv rs))), (blk b4 40 [xl]), (row xl 3 1 l.length (ints l))] := Sep.callG (A := [(row u42 3 1 ((l ++ [(k : Int)]).length) (ints (l ++ [(k : Int)]))), (blk bb 40 [vb_]), (row vb_ 3 1 best_.length (ints best_)), (rob bs 120 [(Value.func (.func 71) #[] #[(bptr bb 0), (bptr ba 0), (bptr br 0), (bptr bs 0)])]), (rob ba 38 [va]), (rob br 35 [vu]), (sl va 1 ov.length ov), (lstRo ov A), (sl vu 3 rs.length (vtrips (runV lv rs)))]) (B := [(blk b4 40 [xl]), (row xl 3 1 l.length (ints l))]) hS77 hT78 (lentOk_at ⟨.inl rfl, .inl rfl, .inl rfl, .inr ⟨3, rfl⟩, .inr ⟨4, rfl⟩, .inr ⟨5, rfl⟩, .inr ⟨6, rfl⟩, .inr ⟨7, rfl⟩, .inr ⟨8, rfl⟩, trivial⟩); clear hT78 hS77
   refine wl_nil ?_
   refine then_n ?_
   rcases Bool.eq_false_or_eq_true ((leaveB rs.length A m (l ++ [(k : Int)]) (k + 1))) with hb83 | hb83
   ·skip
    rw [hb83] at hA74
    refine c_true hA74 rfl ?_
    refine c_seq ?_
    have hA84 := hA74.as [] rfl; clear hA74
    refine c_region ?_
    refine st hA84 (op_assign rfl (evc _ _)) rfl rfl (by decide) fun a85 hA86 => ?_; clear hA84 a73
    refine wl_nil ?_
    refine then_n ?_
    refine c_ret ?_
    refine blk_ret ?_
    refine then_ret ?_
    refine then_ret ?_
    refine blk_ret ?_
    refine then_ret ?_
    refine fin_run hA86 (.inl rfl) (run_results1 hA86 rfl (.tmp rfl)) ?_
    have hh := leave_hit (A := A) hk1 (by omega) hno (by assumption) (hf81 (by assumption))
    rw [hh.1]
    exact ⟨rfl, _, _, fun _ => hh.2, hS82.keep [10, 1, 2, 3, 4, 5, 6, 7, 8] (by decide) _ rfl rfl⟩
   ·skip
    rw [hb83] at hA74
    refine c_false hA74 rfl ?_
    refine c_skip ?_
    refine blk_n ?_
    refine then_n ?_
    refine c_region ?_
    refine st hA74 (op_move rfl (hA74.ev rfl)) rfl rfl (by decide) fun a87 hA88 => ?_; clear hA74 a73
    refine st hA88 (op_add rfl (hA88.ev rfl) (evc _ _) (by omega) (by omega)) rfl rfl (by decide) fun a89 hA90 => ?_; clear hA88 a87
    refine st hA90 (op_assign rfl (hA90.ev rfl)) rfl rfl (by decide) fun a91 hA92 => ?_; clear hA90 a89
    refine wl_nil ?_
    have hS93 : Sep X w w75 [(blk b4 40 [xl]), (row xl 3 1 l.length (ints l)), (blk bb 40 [vb79]), (row vb79 3 1 best80.length (ints best80)), (rob bs 120 [(Value.func (.func 71) #[] #[(bptr bb 0), (bptr ba 0), (bptr br 0), (bptr bs 0)])]), (rob ba 38 [va]), (rob br 35 [vu]), (sl va 1 ov.length ov), (lstRo ov A), (sl vu 3 rs.length (vtrips (runV lv rs)))] := hS82.keep [9, 10, 1, 2, 3, 4, 5, 6, 7, 8] (by decide) _ rfl rfl; clear hS82
    exact then_n ⟨k + 1, ⟨vb79, best80, hA92.as _ rfl, hS93, by omega, by omega, leave_go hk1 hno (by assumption)⟩, by omega⟩
 ·skip
  rw [decide_eq_false hb31] at hA30
  refine c_false hA30 rfl ?_
  refine c_exit ?_
  refine then_exit ?_
  refine then_exit ?_
  refine blk_hit ?_
  refine then_n ?_
  refine c_seq ?_
  have hA94 := hA30.as [] rfl; clear hA30
  refine c_region ?_
  refine st hA94 (op_assign rfl (evc _ _)) rfl rfl (by decide) fun a95 hA96 => ?_; clear hA94 a29
  refine wl_nil ?_
  refine then_n ?_
  refine c_ret ?_
  refine fin_run hA96 (.inl rfl) (run_results1 hA96 rfl (.tmp rfl)) ?_
  have he := leave_end (A := A) (l := l) hk2 (by omega) hno
  rw [he]
  exact ⟨rfl, _, _, (fun h => absurd h (by decide)), hS22.keep [1, 2, 3, 4, 5, 6, 7, 8, 9] (by decide) _ rfl rfl⟩
theorem leave_ok (bb ba br bs : Nat) (va vu : Value) (ov lv : List Value) (A : List (List Int)) (rs : List RunD) (hlv : lv.length = rs.length) (hAl : A.length ≤ 1000000) (hAs : ∀ i, (A.getD i []).length ≤ 1000000) (hrl : rs.length ≤ 1000) : ∀ (m : Nat) (l : List Int) (next : Nat) (xl vb : Value) (best : List Int) (w : World) (X : Nat → Prop) (hl : l.length + m ≤ 1000) (_ : Sep X w w [(row xl 3 1 l.length (ints l)), (blk bb 40 [vb]), (row vb 3 1 best.length (ints best)), (rob bs 120 [(Value.func (.func 71) #[] #[(bptr bb 0), (bptr ba 0), (bptr br 0), (bptr bs 0)])]), (rob ba 38 [va]), (rob br 35 [vu]), (sl va 1 ov.length ov), (lstRo ov A), (sl vu 3 rs.length (vtrips (runV lv rs)))]), Calls Try.prog 71 #[xl, .int .i64 (next : Int), .int .i64 (m : Int), bptr bb 0, bptr ba 0, bptr br 0, bptr bs 0] w (Ret fun v w' => v = .bool (leaveB rs.length A m l next) ∧ ∃ vb' best', (leaveB rs.length A m l next = true → (setsF rs.length m l next).find? (okB A) = some best') ∧ Sep X w w' [(row xl 3 1 l.length (ints l)), (blk bb 40 [vb']), (row vb' 3 1 best'.length (ints best')), (rob bs 120 [(Value.func (.func 71) #[] #[(bptr bb 0), (bptr ba 0), (bptr br 0), (bptr bs 0)])]), (rob ba 38 [va]), (rob br 35 [vu]), (sl va 1 ov.length ov), (lstRo ov A), (sl vu 3 rs.length (vtrips (runV lv rs)))]) := by
 intro m
 induction m with
 | zero => intro l next xl vb best w X hl hJ; exact leave_zero bb ba br bs va vu ov lv A rs hlv hAl hAs hrl l next xl vb best w X hl hJ
 | succ m ih => intro l next xl vb best w X hl hJ; exact leave_succ bb ba br bs va vu ov lv A rs hlv hAl hAs hrl m ih l next xl vb best w X hl hJ
end Go.Proofs.Ytkkglkdnnfegkaa
