/-
  Walks through the functions of the seat, printed by a program of ours (gowalk), a theorem a function: what the call returns and what it leaves in memory.
-/
import Derived.Test.YtfhmigoddaaljaaFc
import Derived.Test.YtfhmigoddaaljaaPlain
set_option linter.unusedSimpArgs false
set_option linter.unusedVariables false
namespace Go.Proofs.Ytfhmigoddaaljaa
open Go.RowKit Go.Shelf Go.Eng
theorem list_ok (xs : List Int) (v : Value) (w : World) (hv : SlAt w v 1 xs.length (ints xs)) (hlen : xs.length ≤ 1000000) :
  Calls Try.prog 22 #[v] w (Ret fun v w' => Ext NoB w w' ∧ w'.ownsRow w.heap.size 3 1 v xs.length (ints xs)) := by
 refine calls_enter Try.func22 rfl fun a0 hA0 => ?_
 replace hA0 : Fr 6 [] [(0, v)] a0 := hA0
 have hS0 : Sep NoB w w [(sl v 1 xs.length (ints xs))] := sep_ro ⟨rfl, hv, trivial⟩
 refine c_seq ?_
 refine c_region ?_
 refine st hA0 (op_assign rfl (evc _ _)) rfl rfl (by decide) fun a1 hA2 => ?_; clear hA0 a0
 refine wl_nil ?_
 refine then_n ?_
 refine c_seq ?_
 refine c_region ?_
 refine stw hA2 (op_buildSlice hS0 rfl pv0 un_23 ty_3 ze_3 (by decide) (cs := []) bs_3_0_) rfl rfl (by decide) ?_
 rintro a3 _ w5 ⟨b6, rfl, hS7⟩ hA4; clear hA2 hS0 a1
 refine st hA4 (op_move rfl (hA4.ev rfl)) rfl rfl (by decide) fun a8 hA9 => ?_; clear hA4 a3
 have hS10 := hS7.blk_row (i := 0) (sz := 1) (n := 0) rfl rfl (by decide); clear hS7
 refine stw hA9 (op_append hS10 rfl un_23 el_3 (hA9.ev rfl) (hA9.ev rfl) (i := 0) rfl (hS10.sk 1 rfl) (ints_one _) (by simp only [maxLen]; omega) (by omega)) rfl rfl (by decide) ?_
 intro a11 v14 w13 hS15 hA12
 have hS16 := hS15.row_say (i := 0) rfl (n' := xs.length) (xs' := (ints xs)) (by simp) (by simp); clear hS15 hA9 hS10 a8
 refine st hA12 (op_assign rfl (hA12.ev rfl)) rfl rfl (by decide) fun a17 hA18 => ?_; clear hA12 a11
 refine wl_nil ?_
 refine then_n ?_
 refine c_ret ?_
 refine fin_run hA18 (.inl rfl) (run_results1 hA18 rfl (.tmp rfl)) ?_
 exact ⟨hS16.ext, hS16.row_new (i := 0) rfl⟩

theorem getD_ext {xs ys : List Int} (h : xs.length = ys.length) (hn : ∀ i, i < xs.length → xs.getD i 0 = ys.getD i 0) : xs = ys := by
 apply List.ext_getElem h
 intro i h1 h2
 have := hn i h1
 simpa [List.getD, h1, h2] using this

theorem ints_ok (xs ys : List Int) (va vb : Value) (w : World) (hv : SlAt w va 1 xs.length (ints xs)) (hv2 : SlAt w vb 1 ys.length (ints ys)) (hlen : xs.length ≤ 1000000) :
  Calls Try.prog 30 #[va, vb] w (Ret fun v w' => v = .bool (decide (xs = ys)) ∧ Ext NoB w w') := by
 refine calls_enter Try.func30 rfl fun a0 hA0 => ?_
 replace hA0 : Fr 26 [] [(0, va), (1, vb)] a0 := hA0
 have hS0 : Sep NoB w w [(sl va 1 xs.length (ints xs)), (sl vb 1 ys.length (ints ys))] := sep_ro ⟨rfl, hv, rfl, hv2, trivial⟩
 refine c_seq ?_
 refine c_region ?_
 refine st hA0 (op_assign rfl (evc _ _)) rfl rfl (by decide) fun a1 hA2 => ?_; clear hA0 a0
 refine wl_nil ?_
 refine then_n ?_
 refine c_seq ?_
 refine c_seq ?_
 refine c_region ?_
 refine st hA2 (op_move rfl (hA2.ev rfl)) rfl rfl (by decide) fun a3 hA4 => ?_; clear hA2 a1
 refine st hA4 (op_lenS rfl un_23 (hA4.ev rfl) (hS0.ok 0 _ rfl)) rfl rfl (by decide) fun a5 hA6 => ?_; clear hA4 a3
 refine st hA6 (op_move rfl (hA6.ev rfl)) rfl rfl (by decide) fun a7 hA8 => ?_; clear hA6 a5
 refine st hA8 (op_lenS rfl un_23 (hA8.ev rfl) (hS0.ok 1 _ rfl)) rfl rfl (by decide) fun a9 hA10 => ?_; clear hA8 a7
 refine st hA10 (op_neq rfl (hA10.ev rfl) (hA10.ev rfl)) rfl rfl (by decide) fun a11 hA12 => ?_; clear hA10 a9
 refine wl_nil ?_
 refine then_n ?_
 by_cases hb13 : (xs.length : Int) = (ys.length : Int)
 ·skip
  rw [decide_eq_true hb13] at hA12
  refine c_false hA12 rfl ?_
  refine c_skip ?_
  refine then_n ?_
  refine c_seq ?_
  refine c_seq ?_
  have hA14 := hA12.as [(0, va), (1, vb)] rfl; clear hA12
  refine c_region ?_
  refine st hA14 (op_assign rfl (evc _ _)) rfl rfl (by decide) fun a15 hA16 => ?_; clear hA14 a11
  refine wl_nil ?_
  refine then_n ?_
  refine c_block ?_
  have hA17 := hA16.as [(5, (Value.int .i64 0)), (0, va), (1, vb)] rfl; clear hA16
  refine c_loop (G := Nat) (fun (k : Nat) a_ w_ => Fr 26 [] [(5, (Value.int .i64 (k : Int))), (0, va), (1, vb)] a_ ∧ Sep NoB w w_ [(sl va 1 xs.length (ints xs)), (sl vb 1 ys.length (ints ys))] ∧ (k ≤ xs.length) ∧ (∀ i, i < k → xs.getD i 0 = ys.getD i 0)) (fun k => xs.length - k) 0 ⟨hA17.as _ rfl, hS0, by omega, by omega⟩ ?_
  clear hA17 hS0 a15
  rintro k a18 w20 ⟨hA19, hS21, hk, hn⟩
  refine c_seq ?_
  refine c_seq ?_
  refine c_region ?_
  refine st hA19 (op_move rfl (hA19.ev rfl)) rfl rfl (by decide) fun a22 hA23 => ?_; clear hA19 a18
  refine st hA23 (op_move rfl (hA23.ev rfl)) rfl rfl (by decide) fun a24 hA25 => ?_; clear hA23 a22
  refine st hA25 (op_lenS rfl un_23 (hA25.ev rfl) (hS21.ok 0 _ rfl)) rfl rfl (by decide) fun a26 hA27 => ?_; clear hA25 a24
  refine st hA27 (op_lss rfl (hA27.ev rfl) (hA27.ev rfl)) rfl rfl (by decide) fun a28 hA29 => ?_; clear hA27 a26
  refine wl_nil ?_
  refine then_n ?_
  by_cases hb30 : (k : Int) < (xs.length : Int)
  ·skip
   rw [decide_eq_true hb30] at hA29
   refine c_true hA29 rfl ?_
   refine c_skip ?_
   refine then_n ?_
   refine c_seq ?_
   refine c_block ?_
   refine c_seq ?_
   have hA31 := hA29.as [(5, (Value.int .i64 (k : Int))), (0, va), (1, vb)] rfl; clear hA29
   refine c_drawV mixed hA31 hS21 8 [[], [], [0, 1], [2], [], [], [4, 5], [6]] [(fun (vs32 : Nat → Value) (v_ : Value) (rs_ : List Res) => v_ = va ∧ rs_ = []), (fun (vs32 : Nat → Value) (v_ : Value) (rs_ : List Res) => v_ = (Value.int .i64 (k : Int)) ∧ rs_ = []), (fun (vs32 : Nat → Value) (v_ : Value) (rs_ : List Res) => v_ = (eptr va (k * 1)) ∧ rs_ = []), (fun (vs32 : Nat → Value) (v_ : Value) (rs_ : List Res) => v_ = (Value.int .i64 (xs.getD k 0)) ∧ rs_ = []), (fun (vs32 : Nat → Value) (v_ : Value) (rs_ : List Res) => v_ = vb ∧ rs_ = []), (fun (vs32 : Nat → Value) (v_ : Value) (rs_ : List Res) => v_ = (Value.int .i64 (k : Int)) ∧ rs_ = []), (fun (vs32 : Nat → Value) (v_ : Value) (rs_ : List Res) => v_ = (eptr vb (k * 1)) ∧ rs_ = []), (fun (vs32 : Nat → Value) (v_ : Value) (rs_ : List Res) => v_ = (Value.int .i64 (ys.getD k 0)) ∧ rs_ = [])] (by decide +kernel) (by decide +kernel) rfl rfl ⟨(fun _ _ _ _ _ h_ => h_), (fun _ _ _ _ _ h_ => h_), (fun _ _ _ _ _ h_ => h_), (fun _ _ _ _ _ h_ => h_), (fun _ _ _ _ _ h_ => h_), (fun _ _ _ _ _ h_ => h_), (fun _ _ _ _ _ h_ => h_), (fun _ _ _ _ _ h_ => h_), trivial⟩ ?_ ?_
   ·skip
    refine ⟨fun a w vs32 hA hS hd => ?_, ?_⟩
    ·skip
     exact opG_of rfl (vv (op_move rfl (hA.ev rfl)) (And.intro rfl rfl))
    refine ⟨fun a w vs32 hA hS hd => ?_, ?_⟩
    ·skip
     exact opG_of rfl (vv (op_move rfl (hA.ev rfl)) (And.intro rfl rfl))
    refine ⟨fun a w vs32 hA hS hd => ?_, ?_⟩
    ·skip
     obtain ⟨e0, rs0, hy0, hp0⟩ := hd 0 (by decide)
     obtain ⟨hv0, hr0⟩ := hy0; subst hr0
     rw [hv0] at e0
     obtain ⟨e1, rs1, hy1, hp1⟩ := hd 1 (by decide)
     obtain ⟨hv1, hr1⟩ := hy1; subst hr1
     rw [hv1] at e1
     exact opG_of rfl (vv (op_indexS rfl un_23 ty_3 (tmp_ev (slot_ev e0 rfl)) (i := k) (tmp_ev (slot_ev e1 rfl)) (hS.ok 0 _ rfl) (by decide) (by omega)) (And.intro rfl rfl))
    refine ⟨fun a w vs32 hA hS hd => ?_, ?_⟩
    ·skip
     obtain ⟨e2, rs2, hy2, hp2⟩ := hd 2 (by decide)
     obtain ⟨hv2, hr2⟩ := hy2; subst hr2
     rw [hv2] at e2
     exact opG_of rfl (vv (op_load1E rfl ty_3 (tmp_ev (slot_ev e2 rfl)) (hS.ok 0 _ rfl) (ints_at (by omega))) (And.intro rfl rfl))
    refine ⟨fun a w vs32 hA hS hd => ?_, ?_⟩
    ·skip
     exact opG_of rfl (vv (op_move rfl (hA.ev rfl)) (And.intro rfl rfl))
    refine ⟨fun a w vs32 hA hS hd => ?_, ?_⟩
    ·skip
     exact opG_of rfl (vv (op_move rfl (hA.ev rfl)) (And.intro rfl rfl))
    refine ⟨fun a w vs32 hA hS hd => ?_, ?_⟩
    ·skip
     obtain ⟨e4, rs4, hy4, hp4⟩ := hd 4 (by decide)
     obtain ⟨hv4, hr4⟩ := hy4; subst hr4
     rw [hv4] at e4
     obtain ⟨e5, rs5, hy5, hp5⟩ := hd 5 (by decide)
     obtain ⟨hv5, hr5⟩ := hy5; subst hr5
     rw [hv5] at e5
     exact opG_of rfl (vv (op_indexS rfl un_23 ty_3 (tmp_ev (slot_ev e4 rfl)) (i := k) (tmp_ev (slot_ev e5 rfl)) (hS.ok 1 _ rfl) (by decide) (by omega)) (And.intro rfl rfl))
    refine ⟨fun a w vs32 hA hS hd => ?_, ?_⟩
    ·skip
     obtain ⟨e6, rs6, hy6, hp6⟩ := hd 6 (by decide)
     obtain ⟨hv6, hr6⟩ := hy6; subst hr6
     rw [hv6] at e6
     exact opG_of rfl (vv (op_load1E rfl ty_3 (tmp_ev (slot_ev e6 rfl)) (hS.ok 1 _ rfl) (ints_at (by omega))) (And.intro rfl rfl))
    trivial
   intro a33 w34 vs32 rsf38 hA35 hH37 hS36; clear hA31 hS21
   obtain ⟨hs_0, hy_0⟩ := hH37 0 (by decide)
   obtain ⟨hv_0, hr_0⟩ := hy_0
   obtain ⟨hs_1, hy_1⟩ := hH37 1 (by decide)
   obtain ⟨hv_1, hr_1⟩ := hy_1
   obtain ⟨hs_2, hy_2⟩ := hH37 2 (by decide)
   obtain ⟨hv_2, hr_2⟩ := hy_2
   obtain ⟨hs_3, hy_3⟩ := hH37 3 (by decide)
   obtain ⟨hv_3, hr_3⟩ := hy_3
   obtain ⟨hs_4, hy_4⟩ := hH37 4 (by decide)
   obtain ⟨hv_4, hr_4⟩ := hy_4
   obtain ⟨hs_5, hy_5⟩ := hH37 5 (by decide)
   obtain ⟨hv_5, hr_5⟩ := hy_5
   obtain ⟨hs_6, hy_6⟩ := hH37 6 (by decide)
   obtain ⟨hv_6, hr_6⟩ := hy_6
   obtain ⟨hs_7, hy_7⟩ := hH37 7 (by decide)
   obtain ⟨hv_7, hr_7⟩ := hy_7
   have hS39 : Sep NoB w w34 [(sl va 1 xs.length (ints xs)), (sl vb 1 ys.length (ints ys))] := by rw [show catR rsf38 0 8 = ([] : List Res) by (try simp only [catR, hr_0, hr_1, hr_2, hr_3, hr_4, hr_5, hr_6, hr_7]); (try rfl)] at hS36; exact hS36
   rw [hv_3] at hs_3
   have hA40 : Fr 26 [] [(20, (Value.int .i64 (xs.getD k 0))), (5, (Value.int .i64 (k : Int))), (0, va), (1, vb)] a33 := hA35.add (slot_ev hs_3 rfl); clear hA35
   rw [hv_7] at hs_7
   have hA41 : Fr 26 [] [(24, (Value.int .i64 (ys.getD k 0))), (20, (Value.int .i64 (xs.getD k 0))), (5, (Value.int .i64 (k : Int))), (0, va), (1, vb)] a33 := hA40.add (slot_ev hs_7 rfl); clear hA40
   clear hH37 hS36 hs_0 hs_1 hs_2 hs_3 hs_4 hs_5 hs_6 hs_7
   clear hr_0
   clear hv_0
   clear hr_1
   clear hv_1
   clear hr_2
   clear hv_2
   clear hr_3
   clear hv_3
   clear hr_4
   clear hv_4
   clear hr_5
   clear hv_5
   clear hr_6
   clear hv_6
   clear hr_7
   clear hv_7
   refine st hA41 (op_neq rfl (hA41.ev rfl) (hA41.ev rfl)) rfl rfl (by decide) fun a42 hA43 => ?_; clear hA41 a33
   refine wl_nil ?_
   refine then_n ?_
   by_cases hb44 : (xs.getD k 0) = (ys.getD k 0)
   ·skip
    rw [decide_eq_true hb44] at hA43
    refine c_false hA43 rfl ?_
    refine c_skip ?_
    refine blk_n ?_
    refine then_n ?_
    refine c_region ?_
    refine st hA43 (op_move rfl (hA43.ev rfl)) rfl rfl (by decide) fun a45 hA46 => ?_; clear hA43 a42
    refine st hA46 (op_add rfl (hA46.ev rfl) (evc _ _) (by omega) (by omega)) rfl rfl (by decide) fun a47 hA48 => ?_; clear hA46 a45
    refine st hA48 (op_assign rfl (hA48.ev rfl)) rfl rfl (by decide) fun a49 hA50 => ?_; clear hA48 a47
    refine wl_nil ?_
    exact then_n ⟨k + 1, ⟨hA50.as _ rfl, hS39, by omega, (fun i hi => by rcases Nat.lt_succ_iff_lt_or_eq.1 hi with h | h; exact hn i h; subst h; assumption)⟩, by omega⟩
   ·skip
    rw [decide_eq_false hb44] at hA43
    refine c_true hA43 rfl ?_
    refine c_seq ?_
    have hA51 := hA43.as [] rfl; clear hA43
    refine c_region ?_
    refine st hA51 (op_assign rfl (evc _ _)) rfl rfl (by decide) fun a52 hA53 => ?_; clear hA51 a42
    refine wl_nil ?_
    refine then_n ?_
    refine c_ret ?_
    refine blk_ret ?_
    refine then_ret ?_
    refine then_ret ?_
    refine blk_ret ?_
    refine then_ret ?_
    refine fin_run hA53 (.inl rfl) (run_results1 hA53 rfl (.tmp rfl)) ?_
    exact ⟨congrArg Value.bool (by first | exact (decide_eq_true (getD_ext (by omega) (fun i hi => hn i (by omega)))).symm | exact (decide_eq_false (fun e => by subst e; omega)).symm), hS39.ext⟩
  ·skip
   rw [decide_eq_false hb30] at hA29
   refine c_false hA29 rfl ?_
   refine c_exit ?_
   refine then_exit ?_
   refine then_exit ?_
   refine blk_hit ?_
   refine then_n ?_
   refine c_seq ?_
   have hA54 := hA29.as [] rfl; clear hA29
   refine c_region ?_
   refine st hA54 (op_assign rfl (evc _ _)) rfl rfl (by decide) fun a55 hA56 => ?_; clear hA54 a28
   refine wl_nil ?_
   refine then_n ?_
   refine c_ret ?_
   refine fin_run hA56 (.inl rfl) (run_results1 hA56 rfl (.tmp rfl)) ?_
   exact ⟨congrArg Value.bool (by first | exact (decide_eq_true (getD_ext (by omega) (fun i hi => hn i (by omega)))).symm | exact (decide_eq_false (fun e => by subst e; omega)).symm), hS21.ext⟩
 ·skip
  rw [decide_eq_false hb13] at hA12
  refine c_true hA12 rfl ?_
  refine c_seq ?_
  have hA57 := hA12.as [] rfl; clear hA12
  refine c_region ?_
  refine st hA57 (op_assign rfl (evc _ _)) rfl rfl (by decide) fun a58 hA59 => ?_; clear hA57 a11
  refine wl_nil ?_
  refine then_n ?_
  refine c_ret ?_
  refine then_ret ?_
  refine fin_run hA59 (.inl rfl) (run_results1 hA59 rfl (.tmp rfl)) ?_
  exact ⟨congrArg Value.bool (by first | exact (decide_eq_true (getD_ext (by omega) (fun i hi => hn i (by omega)))).symm | exact (decide_eq_false (fun e => by subst e; omega)).symm), hS0.ext⟩

theorem trial_ok (w : World) :
  Calls Try.prog 40 #[] w (Ret fun v w' => ∃ vl vs vb lv, v = .agg #[vl, vs, .int .i64 trialD.spread, vb] ∧ Sep NoB w w' [rndR true vl vs vb lv trialD]) := by
 refine calls_enter Try.func40 rfl fun a0 hA0 => ?_
 replace hA0 : Fr 15 [] [] a0 := hA0
 have hS0 : Sep NoB w w [] := Sep.start _ _
 refine c_seq ?_
 refine c_region ?_
 refine stw hA0 (op_alloc hS0 rfl ze_34 (cs := [(Value.slice none 0 0), (Value.slice none 0 0), (Value.int .i64 0), (Value.slice none 0 0)]) rfl) rfl rfl (by decide) ?_
 rintro a1 _ w3 ⟨b4, rfl, hS5⟩ hA2; clear hA0 hS0 a0
 refine wl_nil ?_
 refine then_n ?_
 refine c_seq ?_
 refine c_region ?_
 refine st hA2 (op_build rfl (pv2 (evc _ _) (evc _ _)) (bd_46_0i_1i _ _)) rfl rfl (by decide) fun a6 hA7 => ?_; clear hA2 a1
 refine st hA7 (op_build rfl (pv2 (evc _ _) (evc _ _)) (bd_46_0i_1i _ _)) rfl rfl (by decide) fun a8 hA9 => ?_; clear hA7 a6
 refine stw hA9 (op_buildSlice hS5 rfl (pv2 (hA9.ev rfl) (hA9.ev rfl)) un_31 ty_46 ze_46 (by decide) (cs := [(Value.int .i64 100), (Value.int .i64 140), (Value.int .i64 200), (Value.int .i64 260)]) (bs_46_2_0iia_1iia _ _ _ _)) rfl rfl (by decide) ?_
 rintro a10 _ w12 ⟨b13, rfl, hS14⟩ hA11; clear hA9 hS5 a8
 refine stw hA11 (op_buildSlice hS14 rfl (pv3 (evc _ _) (evc _ _) (evc _ _)) un_23 ty_3 ze_3 (by decide) (cs := [(Value.int .i64 0), (Value.int .i64 0), (Value.int .i64 1)]) (bs_3_3_0i_1i_2i _ _ _)) rfl rfl (by decide) ?_
 rintro a15 _ w17 ⟨b18, rfl, hS19⟩ hA16; clear hA11 hS14 a10
 refine stw hA16 (op_buildSlice hS19 rfl (pv3 (evc _ _) (evc _ _) (evc _ _)) un_23 ty_3 ze_3 (by decide) (cs := [(Value.int .i64 120), (Value.int .i64 122), (Value.int .i64 230)]) (bs_3_3_0i_1i_2i _ _ _)) rfl rfl (by decide) ?_
 rintro a20 _ w22 ⟨b23, rfl, hS24⟩ hA21; clear hA16 hS19 a15
 refine st hA21 (op_build rfl (pv2 (evc _ _) (hA21.ev rfl)) (bd_75_0i_1s _ _ ⟨_, _, _, rfl⟩)) rfl rfl (by decide) fun a25 hA26 => ?_; clear hA21 a20
 refine stw hA26 (op_buildSlice hS24 rfl (pv3 (evc _ _) (evc _ _) (evc _ _)) un_23 ty_3 ze_3 (by decide) (cs := [(Value.int .i64 124), (Value.int .i64 121), (Value.int .i64 234)]) (bs_3_3_0i_1i_2i _ _ _)) rfl rfl (by decide) ?_
 rintro a27 _ w29 ⟨b30, rfl, hS31⟩ hA28; clear hA26 hS24 a25
 refine st hA28 (op_build rfl (pv2 (evc _ _) (hA28.ev rfl)) (bd_75_0i_1s _ _ ⟨_, _, _, rfl⟩)) rfl rfl (by decide) fun a32 hA33 => ?_; clear hA28 a27
 refine stw hA33 (op_buildSlice hS31 rfl (pv3 (evc _ _) (evc _ _) (evc _ _)) un_23 ty_3 ze_3 (by decide) (cs := [(Value.int .i64 131), (Value.int .i64 133), (Value.int .i64 240)]) (bs_3_3_0i_1i_2i _ _ _)) rfl rfl (by decide) ?_
 rintro a34 _ w36 ⟨b37, rfl, hS38⟩ hA35; clear hA33 hS31 a32
 refine st hA35 (op_build rfl (pv2 (evc _ _) (hA35.ev rfl)) (bd_75_0i_1s _ _ ⟨_, _, _, rfl⟩)) rfl rfl (by decide) fun a39 hA40 => ?_; clear hA35 a34
 refine stw hA40 (op_buildSlice hS38 rfl (pv3 (evc _ _) (evc _ _) (evc _ _)) un_23 ty_3 ze_3 (by decide) (cs := [(Value.int .i64 (-1)), (Value.int .i64 118), (Value.int .i64 229)]) (bs_3_3_0i_1i_2i _ _ _)) rfl rfl (by decide) ?_
 rintro a41 _ w43 ⟨b44, rfl, hS45⟩ hA42; clear hA40 hS38 a39
 refine st hA42 (op_build rfl (pv2 (evc _ _) (hA42.ev rfl)) (bd_75_0i_1s _ _ ⟨_, _, _, rfl⟩)) rfl rfl (by decide) fun a46 hA47 => ?_; clear hA42 a41
 refine stw hA47 (op_buildSlice hS45 rfl (pv4 (hA47.ev rfl) (hA47.ev rfl) (hA47.ev rfl) (hA47.ev rfl)) un_32 ty_75 ze_75 (by decide) (cs := [(Value.int .i64 3), (Value.slice (some ⟨b23, 0, none⟩) 3 3), (Value.int .i64 3), (Value.slice (some ⟨b30, 0, none⟩) 3 3), (Value.int .i64 2), (Value.slice (some ⟨b37, 0, none⟩) 3 3), (Value.int .i64 5), (Value.slice (some ⟨b44, 0, none⟩) 3 3)]) (bs_75_4_0iva_1iva_2iva_3iva _ _ _ _ _ _ _ _)) rfl rfl (by decide) ?_
 rintro a48 _ w50 ⟨b51, rfl, hS52⟩ hA49; clear hA47 hS45 a46
 refine st hA49 (op_build rfl (pv4 (hA49.ev rfl) (hA49.ev rfl) (evc _ _) (hA49.ev rfl)) (bd_34_0s_1s_2i_3s _ ⟨_, _, _, rfl⟩ _ ⟨_, _, _, rfl⟩ _ _ ⟨_, _, _, rfl⟩)) rfl rfl (by decide) fun a53 hA54 => ?_; clear hA49 a48
 refine sts hA54 (op_store hS52 rfl ty_34 (hA54.ev rfl) (hA54.ev rfl) (i := 7) rfl (vs := [(Value.slice (some ⟨b13, 0, none⟩) 2 2), (Value.slice (some ⟨b18, 0, none⟩) 3 3), (Value.int .i64 2), (Value.slice (some ⟨b51, 0, none⟩) 4 4)]) rfl rfl (all_c rfl (all_c rfl (all_c rfl (all_c rfl all_n)))) (Nat.le_of_ble_eq_true rfl)) rfl rfl ?_
 intro _ w55 hS56 hA57; clear hA54
 have hS58 : Sep NoB w w55 [(blk b51 75 [(Value.int .i64 3), (Value.slice (some ⟨b23, 0, none⟩) 3 3), (Value.int .i64 3), (Value.slice (some ⟨b30, 0, none⟩) 3 3), (Value.int .i64 2), (Value.slice (some ⟨b37, 0, none⟩) 3 3), (Value.int .i64 5), (Value.slice (some ⟨b44, 0, none⟩) 3 3)]), (blk b44 3 [(Value.int .i64 (-1)), (Value.int .i64 118), (Value.int .i64 229)]), (blk b37 3 [(Value.int .i64 131), (Value.int .i64 133), (Value.int .i64 240)]), (blk b30 3 [(Value.int .i64 124), (Value.int .i64 121), (Value.int .i64 234)]), (blk b23 3 [(Value.int .i64 120), (Value.int .i64 122), (Value.int .i64 230)]), (blk b18 3 [(Value.int .i64 0), (Value.int .i64 0), (Value.int .i64 1)]), (blk b13 46 [(Value.int .i64 100), (Value.int .i64 140), (Value.int .i64 200), (Value.int .i64 260)]), (blk b4 34 [(Value.slice (some ⟨b13, 0, none⟩) 2 2), (Value.slice (some ⟨b18, 0, none⟩) 3 3), (Value.int .i64 2), (Value.slice (some ⟨b51, 0, none⟩) 4 4)])] := hS56; clear hS56 hS52
 refine wl_nil ?_
 refine then_n ?_
 refine c_ret ?_
 refine fin_run hA57 (.inl rfl) (run_results1 hA57 rfl (.cellA rfl ty_34 (hS58.bk 7 rfl) (l := [(Value.slice (some ⟨b13, 0, none⟩) 2 2), (Value.slice (some ⟨b18, 0, none⟩) 3 3), (Value.int .i64 2), (Value.slice (some ⟨b51, 0, none⟩) 4 4)]) rfl rfl)) ?_
 refine ⟨_, _, _, [(Value.slice (some ⟨b23, 0, none⟩) 3 3), (Value.slice (some ⟨b30, 0, none⟩) 3 3), (Value.slice (some ⟨b37, 0, none⟩) 3 3), (Value.slice (some ⟨b44, 0, none⟩) 3 3)], rfl, ?_⟩
 have hj := hS58.keep [6, 5, 0, 4, 3, 2, 1] (by decide) _ rfl rfl
 refine joinN (A := [(blk b13 46 [(Value.int .i64 100), (Value.int .i64 140), (Value.int .i64 200), (Value.int .i64 260)]), (blk b18 3 [(Value.int .i64 0), (Value.int .i64 0), (Value.int .i64 1)]), (blk b51 75 [(Value.int .i64 3), (Value.slice (some ⟨b23, 0, none⟩) 3 3), (Value.int .i64 3), (Value.slice (some ⟨b30, 0, none⟩) 3 3), (Value.int .i64 2), (Value.slice (some ⟨b37, 0, none⟩) 3 3), (Value.int .i64 5), (Value.slice (some ⟨b44, 0, none⟩) 3 3)]), (blk b23 3 [(Value.int .i64 120), (Value.int .i64 122), (Value.int .i64 230)]), (blk b30 3 [(Value.int .i64 124), (Value.int .i64 121), (Value.int .i64 234)]), (blk b37 3 [(Value.int .i64 131), (Value.int .i64 133), (Value.int .i64 240)]), (blk b44 3 [(Value.int .i64 (-1)), (Value.int .i64 118), (Value.int .i64 229)])]) (L := []) hj ⟨(SlAt.of_blk (hS58.bk 6 rfl) rfl (by decide)), (SlAt.of_blk (hS58.bk 5 rfl) rfl (by decide)), (SlAt.of_blk (hS58.bk 0 rfl) rfl (by decide)), fun i hi => ?_, rfl, rfl⟩ (fun b hb => ?_) rfl
 ·match i, hi with
  | 0, _ => exact (SlAt.of_blk (hS58.bk 4 rfl) rfl (by decide))
  | 1, _ => exact (SlAt.of_blk (hS58.bk 3 rfl) rfl (by decide))
  | 2, _ => exact (SlAt.of_blk (hS58.bk 2 rfl) rfl (by decide))
  | 3, _ => exact (SlAt.of_blk (hS58.bk 1 rfl) rfl (by decide))
  | i + 4, hi => exact absurd hi (by simp [trialD])
 ·rcases hb with hb | hb | hb | ⟨i, hi, hb⟩
  ·exact ⟨_, List.mem_of_getElem? (i := 0) rfl, (Option.some.inj (slFoot_row hb)).symm⟩
  ·exact ⟨_, List.mem_of_getElem? (i := 1) rfl, (Option.some.inj (slFoot_row hb)).symm⟩
  ·exact ⟨_, List.mem_of_getElem? (i := 2) rfl, (Option.some.inj (slFoot_row hb)).symm⟩
  ·match i, hi, hb with
   | 0, _, hb => exact ⟨_, List.mem_of_getElem? (i := 3) rfl, (Option.some.inj (slFoot_row hb)).symm⟩
   | 1, _, hb => exact ⟨_, List.mem_of_getElem? (i := 4) rfl, (Option.some.inj (slFoot_row hb)).symm⟩
   | 2, _, hb => exact ⟨_, List.mem_of_getElem? (i := 5) rfl, (Option.some.inj (slFoot_row hb)).symm⟩
   | 3, _, hb => exact ⟨_, List.mem_of_getElem? (i := 6) rfl, (Option.some.inj (slFoot_row hb)).symm⟩
   | i + 4, hi, _ => exact absurd hi (by simp [trialD])

end Go.Proofs.Ytfhmigoddaaljaa

namespace Go.Proofs.Ytfhmigoddaaljaa
open Go.RowKit Go.Shelf Go.Eng
theorem wakes_ok (w : World) :
  Calls Try.prog 18 #[] w (Ret fun v w' => v = .bool true ∧ Ext NoB w w') := by
 refine calls_enter Try.func18 rfl fun a0 hA0 => ?_
 replace hA0 : Fr 99 [] [] a0 := hA0
 have hS0 : Sep NoB w w [] := Sep.start _ _
 refine c_seq ?_
 refine c_region ?_
 refine st hA0 (op_assign rfl (evc _ _)) rfl rfl (by decide) fun a1 hA2 => ?_; clear hA0 a0
 refine wl_nil ?_
 refine then_n ?_
 refine c_seq ?_
 refine c_region ?_
 refine stw hA2 (op_call rfl en_40 ev0 (trial_ok _)) rfl rfl (by decide) ?_
 rintro a3 _ w5 ⟨vl6, vs7, vb8, lv9, rfl, hT10⟩ hA4; have hS11 := hS0.callS hT10 rfl; clear hT10 hA2 hS0 a1
 refine stw hA4 (op_call rfl en_21 (ev2 (hA4.ev rfl) (evc _ _)) (by have h := (explains_ok vl6 vs7 vb8 lv9 trialD _ (rnd_at (hS11.ok 0 _ rfl)) _ ([]) (slAt_nil _ 1) (Nat.le_of_ble_eq_true rfl)); rw [explains_trial] at h; exact h)) rfl rfl (by decide) ?_
 rintro a12 _ w14 ⟨rfl, hE15⟩ hA13; have hS16 := hS11.step hE15; clear hE15 hA4 hS11 a3
 refine st hA13 (op_move rfl (hA13.ev rfl)) rfl rfl (by decide) fun a17 hA18 => ?_; clear hA13 a12
 refine st hA18 (op_extract rfl (hA18.ev rfl) rfl) rfl rfl (by decide) fun a19 hA20 => ?_; clear hA18 a17
 refine st hA20 (op_extract rfl (hA20.ev rfl) rfl) rfl rfl (by decide) fun a21 hA22 => ?_; clear hA20 a19
 refine st hA22 (op_assign rfl (hA22.ev rfl)) rfl rfl (by decide) fun a23 hA24 => ?_; clear hA22 a21
 refine st hA24 (op_assign rfl (hA24.ev rfl)) rfl rfl (by decide) fun a25 hA26 => ?_; clear hA24 a23
 refine wl_nil ?_
 refine then_n ?_
 refine c_seq ?_
 have hA27 := hA26.as [(2, (Value.int .i64 0)), (1, (Value.bool false))] rfl; clear hA26
 refine c_region ?_
 refine stw hA27 (op_call rfl en_40 ev0 (trial_ok _)) rfl rfl (by decide) ?_
 rintro a28 _ w30 ⟨vl31, vs32, vb33, lv34, rfl, hT35⟩ hA29; have hS36 := hS16.callS hT35 rfl; clear hT35 hA27 hS16 a25
 refine stw hA29 (op_buildSlice hS36 rfl (pv1 (evc _ _)) un_23 ty_3 ze_3 (by decide) (cs := [(Value.int .i64 2)]) (bs_3_1_0i _)) rfl rfl (by decide) ?_
 rintro a37 _ w39 ⟨b40, rfl, hS41⟩ hA38; clear hA29 hS36 a28
 refine stw hA38 (op_call rfl en_21 (ev2 (hA38.ev rfl) (hA38.ev rfl)) (by have h := (explains_ok vl31 vs32 vb33 lv34 trialD _ (rnd_at (hS41.ok 1 _ rfl)) _ ([2]) (SlAt.of_blk (hS41.bk 0 rfl) rfl (Nat.le_of_ble_eq_true rfl)) (Nat.le_of_ble_eq_true rfl)); rw [explains_trial2] at h; exact h)) rfl rfl (by decide) ?_
 rintro a42 _ w44 ⟨rfl, hE45⟩ hA43; have hS46 := hS41.step hE45; clear hE45 hA38 hS41 a37
 refine st hA43 (op_move rfl (hA43.ev rfl)) rfl rfl (by decide) fun a47 hA48 => ?_; clear hA43 a42
 refine st hA48 (op_extract rfl (hA48.ev rfl) rfl) rfl rfl (by decide) fun a49 hA50 => ?_; clear hA48 a47
 refine st hA50 (op_extract rfl (hA50.ev rfl) rfl) rfl rfl (by decide) fun a51 hA52 => ?_; clear hA50 a49
 refine st hA52 (op_assign rfl (hA52.ev rfl)) rfl rfl (by decide) fun a53 hA54 => ?_; clear hA52 a51
 refine st hA54 (op_assign rfl (hA54.ev rfl)) rfl rfl (by decide) fun a55 hA56 => ?_; clear hA54 a53
 refine wl_nil ?_
 refine then_n ?_
 refine c_seq ?_
 have hA57 := hA56.as [(4, (Value.int .i64 0)), (3, (Value.bool true)), (2, (Value.int .i64 0)), (1, (Value.bool false))] rfl; clear hA56
 refine c_region ?_
 refine stw hA57 (op_call rfl en_40 ev0 (trial_ok _)) rfl rfl (by decide) ?_
 rintro a58 _ w60 ⟨vl61, vs62, vb63, lv64, rfl, hT65⟩ hA59; have hS66 := hS46.callS hT65 rfl; clear hT65 hA57 hS46 a55
 refine stw hA59 (op_buildSlice hS66 rfl (pv1 (evc _ _)) un_23 ty_3 ze_3 (by decide) (cs := [(Value.int .i64 2)]) (bs_3_1_0i _)) rfl rfl (by decide) ?_
 rintro a67 _ w69 ⟨b70, rfl, hS71⟩ hA68; clear hA59 hS66 a58
 refine stw hA68 (op_call rfl en_26 (ev2 (hA68.ev rfl) (hA68.ev rfl)) (by have h := (spansE_ok vl61 vs62 vb63 lv64 trialD _ (rnd_at (hS71.ok 1 _ rfl)) _ ([2]) (SlAt.of_blk (hS71.bk 0 rfl) rfl (Nat.le_of_ble_eq_true rfl)) (Nat.le_of_ble_eq_true rfl)); rw [spans_trial2] at h; exact h)) rfl rfl (by decide) ?_
 rintro a72 _ w74 ⟨u78, rfl, hE75, hO76⟩ hA73; clear hA68 a67
 have hS77 : Sep NoB w w74 [(row u78 46 2 spT.length (pairs spT)), (blk b70 3 [(Value.int .i64 2)]), (rndR true vl61 vs62 vb63 lv64 trialD), (blk b40 3 [(Value.int .i64 2)]), (rndR true vl31 vs32 vb33 lv34 trialD), (rndR true vl6 vs7 vb8 lv9 trialD)] := hS71.new_row hE75 hO76; clear hE75 hO76 hS71
 refine st hA73 (op_move rfl (hA73.ev rfl)) rfl rfl (by decide) fun a79 hA80 => ?_; clear hA73 a72
 refine st hA80 (op_extract rfl (hA80.ev rfl) rfl) rfl rfl (by decide) fun a81 hA82 => ?_; clear hA80 a79
 refine st hA82 (op_extract rfl (hA82.ev rfl) rfl) rfl rfl (by decide) fun a83 hA84 => ?_; clear hA82 a81
 refine st hA84 (op_assign rfl (hA84.ev rfl)) rfl rfl (by decide) fun a85 hA86 => ?_; clear hA84 a83
 refine st hA86 (op_assign rfl (hA86.ev rfl)) rfl rfl (by decide) fun a87 hA88 => ?_; clear hA86 a85
 refine wl_nil ?_
 refine then_n ?_
 refine c_seq ?_
 have hA89 := hA88.as [(6, (Value.int .i64 0)), (5, u78), (4, (Value.int .i64 0)), (3, (Value.bool true)), (2, (Value.int .i64 0)), (1, (Value.bool false))] rfl; clear hA88
 refine c_region ?_
 refine stw hA89 (op_call rfl en_40 ev0 (trial_ok _)) rfl rfl (by decide) ?_
 rintro a90 _ w92 ⟨vl93, vs94, vb95, lv96, rfl, hT97⟩ hA91; have hS98 := hS77.callS hT97 rfl; clear hT97 hA89 hS77 a87
 refine stw hA91 (op_call rfl en_29 (ev1 (hA91.ev rfl)) (by have h := (least_fn vl93 vs94 vb95 lv96 trialD _ (rnd_at (hS98.ok 0 _ rfl))); rw [least_trial] at h; exact h)) rfl rfl (by decide) ?_
 rintro a99 _ w101 ⟨u104, rfl, hT102⟩ hA100; clear hA91 a90
 have hS103 : Sep NoB w w101 [(osl u104 1 ([2].length) (ints ([2]))), (rndR true vl93 vs94 vb95 lv96 trialD), (row u78 46 2 spT.length (pairs spT)), (blk b70 3 [(Value.int .i64 2)]), (rndR true vl61 vs62 vb63 lv64 trialD), (blk b40 3 [(Value.int .i64 2)]), (rndR true vl31 vs32 vb33 lv34 trialD), (rndR true vl6 vs7 vb8 lv9 trialD)] := hS98.callS hT102 rfl; clear hT102 hS98
 refine st hA100 (op_move rfl (hA100.ev rfl)) rfl rfl (by decide) fun a105 hA106 => ?_; clear hA100 a99
 refine st hA106 (op_extract rfl (hA106.ev rfl) rfl) rfl rfl (by decide) fun a107 hA108 => ?_; clear hA106 a105
 refine st hA108 (op_extract rfl (hA108.ev rfl) rfl) rfl rfl (by decide) fun a109 hA110 => ?_; clear hA108 a107
 refine st hA110 (op_assign rfl (hA110.ev rfl)) rfl rfl (by decide) fun a111 hA112 => ?_; clear hA110 a109
 refine st hA112 (op_assign rfl (hA112.ev rfl)) rfl rfl (by decide) fun a113 hA114 => ?_; clear hA112 a111
 refine wl_nil ?_
 refine then_n ?_
 refine c_seq ?_
 refine c_region ?_
 refine stw hA114 (op_call rfl en_40 ev0 (trial_ok _)) rfl rfl (by decide) ?_
 rintro a115 _ w117 ⟨vl118, vs119, vb120, lv121, rfl, hT122⟩ hA116; have hS123 := hS103.callS hT122 rfl; clear hT122 hA114 hS103 a113
 refine stw hA116 (op_call rfl en_32 (ev2 (hA116.ev rfl) (evc _ _)) (by have h := (shifts_fn vl118 vs119 vb120 lv121 trialD _ (rnd_at (hS123.ok 0 _ rfl)) 2); rw [shifts_trial] at h; exact h)) rfl rfl (by decide) ?_
 rintro a124 _ w126 ⟨rfl, hE127⟩ hA125; have hS128 := hS123.step hE127; clear hE127 hA116 hS123 a115
 refine st hA125 (op_move rfl (hA125.ev rfl)) rfl rfl (by decide) fun a129 hA130 => ?_; clear hA125 a124
 refine st hA130 (op_extract rfl (hA130.ev rfl) rfl) rfl rfl (by decide) fun a131 hA132 => ?_; clear hA130 a129
 refine st hA132 (op_extract rfl (hA132.ev rfl) rfl) rfl rfl (by decide) fun a133 hA134 => ?_; clear hA132 a131
 refine stw hA134 (op_alloc hS128 rfl ze_46 (cs := [(Value.int .i64 0), (Value.int .i64 0)]) rfl) rfl rfl (by decide) ?_
 rintro a135 _ w137 ⟨b138, rfl, hS139⟩ hA136; clear hA134 hS128 a133
 refine sts hA136 (op_store hS139 rfl ty_46 (hA136.ev rfl) (hA136.ev rfl) (i := 0) rfl (vs := [(Value.int .i64 8), (Value.int .i64 11)]) rfl rfl rfl (Nat.le_of_ble_eq_true rfl)) rfl rfl ?_
 intro _ w140 hS141 hA142; clear hA136
 have hS143 : Sep NoB w w140 [(blk b138 46 [(Value.int .i64 8), (Value.int .i64 11)]), (rndR true vl118 vs119 vb120 lv121 trialD), (osl u104 1 ([2].length) (ints ([2]))), (rndR true vl93 vs94 vb95 lv96 trialD), (row u78 46 2 spT.length (pairs spT)), (blk b70 3 [(Value.int .i64 2)]), (rndR true vl61 vs62 vb63 lv64 trialD), (blk b40 3 [(Value.int .i64 2)]), (rndR true vl31 vs32 vb33 lv34 trialD), (rndR true vl6 vs7 vb8 lv9 trialD)] := hS141; clear hS141 hS139
 refine st hA142 (op_assign rfl (hA142.ev rfl)) rfl rfl (by decide) fun a144 hA145 => ?_; clear hA142 a135
 refine wl_nil ?_
 refine then_n ?_
 refine c_seq ?_
 have hA146 := hA145.as [(10, (Value.int .i64 0)), (9, (bptr b138 0)), (8, (Value.int .i64 0)), (7, u104), (6, (Value.int .i64 0)), (5, u78), (4, (Value.int .i64 0)), (3, (Value.bool true)), (2, (Value.int .i64 0)), (1, (Value.bool false))] rfl; clear hA145
 refine c_region ?_
 refine st hA146 (op_move rfl (hA146.ev rfl)) rfl rfl (by decide) fun a147 hA148 => ?_; clear hA146 a144
 refine st hA148 (op_eql rfl (hA148.ev rfl) (evc _ _)) rfl rfl (by decide) fun a149 hA150 => ?_; clear hA148 a147
 refine st hA150 (op_move rfl (hA150.ev rfl)) rfl rfl (by decide) fun a151 hA152 => ?_; clear hA150 a149
 refine stg hA152 (op_move rfl (hA152.ev rfl)) rfl rfl rfl rfl (by decide) fun a153 hA154 => ?_; clear hA152 a151
 refine stg hA154 (op_not rfl (hA154.ev rfl)) rfl rfl rfl rfl (by decide) fun a155 hA156 => ?_; clear hA154 a153
 refine st hA156 (op_pick_t rfl (hA156.ev rfl) (hA156.ev rfl)) rfl rfl (by decide) fun a157 hA158 => ?_; clear hA156 a155
 refine st hA158 (op_move rfl (hA158.ev rfl)) rfl rfl (by decide) fun a159 hA160 => ?_; clear hA158 a157
 refine stg hA160 (op_move rfl (hA160.ev rfl)) rfl rfl rfl rfl (by decide) fun a161 hA162 => ?_; clear hA160 a159
 refine stg hA162 (op_eql rfl (hA162.ev rfl) (evc _ _)) rfl rfl rfl rfl (by decide) fun a163 hA164 => ?_; clear hA162 a161
 refine st hA164 (op_pick_t rfl (hA164.ev rfl) (hA164.ev rfl)) rfl rfl (by decide) fun a165 hA166 => ?_; clear hA164 a163
 refine st hA166 (op_move rfl (hA166.ev rfl)) rfl rfl (by decide) fun a167 hA168 => ?_; clear hA166 a165
 refine stg hA168 (op_move rfl (hA168.ev rfl)) rfl rfl rfl rfl (by decide) fun a169 hA170 => ?_; clear hA168 a167
 refine st hA170 (op_pick_t rfl (hA170.ev rfl) (hA170.ev rfl)) rfl rfl (by decide) fun a171 hA172 => ?_; clear hA170 a169
 refine st hA172 (op_move rfl (hA172.ev rfl)) rfl rfl (by decide) fun a173 hA174 => ?_; clear hA172 a171
 refine stg hA174 (op_move rfl (hA174.ev rfl)) rfl rfl rfl rfl (by decide) fun a175 hA176 => ?_; clear hA174 a173
 refine stg hA176 (op_eql rfl (hA176.ev rfl) (evc _ _)) rfl rfl rfl rfl (by decide) fun a177 hA178 => ?_; clear hA176 a175
 refine st hA178 (op_pick_t rfl (hA178.ev rfl) (hA178.ev rfl)) rfl rfl (by decide) fun a179 hA180 => ?_; clear hA178 a177
 refine st hA180 (op_move rfl (hA180.ev rfl)) rfl rfl (by decide) fun a181 hA182 => ?_; clear hA180 a179
 refine stg hA182 (op_move rfl (hA182.ev rfl)) rfl rfl rfl rfl (by decide) fun a183 hA184 => ?_; clear hA182 a181
 refine stg hA184 (op_lenS rfl un_31 (hA184.ev rfl) (SlAt.of_row (hS143.ok_row 4 rfl))) rfl rfl rfl rfl (by decide) fun a185 hA186 => ?_; clear hA184 a183
 refine stg hA186 (op_eql rfl (hA186.ev rfl) (evc _ _)) rfl rfl rfl rfl (by decide) fun a187 hA188 => ?_; clear hA186 a185
 have hd189 : (spT.length : Int) = 3 := (by decide)
 rw [decide_eq_true hd189] at hA188
 refine st hA188 (op_pick_t rfl (hA188.ev rfl) (hA188.ev rfl)) rfl rfl (by decide) fun a190 hA191 => ?_; clear hA188 a187
 refine st hA191 (op_move rfl (hA191.ev rfl)) rfl rfl (by decide) fun a192 hA193 => ?_; clear hA191 a190
 refine stg hA193 (op_move rfl (hA193.ev rfl)) rfl rfl rfl rfl (by decide) fun a194 hA195 => ?_; clear hA193 a192
 refine stg hA195 (op_indexS rfl un_31 ty_46 (hA195.ev rfl) (i := 0) (show _ = Value.int .i64 ((0 : Nat) : Int) from (evc _ _)) (SlAt.of_row (hS143.ok_row 4 rfl)) (by decide) (by omega)) rfl rfl rfl rfl (by decide) fun a196 hA197 => ?_; clear hA195 a194
 refine stg hA197 (op_loadAE rfl ty_46 (hA197.ev rfl) (SlAt.of_row (hS143.ok_row 4 rfl)) (pairs_all (by omega)) rfl (by decide)) rfl rfl rfl rfl (by decide) fun a198 hA199 => ?_; clear hA197 a196
 refine stg hA199 (op_build rfl (pv2 (evc _ _) (evc _ _)) (bd_46_0i_1i _ _)) rfl rfl rfl rfl (by decide) fun a200 hA201 => ?_; clear hA199 a198
 refine stg hA201 (op_eqlP tw_46 rfl (hA201.ev rfl) (hA201.ev rfl)) rfl rfl rfl rfl (by decide) fun a202 hA203 => ?_; clear hA201 a200
 have hd204 : (decide ((((spT.getD 0 (0, 0)).1) : Int) = 121) && decide ((((spT.getD 0 (0, 0)).2) : Int) = 123)) = true := (by decide)
 rw [hd204] at hA203
 have hq205 := hd204; simp only [Bool.and_eq_true, Bool.and_eq_false_iff, decide_eq_true_eq, decide_eq_false_iff_not] at hq205
 refine st hA203 (op_pick_t rfl (hA203.ev rfl) (hA203.ev rfl)) rfl rfl (by decide) fun a206 hA207 => ?_; clear hA203 a202
 refine st hA207 (op_move rfl (hA207.ev rfl)) rfl rfl (by decide) fun a208 hA209 => ?_; clear hA207 a206
 refine stg hA209 (op_move rfl (hA209.ev rfl)) rfl rfl rfl rfl (by decide) fun a210 hA211 => ?_; clear hA209 a208
 refine stg hA211 (op_indexS rfl un_31 ty_46 (hA211.ev rfl) (i := 1) (show _ = Value.int .i64 ((1 : Nat) : Int) from (evc _ _)) (SlAt.of_row (hS143.ok_row 4 rfl)) (by decide) (by omega)) rfl rfl rfl rfl (by decide) fun a212 hA213 => ?_; clear hA211 a210
 refine stg hA213 (op_loadAE rfl ty_46 (hA213.ev rfl) (SlAt.of_row (hS143.ok_row 4 rfl)) (pairs_all (by omega)) rfl (by decide)) rfl rfl rfl rfl (by decide) fun a214 hA215 => ?_; clear hA213 a212
 refine stg hA215 (op_build rfl (pv2 (evc _ _) (evc _ _)) (bd_46_0i_1i _ _)) rfl rfl rfl rfl (by decide) fun a216 hA217 => ?_; clear hA215 a214
 refine stg hA217 (op_eqlP tw_46 rfl (hA217.ev rfl) (hA217.ev rfl)) rfl rfl rfl rfl (by decide) fun a218 hA219 => ?_; clear hA217 a216
 have hd220 : (decide ((((spT.getD 1 (0, 0)).1) : Int) = 119) && decide ((((spT.getD 1 (0, 0)).2) : Int) = 123)) = true := (by decide)
 rw [hd220] at hA219
 have hq221 := hd220; simp only [Bool.and_eq_true, Bool.and_eq_false_iff, decide_eq_true_eq, decide_eq_false_iff_not] at hq221
 refine st hA219 (op_pick_t rfl (hA219.ev rfl) (hA219.ev rfl)) rfl rfl (by decide) fun a222 hA223 => ?_; clear hA219 a218
 refine st hA223 (op_move rfl (hA223.ev rfl)) rfl rfl (by decide) fun a224 hA225 => ?_; clear hA223 a222
 refine stg hA225 (op_move rfl (hA225.ev rfl)) rfl rfl rfl rfl (by decide) fun a226 hA227 => ?_; clear hA225 a224
 refine stg hA227 (op_indexS rfl un_31 ty_46 (hA227.ev rfl) (i := 2) (show _ = Value.int .i64 ((2 : Nat) : Int) from (evc _ _)) (SlAt.of_row (hS143.ok_row 4 rfl)) (by decide) (by omega)) rfl rfl rfl rfl (by decide) fun a228 hA229 => ?_; clear hA227 a226
 refine stg hA229 (op_loadAE rfl ty_46 (hA229.ev rfl) (SlAt.of_row (hS143.ok_row 4 rfl)) (pairs_all (by omega)) rfl (by decide)) rfl rfl rfl rfl (by decide) fun a230 hA231 => ?_; clear hA229 a228
 refine stg hA231 (op_build rfl (pv2 (evc _ _) (evc _ _)) (bd_46_0i_1i _ _)) rfl rfl rfl rfl (by decide) fun a232 hA233 => ?_; clear hA231 a230
 refine stg hA233 (op_eqlP tw_46 rfl (hA233.ev rfl) (hA233.ev rfl)) rfl rfl rfl rfl (by decide) fun a234 hA235 => ?_; clear hA233 a232
 have hd236 : (decide ((((spT.getD 2 (0, 0)).1) : Int) = 231) && decide ((((spT.getD 2 (0, 0)).2) : Int) = 233)) = true := (by decide)
 rw [hd236] at hA235
 have hq237 := hd236; simp only [Bool.and_eq_true, Bool.and_eq_false_iff, decide_eq_true_eq, decide_eq_false_iff_not] at hq237
 refine st hA235 (op_pick_t rfl (hA235.ev rfl) (hA235.ev rfl)) rfl rfl (by decide) fun a238 hA239 => ?_; clear hA235 a234
 refine st hA239 (op_move rfl (hA239.ev rfl)) rfl rfl (by decide) fun a240 hA241 => ?_; clear hA239 a238
 refine stg hA241 (op_move rfl (hA241.ev rfl)) rfl rfl rfl rfl (by decide) fun a242 hA243 => ?_; clear hA241 a240
 refine stg hA243 (op_eql rfl (hA243.ev rfl) (evc _ _)) rfl rfl rfl rfl (by decide) fun a244 hA245 => ?_; clear hA243 a242
 refine st hA245 (op_pick_t rfl (hA245.ev rfl) (hA245.ev rfl)) rfl rfl (by decide) fun a246 hA247 => ?_; clear hA245 a244
 refine st hA247 (op_move rfl (hA247.ev rfl)) rfl rfl (by decide) fun a248 hA249 => ?_; clear hA247 a246
 refine stg hA249 (op_move rfl (hA249.ev rfl)) rfl rfl rfl rfl (by decide) fun a250 hA251 => ?_; clear hA249 a248
 refine stwg hA251 (op_buildSlice hS143 rfl (pv1 (evc _ _)) un_23 ty_3 ze_3 (by decide) (cs := [(Value.int .i64 2)]) (bs_3_1_0i _)) rfl rfl rfl rfl (by decide) ?_
 rintro a252 _ w254 ⟨b255, rfl, hS256⟩ hA253; clear hA251 hS143 a250
 refine stwg hA253 (op_call rfl en_30 (ev2 (hA253.ev rfl) (hA253.ev rfl)) (ints_ok [2] [2] _ _ _ (show SlAt _ _ _ _ _ from (hS256.ok 3 _ rfl)) (SlAt.of_blk (hS256.bk 0 rfl) rfl (Nat.le_of_ble_eq_true rfl)) (by decide))) rfl rfl rfl rfl (by decide) ?_
 rintro a257 _ w259 ⟨rfl, hE260⟩ hA258; have hS261 := hS256.step hE260; clear hE260 hA253 hS256 a252
 have hd262 : ([2] : List Int) = [2] := (by decide)
 rw [decide_eq_true hd262] at hA258
 refine st hA258 (op_pick_t rfl (hA258.ev rfl) (hA258.ev rfl)) rfl rfl (by decide) fun a263 hA264 => ?_; clear hA258 a257
 refine st hA264 (op_move rfl (hA264.ev rfl)) rfl rfl (by decide) fun a265 hA266 => ?_; clear hA264 a263
 refine stg hA266 (op_move rfl (hA266.ev rfl)) rfl rfl rfl rfl (by decide) fun a267 hA268 => ?_; clear hA266 a265
 refine stg hA268 (op_eql rfl (hA268.ev rfl) (evc _ _)) rfl rfl rfl rfl (by decide) fun a269 hA270 => ?_; clear hA268 a267
 refine st hA270 (op_pick_t rfl (hA270.ev rfl) (hA270.ev rfl)) rfl rfl (by decide) fun a271 hA272 => ?_; clear hA270 a269
 refine st hA272 (op_move rfl (hA272.ev rfl)) rfl rfl (by decide) fun a273 hA274 => ?_; clear hA272 a271
 refine stg hA274 (op_loadA rfl ty_46 (hA274.ev rfl) (hS261.bk 1 rfl) (l := [(Value.int .i64 8), (Value.int .i64 11)]) rfl rfl) rfl rfl rfl rfl (by decide) fun a275 hA276 => ?_; clear hA274 a273
 refine stg hA276 (op_build rfl (pv2 (evc _ _) (evc _ _)) (bd_46_0i_1i _ _)) rfl rfl rfl rfl (by decide) fun a277 hA278 => ?_; clear hA276 a275
 refine stg hA278 (op_eqlP tw_46 rfl (hA278.ev rfl) (hA278.ev rfl)) rfl rfl rfl rfl (by decide) fun a279 hA280 => ?_; clear hA278 a277
 have hd281 : (decide ((8 : Int) = 8) && decide ((11 : Int) = 11)) = true := (by decide)
 rw [hd281] at hA280
 have hq282 := hd281; simp only [Bool.and_eq_true, Bool.and_eq_false_iff, decide_eq_true_eq, decide_eq_false_iff_not] at hq282
 refine st hA280 (op_pick_t rfl (hA280.ev rfl) (hA280.ev rfl)) rfl rfl (by decide) fun a283 hA284 => ?_; clear hA280 a279
 refine st hA284 (op_assign rfl (hA284.ev rfl)) rfl rfl (by decide) fun a285 hA286 => ?_; clear hA284 a283
 refine wl_nil ?_
 refine then_n ?_
 refine c_ret ?_
 refine fin_run hA286 (.inl rfl) (run_results1 hA286 rfl (.tmp rfl)) ?_
 exact ⟨rfl, hS261.ext⟩

end Go.Proofs.Ytfhmigoddaaljaa

namespace Go.Proofs.Ytfhmigoddaaljaa
open Go.RowKit Go.Shelf Go.Eng
theorem In_ok (n lo hi : Int) (w : World) :
  Calls Try.prog 33 #[(Value.int .i64 n), (Value.int .i64 lo), (Value.int .i64 hi)] w (Ret fun v w' => v = .bool (decide (lo ≤ n) && decide (n ≤ hi)) ∧ w' = w) := by
 refine calls_enter Try.func33 rfl fun a0 hA0 => ?_
 replace hA0 : Fr 15 [] [(0, (Value.int .i64 n)), (1, (Value.int .i64 lo)), (2, (Value.int .i64 hi))] a0 := hA0
 have hS0 : Sep NoB w w [] := Sep.start _ _
 refine c_seq ?_
 refine c_region ?_
 refine st hA0 (op_assign rfl (evc _ _)) rfl rfl (by decide) fun a1 hA2 => ?_; clear hA0 a0
 refine wl_nil ?_
 refine then_n ?_
 refine c_seq ?_
 refine c_region ?_
 refine st hA2 (op_move rfl (hA2.ev rfl)) rfl rfl (by decide) fun a3 hA4 => ?_; clear hA2 a1
 refine st hA4 (op_move rfl (hA4.ev rfl)) rfl rfl (by decide) fun a5 hA6 => ?_; clear hA4 a3
 refine st hA6 (op_geq rfl (hA6.ev rfl) (hA6.ev rfl)) rfl rfl (by decide) fun a7 hA8 => ?_; clear hA6 a5
 refine st hA8 (op_move rfl (hA8.ev rfl)) rfl rfl (by decide) fun a9 hA10 => ?_; clear hA8 a7
 by_cases hb11 : lo ≤ n
 ·skip
  rw [decide_eq_true hb11] at hA10
  refine stg hA10 (op_move rfl (hA10.ev rfl)) rfl rfl rfl rfl (by decide) fun a12 hA13 => ?_; clear hA10 a9
  refine stg hA13 (op_move rfl (hA13.ev rfl)) rfl rfl rfl rfl (by decide) fun a14 hA15 => ?_; clear hA13 a12
  refine stg hA15 (op_leq rfl (hA15.ev rfl) (hA15.ev rfl)) rfl rfl rfl rfl (by decide) fun a16 hA17 => ?_; clear hA15 a14
  refine st hA17 (op_pick_t rfl (hA17.ev rfl) (hA17.ev rfl)) rfl rfl (by decide) fun a18 hA19 => ?_; clear hA17 a16
  refine st hA19 (op_assign rfl (hA19.ev rfl)) rfl rfl (by decide) fun a20 hA21 => ?_; clear hA19 a18
  refine wl_nil ?_
  refine then_n ?_
  refine c_ret ?_
  refine fin_run hA21 (.inl rfl) (run_results1 hA21 rfl (.tmp rfl)) ?_
  exact ⟨by simp [*], rfl⟩
 ·skip
  rw [decide_eq_false hb11] at hA10
  refine skp hA10 rfl rfl rfl rfl rfl (by decide) fun a22 hA23 => ?_; clear hA10 a9
  refine skp hA23 rfl rfl rfl rfl rfl (by decide) fun a24 hA25 => ?_; clear hA23 a22
  refine skp hA25 rfl rfl rfl rfl rfl (by decide) fun a26 hA27 => ?_; clear hA25 a24
  refine st hA27 (op_pick_f rfl (hA27.ev rfl) (evc _ _)) rfl rfl (by decide) fun a28 hA29 => ?_; clear hA27 a26
  refine st hA29 (op_assign rfl (hA29.ev rfl)) rfl rfl (by decide) fun a30 hA31 => ?_; clear hA29 a28
  refine wl_nil ?_
  refine then_n ?_
  refine c_ret ?_
  refine fin_run hA31 (.inl rfl) (run_results1 hA31 rfl (.tmp rfl)) ?_
  exact ⟨by simp [*], rfl⟩

theorem Thin_ok (rl rs rb : Value) (rlv : List Value) (d : RD) (w : World) (hR : RoundAt w rl rs rb rlv d) :
  Calls Try.prog 42 #[(Value.agg #[rl, rs, (Value.int .i64 d.spread), rb])] w (Ret fun v w' => v = .bool (thinB d) ∧ Ext NoB w w') := by
 refine calls_enter Try.func42 rfl fun a0 hA0 => ?_
 replace hA0 : Fr 39 [] [(0, (Value.agg #[rl, rs, (Value.int .i64 d.spread), rb]))] a0 := hA0
 have hS0 : Sep NoB w w [(rndR false rl rs rb rlv d)] := sep_ro ⟨rfl, hR, trivial⟩
 refine c_seq ?_
 refine c_region ?_
 refine stw hA0 (op_box hS0 rfl (hA0.ev rfl) (cs := [rl, rs, (Value.int .i64 d.spread), rb]) rfl) rfl rfl (by decide) ?_
 rintro a1 _ w3 ⟨b4, rfl, hS5⟩ hA2; clear hA0 hS0 a0
 refine st hA2 (op_assign rfl (evc _ _)) rfl rfl (by decide) fun a6 hA7 => ?_; clear hA2 a1
 refine wl_nil ?_
 refine then_n ?_
 refine c_seq ?_
 refine c_seq ?_
 refine c_region ?_
 refine st hA7 (op_assign rfl (evc _ _)) rfl rfl (by decide) fun a8 hA9 => ?_; clear hA7 a6
 refine wl_nil ?_
 refine then_n ?_
 refine c_block ?_
 have hA10 := hA9.as [(3, (Value.int .i64 0)), (1, (bptr b4 0))] rfl; clear hA9
 refine c_loop (G := Nat) (fun (k : Nat) a_ w_ => Fr 39 [] [(3, (Value.int .i64 (k : Int))), (1, (bptr b4 0))] a_ ∧ Sep NoB w w_ [(blk b4 26 [rl, rs, (Value.int .i64 d.spread), rb]), (rndR false rl rs rb rlv d)] ∧ (k ≤ d.tols.length ∧ k ≤ 9) ∧ (∀ i, i < k → decide ((d.rds.getD i []).length ≤ 10) = true)) (fun k => d.tols.length - k) 0 ⟨hA10.as _ rfl, hS5, by omega, (fun _ h => absurd h (Nat.not_lt_zero _))⟩ ?_
 clear hA10 hS5 a8
 rintro k a11 w13 ⟨hA12, hS14, hk, hn⟩
 refine c_seq ?_
 refine c_seq ?_
 refine c_region ?_
 refine st hA12 (op_move rfl (hA12.ev rfl)) rfl rfl (by decide) fun a15 hA16 => ?_; clear hA12 a11
 refine st hA16 (op_field rfl fd_26_3 (hA16.ev rfl)) rfl rfl (by decide) fun a17 hA18 => ?_; clear hA16 a15
 refine st hA18 (op_load1 rfl ty_24 (hA18.ev rfl) (hS14.bk 0 rfl) rfl) rfl rfl (by decide) fun a19 hA20 => ?_; clear hA18 a17
 refine st hA20 (op_lenS rfl un_24 (hA20.ev rfl) (rnd_at (hS14.ok 1 _ rfl)).labs) rfl rfl (by decide) fun a21 hA22 => ?_; clear hA20 a19
 refine st hA22 (op_lss rfl (hA22.ev rfl) (hA22.ev rfl)) rfl rfl (by decide) fun a23 hA24 => ?_; clear hA22 a21
 refine st hA24 (op_move rfl (hA24.ev rfl)) rfl rfl (by decide) fun a25 hA26 => ?_; clear hA24 a23
 by_cases hb27 : (k : Int) < (d.tols.length : Int)
 ·skip
  rw [decide_eq_true hb27] at hA26
  refine stg hA26 (op_move rfl (hA26.ev rfl)) rfl rfl rfl rfl (by decide) fun a28 hA29 => ?_; clear hA26 a25
  refine stg hA29 (op_lss rfl (hA29.ev rfl) (evc _ _)) rfl rfl rfl rfl (by decide) fun a30 hA31 => ?_; clear hA29 a28
  refine st hA31 (op_pick_t rfl (hA31.ev rfl) (hA31.ev rfl)) rfl rfl (by decide) fun a32 hA33 => ?_; clear hA31 a30
  refine wl_nil ?_
  refine then_n ?_
  by_cases hb34 : (k : Int) < 9
  ·skip
   rw [decide_eq_true hb34] at hA33
   refine c_true hA33 rfl ?_
   refine c_skip ?_
   refine then_n ?_
   refine c_seq ?_
   refine c_block ?_
   refine c_seq ?_
   have hA35 := hA33.as [(3, (Value.int .i64 (k : Int))), (1, (bptr b4 0))] rfl; clear hA33
   refine c_region ?_
   refine st hA35 (op_field rfl fd_26_3 (hA35.ev rfl)) rfl rfl (by decide) fun a36 hA37 => ?_; clear hA35 a32
   refine st hA37 (op_load1 rfl ty_24 (hA37.ev rfl) (hS14.bk 0 rfl) rfl) rfl rfl (by decide) fun a38 hA39 => ?_; clear hA37 a36
   refine st hA39 (op_move rfl (hA39.ev rfl)) rfl rfl (by decide) fun a40 hA41 => ?_; clear hA39 a38
   refine st hA41 (op_indexS rfl un_24 ty_62 (hA41.ev rfl) (i := k) (hA41.ev rfl) (rnd_at (hS14.ok 1 _ rfl)).labs (by decide) (by omega)) rfl rfl (by decide) fun a42 hA43 => ?_; clear hA41 a40
   refine st hA43 (op_fieldS rfl fd_62_1 (hA43.ev rfl) (rnd_at (hS14.ok 1 _ rfl)).labs (by rw [((rnd_at (hS14.ok 1 _ rfl)).labs).1]; omega)) rfl rfl (by decide) fun a44 hA45 => ?_; clear hA43 a42
   refine st hA45 (op_load1E rfl ty_23 (hA45.ev rfl) (rnd_at (hS14.ok 1 _ rfl)).labs (labs_at1 (rnd_at (hS14.ok 1 _ rfl)).lvl (by omega))) rfl rfl (by decide) fun a46 hA47 => ?_; clear hA45 a44
   refine st hA47 (op_lenS rfl un_23 (hA47.ev rfl) ((rnd_at (hS14.ok 1 _ rfl)).rds k (by rw [(rnd_at (hS14.ok 1 _ rfl)).rdl]; omega))) rfl rfl (by decide) fun a48 hA49 => ?_; clear hA47 a46
   refine st hA49 (op_gtr rfl (hA49.ev rfl) (evc _ _)) rfl rfl (by decide) fun a50 hA51 => ?_; clear hA49 a48
   refine wl_nil ?_
   refine then_n ?_
   by_cases hb52 : 10 < ((d.rds.getD k []).length : Int)
   ·skip
    rw [decide_eq_true hb52] at hA51
    refine c_true hA51 rfl ?_
    refine c_seq ?_
    have hA53 := hA51.as [] rfl; clear hA51
    refine c_region ?_
    refine st hA53 (op_assign rfl (evc _ _)) rfl rfl (by decide) fun a54 hA55 => ?_; clear hA53 a50
    refine wl_nil ?_
    refine then_n ?_
    refine c_ret ?_
    refine blk_ret ?_
    refine then_ret ?_
    refine then_ret ?_
    refine blk_ret ?_
    refine then_ret ?_
    refine fin_run hA55 (.inl rfl) (run_results1 hA55 rfl (.tmp rfl)) ?_
    exact ⟨congrArg Value.bool (by unfold thinB; first | (rw [all_yes (fun i hi => hn i (by omega)), Bool.true_and]; (rw [Bool.eq_iff_iff]; (try simp only [Bool.true_and, Bool.false_and, Bool.and_true, Bool.and_false, Bool.false_or, Bool.true_or, Bool.or_false, Bool.or_true, true_and, and_true, false_and, and_false, false_or, or_false, true_or, or_true, Bool.and_eq_true, Bool.or_eq_true, Bool.not_eq_true', decide_eq_true_eq, decide_eq_false_iff_not, Bool.false_eq_true, Bool.true_eq_false, Bool.not_true, Bool.not_false, eq_self_iff_true, true_iff, false_iff, iff_true, iff_false, not_true, not_false_eq_true]); omega)) | (rw [all_no (k := k) (by omega) (decide_eq_false (by omega)), Bool.false_and])), hS14.ext⟩
   ·skip
    rw [decide_eq_false hb52] at hA51
    refine c_false hA51 rfl ?_
    refine c_skip ?_
    refine blk_n ?_
    refine then_n ?_
    have hA56 := hA51.as [(3, (Value.int .i64 (k : Int))), (1, (bptr b4 0))] rfl; clear hA51
    refine c_region ?_
    refine st hA56 (op_move rfl (hA56.ev rfl)) rfl rfl (by decide) fun a57 hA58 => ?_; clear hA56 a50
    refine st hA58 (op_add rfl (hA58.ev rfl) (evc _ _) (by omega) (by omega)) rfl rfl (by decide) fun a59 hA60 => ?_; clear hA58 a57
    refine st hA60 (op_assign rfl (hA60.ev rfl)) rfl rfl (by decide) fun a61 hA62 => ?_; clear hA60 a59
    refine wl_nil ?_
    exact then_n ⟨k + 1, ⟨hA62.as _ rfl, hS14, by omega, (fun i hi => by rcases Nat.lt_succ_iff_lt_or_eq.1 hi with h | h; exact hn i h; subst h; exact decide_eq_true (by omega))⟩, by omega⟩
  ·skip
   rw [decide_eq_false hb34] at hA33
   refine c_false hA33 rfl ?_
   refine c_exit ?_
   refine then_exit ?_
   refine then_exit ?_
   refine blk_hit ?_
   refine then_n ?_
   refine c_seq ?_
   have hA63 := hA33.as [(1, (bptr b4 0))] rfl; clear hA33
   refine c_region ?_
   refine st hA63 (op_field rfl fd_26_0 (hA63.ev rfl)) rfl rfl (by decide) fun a64 hA65 => ?_; clear hA63 a32
   refine st hA65 (op_load1 rfl ty_22 (hA65.ev rfl) (hS14.bk 0 rfl) rfl) rfl rfl (by decide) fun a66 hA67 => ?_; clear hA65 a64
   refine st hA67 (op_lenS rfl un_22 (hA67.ev rfl) (rnd_at (hS14.ok 1 _ rfl)).lots) rfl rfl (by decide) fun a68 hA69 => ?_; clear hA67 a66
   refine st hA69 (op_leq rfl (hA69.ev rfl) (evc _ _)) rfl rfl (by decide) fun a70 hA71 => ?_; clear hA69 a68
   refine st hA71 (op_move rfl (hA71.ev rfl)) rfl rfl (by decide) fun a72 hA73 => ?_; clear hA71 a70
   by_cases hb74 : (d.lots.length : Int) ≤ 6
   ·skip
    rw [decide_eq_true hb74] at hA73
    refine stg hA73 (op_field rfl fd_26_1 (hA73.ev rfl)) rfl rfl rfl rfl (by decide) fun a75 hA76 => ?_; clear hA73 a72
    refine stg hA76 (op_load1 rfl ty_23 (hA76.ev rfl) (hS14.bk 0 rfl) rfl) rfl rfl rfl rfl (by decide) fun a77 hA78 => ?_; clear hA76 a75
    refine stg hA78 (op_lenS rfl un_23 (hA78.ev rfl) (rnd_at (hS14.ok 1 _ rfl)).samples) rfl rfl rfl rfl (by decide) fun a79 hA80 => ?_; clear hA78 a77
    refine stg hA80 (op_leq rfl (hA80.ev rfl) (evc _ _)) rfl rfl rfl rfl (by decide) fun a81 hA82 => ?_; clear hA80 a79
    refine st hA82 (op_pick_t rfl (hA82.ev rfl) (hA82.ev rfl)) rfl rfl (by decide) fun a83 hA84 => ?_; clear hA82 a81
    refine st hA84 (op_move rfl (hA84.ev rfl)) rfl rfl (by decide) fun a85 hA86 => ?_; clear hA84 a83
    by_cases hb87 : (d.samples.length : Int) ≤ 10
    ·skip
     rw [decide_eq_true hb87] at hA86
     refine stg hA86 (op_field rfl fd_26_3 (hA86.ev rfl)) rfl rfl rfl rfl (by decide) fun a88 hA89 => ?_; clear hA86 a85
     refine stg hA89 (op_load1 rfl ty_24 (hA89.ev rfl) (hS14.bk 0 rfl) rfl) rfl rfl rfl rfl (by decide) fun a90 hA91 => ?_; clear hA89 a88
     refine stg hA91 (op_lenS rfl un_24 (hA91.ev rfl) (rnd_at (hS14.ok 1 _ rfl)).labs) rfl rfl rfl rfl (by decide) fun a92 hA93 => ?_; clear hA91 a90
     refine stg hA93 (op_leq rfl (hA93.ev rfl) (evc _ _)) rfl rfl rfl rfl (by decide) fun a94 hA95 => ?_; clear hA93 a92
     refine st hA95 (op_pick_t rfl (hA95.ev rfl) (hA95.ev rfl)) rfl rfl (by decide) fun a96 hA97 => ?_; clear hA95 a94
     refine st hA97 (op_assign rfl (hA97.ev rfl)) rfl rfl (by decide) fun a98 hA99 => ?_; clear hA97 a96
     refine wl_nil ?_
     refine then_n ?_
     refine c_ret ?_
     refine fin_run hA99 (.inl rfl) (run_results1 hA99 rfl (.tmp rfl)) ?_
     exact ⟨congrArg Value.bool (by unfold thinB; first | (rw [all_yes (fun i hi => hn i (by omega)), Bool.true_and]; (rw [Bool.eq_iff_iff]; (try simp only [Bool.true_and, Bool.false_and, Bool.and_true, Bool.and_false, Bool.false_or, Bool.true_or, Bool.or_false, Bool.or_true, true_and, and_true, false_and, and_false, false_or, or_false, true_or, or_true, Bool.and_eq_true, Bool.or_eq_true, Bool.not_eq_true', decide_eq_true_eq, decide_eq_false_iff_not, Bool.false_eq_true, Bool.true_eq_false, Bool.not_true, Bool.not_false, eq_self_iff_true, true_iff, false_iff, iff_true, iff_false, not_true, not_false_eq_true]); omega)) | (rw [all_no (k := k) (by omega) (decide_eq_false (by omega)), Bool.false_and])), hS14.ext⟩
    ·skip
     rw [decide_eq_false hb87] at hA86
     refine skp hA86 rfl rfl rfl rfl rfl (by decide) fun a100 hA101 => ?_; clear hA86 a85
     refine skp hA101 rfl rfl rfl rfl rfl (by decide) fun a102 hA103 => ?_; clear hA101 a100
     refine skp hA103 rfl rfl rfl rfl rfl (by decide) fun a104 hA105 => ?_; clear hA103 a102
     refine skp hA105 rfl rfl rfl rfl rfl (by decide) fun a106 hA107 => ?_; clear hA105 a104
     refine st hA107 (op_pick_f rfl (hA107.ev rfl) (evc _ _)) rfl rfl (by decide) fun a108 hA109 => ?_; clear hA107 a106
     refine st hA109 (op_assign rfl (hA109.ev rfl)) rfl rfl (by decide) fun a110 hA111 => ?_; clear hA109 a108
     refine wl_nil ?_
     refine then_n ?_
     refine c_ret ?_
     refine fin_run hA111 (.inl rfl) (run_results1 hA111 rfl (.tmp rfl)) ?_
     exact ⟨congrArg Value.bool (by unfold thinB; first | (rw [all_yes (fun i hi => hn i (by omega)), Bool.true_and]; (rw [Bool.eq_iff_iff]; (try simp only [Bool.true_and, Bool.false_and, Bool.and_true, Bool.and_false, Bool.false_or, Bool.true_or, Bool.or_false, Bool.or_true, true_and, and_true, false_and, and_false, false_or, or_false, true_or, or_true, Bool.and_eq_true, Bool.or_eq_true, Bool.not_eq_true', decide_eq_true_eq, decide_eq_false_iff_not, Bool.false_eq_true, Bool.true_eq_false, Bool.not_true, Bool.not_false, eq_self_iff_true, true_iff, false_iff, iff_true, iff_false, not_true, not_false_eq_true]); omega)) | (rw [all_no (k := k) (by omega) (decide_eq_false (by omega)), Bool.false_and])), hS14.ext⟩
   ·skip
    rw [decide_eq_false hb74] at hA73
    refine skp hA73 rfl rfl rfl rfl rfl (by decide) fun a112 hA113 => ?_; clear hA73 a72
    refine skp hA113 rfl rfl rfl rfl rfl (by decide) fun a114 hA115 => ?_; clear hA113 a112
    refine skp hA115 rfl rfl rfl rfl rfl (by decide) fun a116 hA117 => ?_; clear hA115 a114
    refine skp hA117 rfl rfl rfl rfl rfl (by decide) fun a118 hA119 => ?_; clear hA117 a116
    refine st hA119 (op_pick_f rfl (hA119.ev rfl) (evc _ _)) rfl rfl (by decide) fun a120 hA121 => ?_; clear hA119 a118
    refine st hA121 (op_move rfl (hA121.ev rfl)) rfl rfl (by decide) fun a122 hA123 => ?_; clear hA121 a120
    refine skp hA123 rfl rfl rfl rfl rfl (by decide) fun a124 hA125 => ?_; clear hA123 a122
    refine skp hA125 rfl rfl rfl rfl rfl (by decide) fun a126 hA127 => ?_; clear hA125 a124
    refine skp hA127 rfl rfl rfl rfl rfl (by decide) fun a128 hA129 => ?_; clear hA127 a126
    refine skp hA129 rfl rfl rfl rfl rfl (by decide) fun a130 hA131 => ?_; clear hA129 a128
    refine st hA131 (op_pick_f rfl (hA131.ev rfl) (evc _ _)) rfl rfl (by decide) fun a132 hA133 => ?_; clear hA131 a130
    refine st hA133 (op_assign rfl (hA133.ev rfl)) rfl rfl (by decide) fun a134 hA135 => ?_; clear hA133 a132
    refine wl_nil ?_
    refine then_n ?_
    refine c_ret ?_
    refine fin_run hA135 (.inl rfl) (run_results1 hA135 rfl (.tmp rfl)) ?_
    exact ⟨congrArg Value.bool (by unfold thinB; first | (rw [all_yes (fun i hi => hn i (by omega)), Bool.true_and]; (rw [Bool.eq_iff_iff]; (try simp only [Bool.true_and, Bool.false_and, Bool.and_true, Bool.and_false, Bool.false_or, Bool.true_or, Bool.or_false, Bool.or_true, true_and, and_true, false_and, and_false, false_or, or_false, true_or, or_true, Bool.and_eq_true, Bool.or_eq_true, Bool.not_eq_true', decide_eq_true_eq, decide_eq_false_iff_not, Bool.false_eq_true, Bool.true_eq_false, Bool.not_true, Bool.not_false, eq_self_iff_true, true_iff, false_iff, iff_true, iff_false, not_true, not_false_eq_true]); omega)) | (rw [all_no (k := k) (by omega) (decide_eq_false (by omega)), Bool.false_and])), hS14.ext⟩
 ·skip
  rw [decide_eq_false hb27] at hA26
  refine skp hA26 rfl rfl rfl rfl rfl (by decide) fun a136 hA137 => ?_; clear hA26 a25
  refine skp hA137 rfl rfl rfl rfl rfl (by decide) fun a138 hA139 => ?_; clear hA137 a136
  refine st hA139 (op_pick_f rfl (hA139.ev rfl) (evc _ _)) rfl rfl (by decide) fun a140 hA141 => ?_; clear hA139 a138
  refine wl_nil ?_
  refine then_n ?_
  refine c_false hA141 rfl ?_
  refine c_exit ?_
  refine then_exit ?_
  refine then_exit ?_
  refine blk_hit ?_
  refine then_n ?_
  refine c_seq ?_
  have hA142 := hA141.as [(1, (bptr b4 0))] rfl; clear hA141
  refine c_region ?_
  refine st hA142 (op_field rfl fd_26_0 (hA142.ev rfl)) rfl rfl (by decide) fun a143 hA144 => ?_; clear hA142 a140
  refine st hA144 (op_load1 rfl ty_22 (hA144.ev rfl) (hS14.bk 0 rfl) rfl) rfl rfl (by decide) fun a145 hA146 => ?_; clear hA144 a143
  refine st hA146 (op_lenS rfl un_22 (hA146.ev rfl) (rnd_at (hS14.ok 1 _ rfl)).lots) rfl rfl (by decide) fun a147 hA148 => ?_; clear hA146 a145
  refine st hA148 (op_leq rfl (hA148.ev rfl) (evc _ _)) rfl rfl (by decide) fun a149 hA150 => ?_; clear hA148 a147
  refine st hA150 (op_move rfl (hA150.ev rfl)) rfl rfl (by decide) fun a151 hA152 => ?_; clear hA150 a149
  by_cases hb153 : (d.lots.length : Int) ≤ 6
  ·skip
   rw [decide_eq_true hb153] at hA152
   refine stg hA152 (op_field rfl fd_26_1 (hA152.ev rfl)) rfl rfl rfl rfl (by decide) fun a154 hA155 => ?_; clear hA152 a151
   refine stg hA155 (op_load1 rfl ty_23 (hA155.ev rfl) (hS14.bk 0 rfl) rfl) rfl rfl rfl rfl (by decide) fun a156 hA157 => ?_; clear hA155 a154
   refine stg hA157 (op_lenS rfl un_23 (hA157.ev rfl) (rnd_at (hS14.ok 1 _ rfl)).samples) rfl rfl rfl rfl (by decide) fun a158 hA159 => ?_; clear hA157 a156
   refine stg hA159 (op_leq rfl (hA159.ev rfl) (evc _ _)) rfl rfl rfl rfl (by decide) fun a160 hA161 => ?_; clear hA159 a158
   refine st hA161 (op_pick_t rfl (hA161.ev rfl) (hA161.ev rfl)) rfl rfl (by decide) fun a162 hA163 => ?_; clear hA161 a160
   refine st hA163 (op_move rfl (hA163.ev rfl)) rfl rfl (by decide) fun a164 hA165 => ?_; clear hA163 a162
   by_cases hb166 : (d.samples.length : Int) ≤ 10
   ·skip
    rw [decide_eq_true hb166] at hA165
    refine stg hA165 (op_field rfl fd_26_3 (hA165.ev rfl)) rfl rfl rfl rfl (by decide) fun a167 hA168 => ?_; clear hA165 a164
    refine stg hA168 (op_load1 rfl ty_24 (hA168.ev rfl) (hS14.bk 0 rfl) rfl) rfl rfl rfl rfl (by decide) fun a169 hA170 => ?_; clear hA168 a167
    refine stg hA170 (op_lenS rfl un_24 (hA170.ev rfl) (rnd_at (hS14.ok 1 _ rfl)).labs) rfl rfl rfl rfl (by decide) fun a171 hA172 => ?_; clear hA170 a169
    refine stg hA172 (op_leq rfl (hA172.ev rfl) (evc _ _)) rfl rfl rfl rfl (by decide) fun a173 hA174 => ?_; clear hA172 a171
    refine st hA174 (op_pick_t rfl (hA174.ev rfl) (hA174.ev rfl)) rfl rfl (by decide) fun a175 hA176 => ?_; clear hA174 a173
    refine st hA176 (op_assign rfl (hA176.ev rfl)) rfl rfl (by decide) fun a177 hA178 => ?_; clear hA176 a175
    refine wl_nil ?_
    refine then_n ?_
    refine c_ret ?_
    refine fin_run hA178 (.inl rfl) (run_results1 hA178 rfl (.tmp rfl)) ?_
    exact ⟨congrArg Value.bool (by unfold thinB; first | (rw [all_yes (fun i hi => hn i (by omega)), Bool.true_and]; (rw [Bool.eq_iff_iff]; (try simp only [Bool.true_and, Bool.false_and, Bool.and_true, Bool.and_false, Bool.false_or, Bool.true_or, Bool.or_false, Bool.or_true, true_and, and_true, false_and, and_false, false_or, or_false, true_or, or_true, Bool.and_eq_true, Bool.or_eq_true, Bool.not_eq_true', decide_eq_true_eq, decide_eq_false_iff_not, Bool.false_eq_true, Bool.true_eq_false, Bool.not_true, Bool.not_false, eq_self_iff_true, true_iff, false_iff, iff_true, iff_false, not_true, not_false_eq_true]); omega)) | (rw [all_no (k := k) (by omega) (decide_eq_false (by omega)), Bool.false_and])), hS14.ext⟩
   ·skip
    rw [decide_eq_false hb166] at hA165
    refine skp hA165 rfl rfl rfl rfl rfl (by decide) fun a179 hA180 => ?_; clear hA165 a164
    refine skp hA180 rfl rfl rfl rfl rfl (by decide) fun a181 hA182 => ?_; clear hA180 a179
    refine skp hA182 rfl rfl rfl rfl rfl (by decide) fun a183 hA184 => ?_; clear hA182 a181
    refine skp hA184 rfl rfl rfl rfl rfl (by decide) fun a185 hA186 => ?_; clear hA184 a183
    refine st hA186 (op_pick_f rfl (hA186.ev rfl) (evc _ _)) rfl rfl (by decide) fun a187 hA188 => ?_; clear hA186 a185
    refine st hA188 (op_assign rfl (hA188.ev rfl)) rfl rfl (by decide) fun a189 hA190 => ?_; clear hA188 a187
    refine wl_nil ?_
    refine then_n ?_
    refine c_ret ?_
    refine fin_run hA190 (.inl rfl) (run_results1 hA190 rfl (.tmp rfl)) ?_
    exact ⟨congrArg Value.bool (by unfold thinB; first | (rw [all_yes (fun i hi => hn i (by omega)), Bool.true_and]; (rw [Bool.eq_iff_iff]; (try simp only [Bool.true_and, Bool.false_and, Bool.and_true, Bool.and_false, Bool.false_or, Bool.true_or, Bool.or_false, Bool.or_true, true_and, and_true, false_and, and_false, false_or, or_false, true_or, or_true, Bool.and_eq_true, Bool.or_eq_true, Bool.not_eq_true', decide_eq_true_eq, decide_eq_false_iff_not, Bool.false_eq_true, Bool.true_eq_false, Bool.not_true, Bool.not_false, eq_self_iff_true, true_iff, false_iff, iff_true, iff_false, not_true, not_false_eq_true]); omega)) | (rw [all_no (k := k) (by omega) (decide_eq_false (by omega)), Bool.false_and])), hS14.ext⟩
  ·skip
   rw [decide_eq_false hb153] at hA152
   refine skp hA152 rfl rfl rfl rfl rfl (by decide) fun a191 hA192 => ?_; clear hA152 a151
   refine skp hA192 rfl rfl rfl rfl rfl (by decide) fun a193 hA194 => ?_; clear hA192 a191
   refine skp hA194 rfl rfl rfl rfl rfl (by decide) fun a195 hA196 => ?_; clear hA194 a193
   refine skp hA196 rfl rfl rfl rfl rfl (by decide) fun a197 hA198 => ?_; clear hA196 a195
   refine st hA198 (op_pick_f rfl (hA198.ev rfl) (evc _ _)) rfl rfl (by decide) fun a199 hA200 => ?_; clear hA198 a197
   refine st hA200 (op_move rfl (hA200.ev rfl)) rfl rfl (by decide) fun a201 hA202 => ?_; clear hA200 a199
   refine skp hA202 rfl rfl rfl rfl rfl (by decide) fun a203 hA204 => ?_; clear hA202 a201
   refine skp hA204 rfl rfl rfl rfl rfl (by decide) fun a205 hA206 => ?_; clear hA204 a203
   refine skp hA206 rfl rfl rfl rfl rfl (by decide) fun a207 hA208 => ?_; clear hA206 a205
   refine skp hA208 rfl rfl rfl rfl rfl (by decide) fun a209 hA210 => ?_; clear hA208 a207
   refine st hA210 (op_pick_f rfl (hA210.ev rfl) (evc _ _)) rfl rfl (by decide) fun a211 hA212 => ?_; clear hA210 a209
   refine st hA212 (op_assign rfl (hA212.ev rfl)) rfl rfl (by decide) fun a213 hA214 => ?_; clear hA212 a211
   refine wl_nil ?_
   refine then_n ?_
   refine c_ret ?_
   refine fin_run hA214 (.inl rfl) (run_results1 hA214 rfl (.tmp rfl)) ?_
   exact ⟨congrArg Value.bool (by unfold thinB; first | (rw [all_yes (fun i hi => hn i (by omega)), Bool.true_and]; (rw [Bool.eq_iff_iff]; (try simp only [Bool.true_and, Bool.false_and, Bool.and_true, Bool.and_false, Bool.false_or, Bool.true_or, Bool.or_false, Bool.or_true, true_and, and_true, false_and, and_false, false_or, or_false, true_or, or_true, Bool.and_eq_true, Bool.or_eq_true, Bool.not_eq_true', decide_eq_true_eq, decide_eq_false_iff_not, Bool.false_eq_true, Bool.true_eq_false, Bool.not_true, Bool.not_false, eq_self_iff_true, true_iff, false_iff, iff_true, iff_false, not_true, not_false_eq_true]); omega)) | (rw [all_no (k := k) (by omega) (decide_eq_false (by omega)), Bool.false_and])), hS14.ext⟩

theorem Fault_ok (rl rs rb : Value) (rlv : List Value) (d : RD) (w : World) (hR : RoundAt w rl rs rb rlv d) :
  Calls Try.prog 28 #[(Value.agg #[rl, rs, (Value.int .i64 d.spread), rb])] w (Ret fun v w' => v = .int .i64 (checkR d) ∧ Ext NoB w w') := by
 refine calls_enter Try.func28 rfl fun a0 hA0 => ?_
 replace hA0 : Fr 121 [] [(0, (Value.agg #[rl, rs, (Value.int .i64 d.spread), rb]))] a0 := hA0
 have hS0 : Sep NoB w w [(rndR false rl rs rb rlv d)] := sep_ro ⟨rfl, hR, trivial⟩
 refine c_seq ?_
 refine c_region ?_
 refine stw hA0 (op_box hS0 rfl (hA0.ev rfl) (cs := [rl, rs, (Value.int .i64 d.spread), rb]) rfl) rfl rfl (by decide) ?_
 rintro a1 _ w3 ⟨b4, rfl, hS5⟩ hA2; clear hA0 hS0 a0
 refine st hA2 (op_assign rfl (evc _ _)) rfl rfl (by decide) fun a6 hA7 => ?_; clear hA2 a1
 refine wl_nil ?_
 refine then_n ?_
 refine c_seq ?_
 refine c_seq ?_
 refine c_region ?_
 refine st hA7 (op_field rfl fd_26_0 (hA7.ev rfl)) rfl rfl (by decide) fun a8 hA9 => ?_; clear hA7 a6
 refine st hA9 (op_load1 rfl ty_22 (hA9.ev rfl) (hS5.bk 0 rfl) rfl) rfl rfl (by decide) fun a10 hA11 => ?_; clear hA9 a8
 refine st hA11 (op_lenS rfl un_22 (hA11.ev rfl) (rnd_at (hS5.ok 1 _ rfl)).lots) rfl rfl (by decide) fun a12 hA13 => ?_; clear hA11 a10
 refine st hA13 (op_gtr rfl (hA13.ev rfl) (evc _ _)) rfl rfl (by decide) fun a14 hA15 => ?_; clear hA13 a12
 refine st hA15 (op_move rfl (hA15.ev rfl)) rfl rfl (by decide) fun a16 hA17 => ?_; clear hA15 a14
 by_cases hb18 : 4 < (d.lots.length : Int)
 ·skip
  rw [decide_eq_true hb18] at hA17
  refine skp hA17 rfl rfl rfl rfl rfl (by decide) fun a19 hA20 => ?_; clear hA17 a16
  refine skp hA20 rfl rfl rfl rfl rfl (by decide) fun a21 hA22 => ?_; clear hA20 a19
  refine skp hA22 rfl rfl rfl rfl rfl (by decide) fun a23 hA24 => ?_; clear hA22 a21
  refine skp hA24 rfl rfl rfl rfl rfl (by decide) fun a25 hA26 => ?_; clear hA24 a23
  refine st hA26 (op_pick_t rfl (hA26.ev rfl) (evc _ _)) rfl rfl (by decide) fun a27 hA28 => ?_; clear hA26 a25
  refine st hA28 (op_move rfl (hA28.ev rfl)) rfl rfl (by decide) fun a29 hA30 => ?_; clear hA28 a27
  refine skp hA30 rfl rfl rfl rfl rfl (by decide) fun a31 hA32 => ?_; clear hA30 a29
  refine skp hA32 rfl rfl rfl rfl rfl (by decide) fun a33 hA34 => ?_; clear hA32 a31
  refine skp hA34 rfl rfl rfl rfl rfl (by decide) fun a35 hA36 => ?_; clear hA34 a33
  refine skp hA36 rfl rfl rfl rfl rfl (by decide) fun a37 hA38 => ?_; clear hA36 a35
  refine st hA38 (op_pick_t rfl (hA38.ev rfl) (evc _ _)) rfl rfl (by decide) fun a39 hA40 => ?_; clear hA38 a37
  refine wl_nil ?_
  refine then_n ?_
  refine c_true hA40 rfl ?_
  refine c_seq ?_
  have hA41 := hA40.as [] rfl; clear hA40
  refine c_region ?_
  refine st hA41 (op_assign rfl (evc _ _)) rfl rfl (by decide) fun a42 hA43 => ?_; clear hA41 a39
  refine wl_nil ?_
  refine then_n ?_
  refine c_ret ?_
  refine then_ret ?_
  refine fin_run hA43 (.inl rfl) (run_results1 hA43 rfl (.tmp rfl)) ?_
  exact ⟨ret_int (checkR_3 (by omega)).symm, hS5.ext⟩
 ·skip
  rw [decide_eq_false hb18] at hA17
  refine stg hA17 (op_field rfl fd_26_1 (hA17.ev rfl)) rfl rfl rfl rfl (by decide) fun a44 hA45 => ?_; clear hA17 a16
  refine stg hA45 (op_load1 rfl ty_23 (hA45.ev rfl) (hS5.bk 0 rfl) rfl) rfl rfl rfl rfl (by decide) fun a46 hA47 => ?_; clear hA45 a44
  refine stg hA47 (op_lenS rfl un_23 (hA47.ev rfl) (rnd_at (hS5.ok 1 _ rfl)).samples) rfl rfl rfl rfl (by decide) fun a48 hA49 => ?_; clear hA47 a46
  refine stg hA49 (op_gtr rfl (hA49.ev rfl) (evc _ _)) rfl rfl rfl rfl (by decide) fun a50 hA51 => ?_; clear hA49 a48
  refine st hA51 (op_pick_f rfl (hA51.ev rfl) (hA51.ev rfl)) rfl rfl (by decide) fun a52 hA53 => ?_; clear hA51 a50
  refine st hA53 (op_move rfl (hA53.ev rfl)) rfl rfl (by decide) fun a54 hA55 => ?_; clear hA53 a52
  by_cases hb56 : 8 < (d.samples.length : Int)
  ·skip
   rw [decide_eq_true hb56] at hA55
   refine skp hA55 rfl rfl rfl rfl rfl (by decide) fun a57 hA58 => ?_; clear hA55 a54
   refine skp hA58 rfl rfl rfl rfl rfl (by decide) fun a59 hA60 => ?_; clear hA58 a57
   refine skp hA60 rfl rfl rfl rfl rfl (by decide) fun a61 hA62 => ?_; clear hA60 a59
   refine skp hA62 rfl rfl rfl rfl rfl (by decide) fun a63 hA64 => ?_; clear hA62 a61
   refine st hA64 (op_pick_t rfl (hA64.ev rfl) (evc _ _)) rfl rfl (by decide) fun a65 hA66 => ?_; clear hA64 a63
   refine wl_nil ?_
   refine then_n ?_
   refine c_true hA66 rfl ?_
   refine c_seq ?_
   have hA67 := hA66.as [] rfl; clear hA66
   refine c_region ?_
   refine st hA67 (op_assign rfl (evc _ _)) rfl rfl (by decide) fun a68 hA69 => ?_; clear hA67 a65
   refine wl_nil ?_
   refine then_n ?_
   refine c_ret ?_
   refine then_ret ?_
   refine fin_run hA69 (.inl rfl) (run_results1 hA69 rfl (.tmp rfl)) ?_
   exact ⟨ret_int (checkR_3 (by omega)).symm, hS5.ext⟩
  ·skip
   rw [decide_eq_false hb56] at hA55
   refine stg hA55 (op_field rfl fd_26_3 (hA55.ev rfl)) rfl rfl rfl rfl (by decide) fun a70 hA71 => ?_; clear hA55 a54
   refine stg hA71 (op_load1 rfl ty_24 (hA71.ev rfl) (hS5.bk 0 rfl) rfl) rfl rfl rfl rfl (by decide) fun a72 hA73 => ?_; clear hA71 a70
   refine stg hA73 (op_lenS rfl un_24 (hA73.ev rfl) (rnd_at (hS5.ok 1 _ rfl)).labs) rfl rfl rfl rfl (by decide) fun a74 hA75 => ?_; clear hA73 a72
   refine stg hA75 (op_gtr rfl (hA75.ev rfl) (evc _ _)) rfl rfl rfl rfl (by decide) fun a76 hA77 => ?_; clear hA75 a74
   refine st hA77 (op_pick_f rfl (hA77.ev rfl) (hA77.ev rfl)) rfl rfl (by decide) fun a78 hA79 => ?_; clear hA77 a76
   refine wl_nil ?_
   refine then_n ?_
   by_cases hb80 : 6 < (d.tols.length : Int)
   ·skip
    rw [decide_eq_true hb80] at hA79
    refine c_true hA79 rfl ?_
    refine c_seq ?_
    have hA81 := hA79.as [] rfl; clear hA79
    refine c_region ?_
    refine st hA81 (op_assign rfl (evc _ _)) rfl rfl (by decide) fun a82 hA83 => ?_; clear hA81 a78
    refine wl_nil ?_
    refine then_n ?_
    refine c_ret ?_
    refine then_ret ?_
    refine fin_run hA83 (.inl rfl) (run_results1 hA83 rfl (.tmp rfl)) ?_
    exact ⟨ret_int (checkR_3 (by omega)).symm, hS5.ext⟩
   ·skip
    rw [decide_eq_false hb80] at hA79
    refine c_false hA79 rfl ?_
    refine c_skip ?_
    refine then_n ?_
    refine c_seq ?_
    refine c_seq ?_
    have hA84 := hA79.as [(1, (bptr b4 0))] rfl; clear hA79
    refine c_region ?_
    refine st hA84 (op_field rfl fd_26_0 (hA84.ev rfl)) rfl rfl (by decide) fun a85 hA86 => ?_; clear hA84 a78
    refine st hA86 (op_load1 rfl ty_22 (hA86.ev rfl) (hS5.bk 0 rfl) rfl) rfl rfl (by decide) fun a87 hA88 => ?_; clear hA86 a85
    refine st hA88 (op_lenS rfl un_22 (hA88.ev rfl) (rnd_at (hS5.ok 1 _ rfl)).lots) rfl rfl (by decide) fun a89 hA90 => ?_; clear hA88 a87
    refine st hA90 (op_eql rfl (hA90.ev rfl) (evc _ _)) rfl rfl (by decide) fun a91 hA92 => ?_; clear hA90 a89
    refine st hA92 (op_move rfl (hA92.ev rfl)) rfl rfl (by decide) fun a93 hA94 => ?_; clear hA92 a91
    by_cases hb95 : (d.lots.length : Int) = 0
    ·skip
     rw [decide_eq_true hb95] at hA94
     refine skp hA94 rfl rfl rfl rfl rfl (by decide) fun a96 hA97 => ?_; clear hA94 a93
     refine skp hA97 rfl rfl rfl rfl rfl (by decide) fun a98 hA99 => ?_; clear hA97 a96
     refine skp hA99 rfl rfl rfl rfl rfl (by decide) fun a100 hA101 => ?_; clear hA99 a98
     refine skp hA101 rfl rfl rfl rfl rfl (by decide) fun a102 hA103 => ?_; clear hA101 a100
     refine st hA103 (op_pick_t rfl (hA103.ev rfl) (evc _ _)) rfl rfl (by decide) fun a104 hA105 => ?_; clear hA103 a102
     refine wl_nil ?_
     refine then_n ?_
     refine c_true hA105 rfl ?_
     refine c_seq ?_
     have hA106 := hA105.as [] rfl; clear hA105
     refine c_region ?_
     refine st hA106 (op_assign rfl (evc _ _)) rfl rfl (by decide) fun a107 hA108 => ?_; clear hA106 a104
     refine wl_nil ?_
     refine then_n ?_
     refine c_ret ?_
     refine then_ret ?_
     refine fin_run hA108 (.inl rfl) (run_results1 hA108 rfl (.tmp rfl)) ?_
     exact ⟨ret_int (checkR_1 (by omega) (by first | (left; omega) | (right; right; right; left; unfold tolB; simp only [Bool.and_eq_false_iff, decide_eq_false_iff_not]; omega) | (right; right; right; right; exact all_no (k := k2) (by omega) (labB_no2 (j := k3) (by omega) (by unfold rdB; simp only [Bool.and_eq_false_iff, decide_eq_false_iff_not]; omega))) | (right; right; right; right; exact all_no (k := k2) (by omega) (labB_no1 (by omega))) | (right; right; left; exact all_no (k := k1) (by omega) (by unfold smpB; simp only [Bool.and_eq_false_iff, decide_eq_false_iff_not]; omega)) | (right; left; exact all_no (k := k) (by omega) (by unfold lotB; simp only [Bool.and_eq_false_iff, decide_eq_false_iff_not]; omega)))).symm, hS5.ext⟩
    ·skip
     rw [decide_eq_false hb95] at hA94
     refine stg hA94 (op_field rfl fd_26_2 (hA94.ev rfl)) rfl rfl rfl rfl (by decide) fun a109 hA110 => ?_; clear hA94 a93
     refine stg hA110 (op_load1 rfl ty_3 (hA110.ev rfl) (hS5.bk 0 rfl) rfl) rfl rfl rfl rfl (by decide) fun a111 hA112 => ?_; clear hA110 a109
     refine stwg hA112 (op_call rfl en_33 (ev3 (hA112.ev rfl) (evc _ _) (evc _ _)) (In_ok _ _ _ _)) rfl rfl rfl rfl (by decide) ?_
     rintro a113 _ _ ⟨rfl, rfl⟩ hA114; clear hA112 a111
     refine stg hA114 (op_not rfl (hA114.ev rfl)) rfl rfl rfl rfl (by decide) fun a116 hA117 => ?_; clear hA114 a113
     refine st hA117 (op_pick_f rfl (hA117.ev rfl) (hA117.ev rfl)) rfl rfl (by decide) fun a118 hA119 => ?_; clear hA117 a116
     refine wl_nil ?_
     refine then_n ?_
     rcases Bool.eq_false_or_eq_true ((decide (0 ≤ d.spread) && decide (d.spread ≤ 100))) with hb120 | hb120
     ·skip
      rw [hb120] at hA119
      have hq121 := hb120; simp only [Bool.and_eq_true, Bool.and_eq_false_iff, decide_eq_true_eq, decide_eq_false_iff_not] at hq121
      refine c_false hA119 rfl ?_
      refine c_skip ?_
      refine then_n ?_
      refine c_seq ?_
      refine c_seq ?_
      have hA122 := hA119.as [(1, (bptr b4 0))] rfl; clear hA119
      refine c_region ?_
      refine st hA122 (op_assign rfl (evc _ _)) rfl rfl (by decide) fun a123 hA124 => ?_; clear hA122 a118
      refine wl_nil ?_
      refine then_n ?_
      refine c_block ?_
      have hA125 := hA124.as [(3, (Value.int .i64 0)), (1, (bptr b4 0))] rfl; clear hA124
      refine c_loop (G := Nat) (fun (k : Nat) a_ w_ => Fr 121 [] [(3, (Value.int .i64 (k : Int))), (1, (bptr b4 0))] a_ ∧ Sep NoB w w_ [(blk b4 26 [rl, rs, (Value.int .i64 d.spread), rb]), (rndR false rl rs rb rlv d)] ∧ (k ≤ d.lots.length) ∧ (∀ i, i < k → lotB (d.lots.getD i (0, 0)) = true)) (fun k => d.lots.length - k) 0 ⟨hA125.as _ rfl, hS5, by omega, (fun _ h => absurd h (Nat.not_lt_zero _))⟩ ?_
      clear hA125 hS5 a123
      rintro k a126 w128 ⟨hA127, hS129, hkk, hlot⟩
      refine c_seq ?_
      refine c_seq ?_
      refine c_region ?_
      refine st hA127 (op_move rfl (hA127.ev rfl)) rfl rfl (by decide) fun a130 hA131 => ?_; clear hA127 a126
      refine st hA131 (op_field rfl fd_26_0 (hA131.ev rfl)) rfl rfl (by decide) fun a132 hA133 => ?_; clear hA131 a130
      refine st hA133 (op_load1 rfl ty_22 (hA133.ev rfl) (hS129.bk 0 rfl) rfl) rfl rfl (by decide) fun a134 hA135 => ?_; clear hA133 a132
      refine st hA135 (op_lenS rfl un_22 (hA135.ev rfl) (rnd_at (hS129.ok 1 _ rfl)).lots) rfl rfl (by decide) fun a136 hA137 => ?_; clear hA135 a134
      refine st hA137 (op_lss rfl (hA137.ev rfl) (hA137.ev rfl)) rfl rfl (by decide) fun a138 hA139 => ?_; clear hA137 a136
      refine wl_nil ?_
      refine then_n ?_
      by_cases hb140 : (k : Int) < (d.lots.length : Int)
      ·skip
       rw [decide_eq_true hb140] at hA139
       refine c_true hA139 rfl ?_
       refine c_skip ?_
       refine then_n ?_
       refine c_seq ?_
       refine c_block ?_
       refine c_seq ?_
       have hA141 := hA139.as [(3, (Value.int .i64 (k : Int))), (1, (bptr b4 0))] rfl; clear hA139
       rcases Bool.eq_false_or_eq_true ((decide (0 ≤ ((d.lots.getD k (0, 0)).1)) && decide (((d.lots.getD k (0, 0)).1) ≤ ((d.lots.getD k (0, 0)).2)))) with hb143 | hb143
       ·skip
        have hq144 := hb143; simp only [Bool.and_eq_true, Bool.and_eq_false_iff, decide_eq_true_eq, decide_eq_false_iff_not] at hq144
        have hA145 := hA141.as [(3, (Value.int .i64 (k : Int))), (1, (bptr b4 0))] rfl; clear hA141
        refine c_drawV mixed hA145 hS129 18 [[], [0], [], [1, 2], [3], [4], [], [6], [], [7, 8], [9], [10], [5, 11], [12], [13], [14], [14, 15], [14]] [(fun (vs146 : Nat → Value) (v_ : Value) (rs_ : List Res) => v_ = (bptr b4 0) ∧ rs_ = []), (fun (vs146 : Nat → Value) (v_ : Value) (rs_ : List Res) => v_ = rl ∧ rs_ = []), (fun (vs146 : Nat → Value) (v_ : Value) (rs_ : List Res) => v_ = (Value.int .i64 (k : Int)) ∧ rs_ = []), (fun (vs146 : Nat → Value) (v_ : Value) (rs_ : List Res) => v_ = (eptr rl (k * 2)) ∧ rs_ = []), (fun (vs146 : Nat → Value) (v_ : Value) (rs_ : List Res) => v_ = (eptr rl (k * 2 + 0)) ∧ rs_ = []), (fun (vs146 : Nat → Value) (v_ : Value) (rs_ : List Res) => v_ = (Value.int .i64 ((d.lots.getD k (0, 0)).1)) ∧ rs_ = []), (fun (vs146 : Nat → Value) (v_ : Value) (rs_ : List Res) => v_ = (bptr b4 0) ∧ rs_ = []), (fun (vs146 : Nat → Value) (v_ : Value) (rs_ : List Res) => v_ = rl ∧ rs_ = []), (fun (vs146 : Nat → Value) (v_ : Value) (rs_ : List Res) => v_ = (Value.int .i64 (k : Int)) ∧ rs_ = []), (fun (vs146 : Nat → Value) (v_ : Value) (rs_ : List Res) => v_ = (eptr rl (k * 2)) ∧ rs_ = []), (fun (vs146 : Nat → Value) (v_ : Value) (rs_ : List Res) => v_ = (eptr rl (k * 2 + 1)) ∧ rs_ = []), (fun (vs146 : Nat → Value) (v_ : Value) (rs_ : List Res) => v_ = (Value.int .i64 ((d.lots.getD k (0, 0)).2)) ∧ rs_ = []), (fun (vs146 : Nat → Value) (v_ : Value) (rs_ : List Res) => v_ = (Value.bool true) ∧ rs_ = []), (fun (vs146 : Nat → Value) (v_ : Value) (rs_ : List Res) => v_ = (Value.bool (!true)) ∧ rs_ = []), (fun (vs146 : Nat → Value) (v_ : Value) (rs_ : List Res) => v_ = (Value.bool (!true)) ∧ rs_ = []), (fun (vs146 : Nat → Value) (v_ : Value) (rs_ : List Res) => v_ = (bptr b4 0) ∧ rs_ = []), (fun (vs146 : Nat → Value) (v_ : Value) (rs_ : List Res) => v_ = rl ∧ rs_ = []), (fun (vs146 : Nat → Value) (v_ : Value) (rs_ : List Res) => v_ = (Value.int .i64 (k : Int)) ∧ rs_ = [])] (by decide +kernel) (by decide +kernel) rfl rfl ⟨(fun _ _ _ _ _ h_ => h_), (fun _ _ _ _ _ h_ => h_), (fun _ _ _ _ _ h_ => h_), (fun _ _ _ _ _ h_ => h_), (fun _ _ _ _ _ h_ => h_), (fun _ _ _ _ _ h_ => h_), (fun _ _ _ _ _ h_ => h_), (fun _ _ _ _ _ h_ => h_), (fun _ _ _ _ _ h_ => h_), (fun _ _ _ _ _ h_ => h_), (fun _ _ _ _ _ h_ => h_), (fun _ _ _ _ _ h_ => h_), (fun _ _ _ _ _ h_ => h_), (fun _ _ _ _ _ h_ => h_), (fun _ _ _ _ _ h_ => h_), (fun _ _ _ _ _ h_ => h_), (fun _ _ _ _ _ h_ => h_), (fun _ _ _ _ _ h_ => h_), trivial⟩ ?_ ?_
        ·skip
         refine ⟨fun a w vs146 hA hS hd => ?_, ?_⟩
         ·skip
          exact opG_of rfl (vv (op_field rfl fd_26_0 (hA.ev rfl)) (And.intro rfl rfl))
         refine ⟨fun a w vs146 hA hS hd => ?_, ?_⟩
         ·skip
          obtain ⟨e0, rs0, hy0, hp0⟩ := hd 0 (by decide)
          obtain ⟨hv0, hr0⟩ := hy0; subst hr0
          rw [hv0] at e0
          exact opG_of rfl (vv (op_load1 rfl ty_22 (tmp_ev (slot_ev e0 rfl)) (hS.bk 0 rfl) rfl) (And.intro rfl rfl))
         refine ⟨fun a w vs146 hA hS hd => ?_, ?_⟩
         ·skip
          exact opG_of rfl (vv (op_move rfl (hA.ev rfl)) (And.intro rfl rfl))
         refine ⟨fun a w vs146 hA hS hd => ?_, ?_⟩
         ·skip
          obtain ⟨e1, rs1, hy1, hp1⟩ := hd 1 (by decide)
          obtain ⟨hv1, hr1⟩ := hy1; subst hr1
          rw [hv1] at e1
          obtain ⟨e2, rs2, hy2, hp2⟩ := hd 2 (by decide)
          obtain ⟨hv2, hr2⟩ := hy2; subst hr2
          rw [hv2] at e2
          exact opG_of rfl (vv (op_indexS rfl un_22 ty_44 (tmp_ev (slot_ev e1 rfl)) (i := k) (tmp_ev (slot_ev e2 rfl)) (rnd_at (hS.ok 1 _ rfl)).lots (by decide) (by omega)) (And.intro rfl rfl))
         refine ⟨fun a w vs146 hA hS hd => ?_, ?_⟩
         ·skip
          obtain ⟨e3, rs3, hy3, hp3⟩ := hd 3 (by decide)
          obtain ⟨hv3, hr3⟩ := hy3; subst hr3
          rw [hv3] at e3
          exact opG_of rfl (vv (op_fieldS rfl fd_44_0 (tmp_ev (slot_ev e3 rfl)) (rnd_at (hS.ok 1 _ rfl)).lots (by rw [((rnd_at (hS.ok 1 _ rfl)).lots).1]; omega)) (And.intro rfl rfl))
         refine ⟨fun a w vs146 hA hS hd => ?_, ?_⟩
         ·skip
          obtain ⟨e4, rs4, hy4, hp4⟩ := hd 4 (by decide)
          obtain ⟨hv4, hr4⟩ := hy4; subst hr4
          rw [hv4] at e4
          exact opG_of rfl (vv (op_load1E rfl ty_3 (tmp_ev (slot_ev e4 rfl)) (rnd_at (hS.ok 1 _ rfl)).lots (pairs_at0 (by omega))) (And.intro rfl rfl))
         refine ⟨fun a w vs146 hA hS hd => ?_, ?_⟩
         ·skip
          exact opG_of rfl (vv (op_field rfl fd_26_0 (hA.ev rfl)) (And.intro rfl rfl))
         refine ⟨fun a w vs146 hA hS hd => ?_, ?_⟩
         ·skip
          obtain ⟨e6, rs6, hy6, hp6⟩ := hd 6 (by decide)
          obtain ⟨hv6, hr6⟩ := hy6; subst hr6
          rw [hv6] at e6
          exact opG_of rfl (vv (op_load1 rfl ty_22 (tmp_ev (slot_ev e6 rfl)) (hS.bk 0 rfl) rfl) (And.intro rfl rfl))
         refine ⟨fun a w vs146 hA hS hd => ?_, ?_⟩
         ·skip
          exact opG_of rfl (vv (op_move rfl (hA.ev rfl)) (And.intro rfl rfl))
         refine ⟨fun a w vs146 hA hS hd => ?_, ?_⟩
         ·skip
          obtain ⟨e7, rs7, hy7, hp7⟩ := hd 7 (by decide)
          obtain ⟨hv7, hr7⟩ := hy7; subst hr7
          rw [hv7] at e7
          obtain ⟨e8, rs8, hy8, hp8⟩ := hd 8 (by decide)
          obtain ⟨hv8, hr8⟩ := hy8; subst hr8
          rw [hv8] at e8
          exact opG_of rfl (vv (op_indexS rfl un_22 ty_44 (tmp_ev (slot_ev e7 rfl)) (i := k) (tmp_ev (slot_ev e8 rfl)) (rnd_at (hS.ok 1 _ rfl)).lots (by decide) (by omega)) (And.intro rfl rfl))
         refine ⟨fun a w vs146 hA hS hd => ?_, ?_⟩
         ·skip
          obtain ⟨e9, rs9, hy9, hp9⟩ := hd 9 (by decide)
          obtain ⟨hv9, hr9⟩ := hy9; subst hr9
          rw [hv9] at e9
          exact opG_of rfl (vv (op_fieldS rfl fd_44_1 (tmp_ev (slot_ev e9 rfl)) (rnd_at (hS.ok 1 _ rfl)).lots (by rw [((rnd_at (hS.ok 1 _ rfl)).lots).1]; omega)) (And.intro rfl rfl))
         refine ⟨fun a w vs146 hA hS hd => ?_, ?_⟩
         ·skip
          obtain ⟨e10, rs10, hy10, hp10⟩ := hd 10 (by decide)
          obtain ⟨hv10, hr10⟩ := hy10; subst hr10
          rw [hv10] at e10
          exact opG_of rfl (vv (op_load1E rfl ty_3 (tmp_ev (slot_ev e10 rfl)) (rnd_at (hS.ok 1 _ rfl)).lots (pairs_at1 (by omega))) (And.intro rfl rfl))
         refine ⟨fun a w vs146 hA hS hd => ?_, ?_⟩
         ·skip
          obtain ⟨e5, rs5, hy5, hp5⟩ := hd 5 (by decide)
          obtain ⟨hv5, hr5⟩ := hy5; subst hr5
          rw [hv5] at e5
          obtain ⟨e11, rs11, hy11, hp11⟩ := hd 11 (by decide)
          obtain ⟨hv11, hr11⟩ := hy11; subst hr11
          rw [hv11] at e11
          exact opG_of rfl (vv (op_call rfl en_33 (ev3 (tmp_ev (slot_ev e5 rfl)) (evc _ _) (tmp_ev (slot_ev e11 rfl))) (In_ok _ _ _ _)) (And.intro (by show Value.bool _ = _; simp only [hb143, decide_true, decide_false, Bool.not_true, Bool.not_false]) rfl))
         refine ⟨fun a w vs146 hA hS hd => ?_, ?_⟩
         ·skip
          obtain ⟨e12, rs12, hy12, hp12⟩ := hd 12 (by decide)
          obtain ⟨hv12, hr12⟩ := hy12; subst hr12
          rw [hv12] at e12
          exact opG_of rfl (vv (op_not rfl (tmp_ev (slot_ev e12 rfl))) (And.intro rfl rfl))
         refine ⟨fun a w vs146 hA hS hd => ?_, ?_⟩
         ·skip
          obtain ⟨e13, rs13, hy13, hp13⟩ := hd 13 (by decide)
          obtain ⟨hv13, hr13⟩ := hy13; subst hr13
          rw [hv13] at e13
          exact opG_of rfl (vv (op_move rfl (tmp_ev (slot_ev e13 rfl))) (And.intro rfl rfl))
         refine ⟨fun a w vs146 hA hS hd => ?_, ?_⟩
         ·skip
          obtain ⟨e14, rs14, hy14, hp14⟩ := hd 14 (by decide)
          obtain ⟨hv14, hr14⟩ := hy14; subst hr14
          rw [hv14] at e14
          exact opG_yes rfl rfl (slot_ev e14 rfl) (vv (op_field rfl fd_26_0 (hA.ev rfl)) (And.intro rfl rfl))
         refine ⟨fun a w vs146 hA hS hd => ?_, ?_⟩
         ·skip
          obtain ⟨e14, rs14, hy14, hp14⟩ := hd 14 (by decide)
          obtain ⟨hv14, hr14⟩ := hy14; subst hr14
          rw [hv14] at e14
          obtain ⟨e15, rs15, hy15, hp15⟩ := hd 15 (by decide)
          obtain ⟨hv15, hr15⟩ := hy15; subst hr15
          rw [hv15] at e15
          exact opG_yes rfl rfl (slot_ev e14 rfl) (vv (op_load1 rfl ty_22 (tmp_ev (slot_ev e15 rfl)) (hS.bk 0 rfl) rfl) (And.intro rfl rfl))
         refine ⟨fun a w vs146 hA hS hd => ?_, ?_⟩
         ·skip
          obtain ⟨e14, rs14, hy14, hp14⟩ := hd 14 (by decide)
          obtain ⟨hv14, hr14⟩ := hy14; subst hr14
          rw [hv14] at e14
          exact opG_yes rfl rfl (slot_ev e14 rfl) (vv (op_move rfl (hA.ev rfl)) (And.intro rfl rfl))
         trivial
        intro a147 w148 vs146 rsf152 hA149 hH151 hS150; clear hA145 hS129
        obtain ⟨hs_0, hy_0⟩ := hH151 0 (by decide)
        obtain ⟨hv_0, hr_0⟩ := hy_0
        obtain ⟨hs_1, hy_1⟩ := hH151 1 (by decide)
        obtain ⟨hv_1, hr_1⟩ := hy_1
        obtain ⟨hs_2, hy_2⟩ := hH151 2 (by decide)
        obtain ⟨hv_2, hr_2⟩ := hy_2
        obtain ⟨hs_3, hy_3⟩ := hH151 3 (by decide)
        obtain ⟨hv_3, hr_3⟩ := hy_3
        obtain ⟨hs_4, hy_4⟩ := hH151 4 (by decide)
        obtain ⟨hv_4, hr_4⟩ := hy_4
        obtain ⟨hs_5, hy_5⟩ := hH151 5 (by decide)
        obtain ⟨hv_5, hr_5⟩ := hy_5
        obtain ⟨hs_6, hy_6⟩ := hH151 6 (by decide)
        obtain ⟨hv_6, hr_6⟩ := hy_6
        obtain ⟨hs_7, hy_7⟩ := hH151 7 (by decide)
        obtain ⟨hv_7, hr_7⟩ := hy_7
        obtain ⟨hs_8, hy_8⟩ := hH151 8 (by decide)
        obtain ⟨hv_8, hr_8⟩ := hy_8
        obtain ⟨hs_9, hy_9⟩ := hH151 9 (by decide)
        obtain ⟨hv_9, hr_9⟩ := hy_9
        obtain ⟨hs_10, hy_10⟩ := hH151 10 (by decide)
        obtain ⟨hv_10, hr_10⟩ := hy_10
        obtain ⟨hs_11, hy_11⟩ := hH151 11 (by decide)
        obtain ⟨hv_11, hr_11⟩ := hy_11
        obtain ⟨hs_12, hy_12⟩ := hH151 12 (by decide)
        obtain ⟨hv_12, hr_12⟩ := hy_12
        obtain ⟨hs_13, hy_13⟩ := hH151 13 (by decide)
        obtain ⟨hv_13, hr_13⟩ := hy_13
        obtain ⟨hs_14, hy_14⟩ := hH151 14 (by decide)
        obtain ⟨hv_14, hr_14⟩ := hy_14
        obtain ⟨hs_15, hy_15⟩ := hH151 15 (by decide)
        obtain ⟨hv_15, hr_15⟩ := hy_15
        obtain ⟨hs_16, hy_16⟩ := hH151 16 (by decide)
        obtain ⟨hv_16, hr_16⟩ := hy_16
        obtain ⟨hs_17, hy_17⟩ := hH151 17 (by decide)
        obtain ⟨hv_17, hr_17⟩ := hy_17
        have hS153 : Sep NoB w w148 [(blk b4 26 [rl, rs, (Value.int .i64 d.spread), rb]), (rndR false rl rs rb rlv d)] := by rw [show catR rsf152 0 18 = ([] : List Res) by (try simp only [catR, hr_0, hr_1, hr_2, hr_3, hr_4, hr_5, hr_6, hr_7, hr_8, hr_9, hr_10, hr_11, hr_12, hr_13, hr_14, hr_15, hr_16, hr_17]); (try rfl)] at hS150; exact hS150
        rw [hv_14] at hs_14
        have hA154 : Fr 121 [] [(55, (Value.bool (!true))), (3, (Value.int .i64 (k : Int))), (1, (bptr b4 0))] a147 := hA149.add (slot_ev hs_14 rfl); clear hA149
        rw [hv_16] at hs_16
        have hA155 : Fr 121 [] [(57, rl), (55, (Value.bool (!true))), (3, (Value.int .i64 (k : Int))), (1, (bptr b4 0))] a147 := hA154.add (slot_ev hs_16 rfl); clear hA154
        rw [hv_17] at hs_17
        have hA156 : Fr 121 [] [(58, (Value.int .i64 (k : Int))), (57, rl), (55, (Value.bool (!true))), (3, (Value.int .i64 (k : Int))), (1, (bptr b4 0))] a147 := hA155.add (slot_ev hs_17 rfl); clear hA155
        clear hH151 hS150 hs_0 hs_1 hs_2 hs_3 hs_4 hs_5 hs_6 hs_7 hs_8 hs_9 hs_10 hs_11 hs_12 hs_13 hs_14 hs_15 hs_16 hs_17
        clear hr_0
        clear hv_0
        clear hr_1
        clear hv_1
        clear hr_2
        clear hv_2
        clear hr_3
        clear hv_3
        clear hr_4
        clear hv_4
        clear hr_5
        clear hv_5
        clear hr_6
        clear hv_6
        clear hr_7
        clear hv_7
        clear hr_8
        clear hv_8
        clear hr_9
        clear hv_9
        clear hr_10
        clear hv_10
        clear hr_11
        clear hv_11
        clear hr_12
        clear hv_12
        clear hr_13
        clear hv_13
        clear hr_14
        clear hv_14
        clear hr_15
        clear hv_15
        clear hr_16
        clear hv_16
        clear hr_17
        clear hv_17
        refine stg hA156 (op_indexS rfl un_22 ty_44 (hA156.ev rfl) (i := k) (hA156.ev rfl) (rnd_at (hS153.ok 1 _ rfl)).lots (by decide) (by omega)) rfl rfl rfl rfl (by decide) fun a157 hA158 => ?_; clear hA156 a147
        refine stg hA158 (op_fieldS rfl fd_44_1 (hA158.ev rfl) (rnd_at (hS153.ok 1 _ rfl)).lots (by rw [((rnd_at (hS153.ok 1 _ rfl)).lots).1]; omega)) rfl rfl rfl rfl (by decide) fun a159 hA160 => ?_; clear hA158 a157
        refine stg hA160 (op_load1E rfl ty_3 (hA160.ev rfl) (rnd_at (hS153.ok 1 _ rfl)).lots (pairs_at1 (by omega))) rfl rfl rfl rfl (by decide) fun a161 hA162 => ?_; clear hA160 a159
        refine stg hA162 (op_gtr rfl (hA162.ev rfl) (evc _ _)) rfl rfl rfl rfl (by decide) fun a163 hA164 => ?_; clear hA162 a161
        refine st hA164 (op_pick_f rfl (hA164.ev rfl) (hA164.ev rfl)) rfl rfl (by decide) fun a165 hA166 => ?_; clear hA164 a163
        refine wl_nil ?_
        refine then_n ?_
        by_cases hb167 : 1000 < ((d.lots.getD k (0, 0)).2)
        ·skip
         rw [decide_eq_true hb167] at hA166
         refine c_true hA166 rfl ?_
         refine c_seq ?_
         have hA168 := hA166.as [] rfl; clear hA166
         refine c_region ?_
         refine st hA168 (op_assign rfl (evc _ _)) rfl rfl (by decide) fun a169 hA170 => ?_; clear hA168 a165
         refine wl_nil ?_
         refine then_n ?_
         refine c_ret ?_
         refine blk_ret ?_
         refine then_ret ?_
         refine then_ret ?_
         refine blk_ret ?_
         refine then_ret ?_
         refine fin_run hA170 (.inl rfl) (run_results1 hA170 rfl (.tmp rfl)) ?_
         exact ⟨ret_int (checkR_1 (by omega) (by first | (left; omega) | (right; right; right; left; unfold tolB; simp only [Bool.and_eq_false_iff, decide_eq_false_iff_not]; omega) | (right; right; right; right; exact all_no (k := k2) (by omega) (labB_no2 (j := k3) (by omega) (by unfold rdB; simp only [Bool.and_eq_false_iff, decide_eq_false_iff_not]; omega))) | (right; right; right; right; exact all_no (k := k2) (by omega) (labB_no1 (by omega))) | (right; right; left; exact all_no (k := k1) (by omega) (by unfold smpB; simp only [Bool.and_eq_false_iff, decide_eq_false_iff_not]; omega)) | (right; left; exact all_no (k := k) (by omega) (by unfold lotB; simp only [Bool.and_eq_false_iff, decide_eq_false_iff_not]; omega)))).symm, hS153.ext⟩
        ·skip
         rw [decide_eq_false hb167] at hA166
         refine c_false hA166 rfl ?_
         refine c_skip ?_
         refine blk_n ?_
         refine then_n ?_
         have hA171 := hA166.as [(3, (Value.int .i64 (k : Int))), (1, (bptr b4 0))] rfl; clear hA166
         refine c_region ?_
         refine st hA171 (op_move rfl (hA171.ev rfl)) rfl rfl (by decide) fun a172 hA173 => ?_; clear hA171 a165
         refine st hA173 (op_add rfl (hA173.ev rfl) (evc _ _) (by omega) (by omega)) rfl rfl (by decide) fun a174 hA175 => ?_; clear hA173 a172
         refine st hA175 (op_assign rfl (hA175.ev rfl)) rfl rfl (by decide) fun a176 hA177 => ?_; clear hA175 a174
         refine wl_nil ?_
         exact then_n ⟨k + 1, ⟨hA177.as _ rfl, hS153, by omega, (fun i hi => by rcases Nat.lt_succ_iff_lt_or_eq.1 hi with h | h; exact hlot i h; subst h; unfold lotB; simp only [Bool.and_eq_true, decide_eq_true_eq]; omega)⟩, by omega⟩
       ·skip
        have hq178 := hb143; simp only [Bool.and_eq_true, Bool.and_eq_false_iff, decide_eq_true_eq, decide_eq_false_iff_not] at hq178
        have hA179 := hA141.as [(3, (Value.int .i64 (k : Int))), (1, (bptr b4 0))] rfl; clear hA141
        refine c_drawV mixed hA179 hS129 18 [[], [0], [], [1, 2], [3], [4], [], [6], [], [7, 8], [9], [10], [5, 11], [12], [13], [14], [14, 15], [14]] [(fun (vs180 : Nat → Value) (v_ : Value) (rs_ : List Res) => v_ = (bptr b4 0) ∧ rs_ = []), (fun (vs180 : Nat → Value) (v_ : Value) (rs_ : List Res) => v_ = rl ∧ rs_ = []), (fun (vs180 : Nat → Value) (v_ : Value) (rs_ : List Res) => v_ = (Value.int .i64 (k : Int)) ∧ rs_ = []), (fun (vs180 : Nat → Value) (v_ : Value) (rs_ : List Res) => v_ = (eptr rl (k * 2)) ∧ rs_ = []), (fun (vs180 : Nat → Value) (v_ : Value) (rs_ : List Res) => v_ = (eptr rl (k * 2 + 0)) ∧ rs_ = []), (fun (vs180 : Nat → Value) (v_ : Value) (rs_ : List Res) => v_ = (Value.int .i64 ((d.lots.getD k (0, 0)).1)) ∧ rs_ = []), (fun (vs180 : Nat → Value) (v_ : Value) (rs_ : List Res) => v_ = (bptr b4 0) ∧ rs_ = []), (fun (vs180 : Nat → Value) (v_ : Value) (rs_ : List Res) => v_ = rl ∧ rs_ = []), (fun (vs180 : Nat → Value) (v_ : Value) (rs_ : List Res) => v_ = (Value.int .i64 (k : Int)) ∧ rs_ = []), (fun (vs180 : Nat → Value) (v_ : Value) (rs_ : List Res) => v_ = (eptr rl (k * 2)) ∧ rs_ = []), (fun (vs180 : Nat → Value) (v_ : Value) (rs_ : List Res) => v_ = (eptr rl (k * 2 + 1)) ∧ rs_ = []), (fun (vs180 : Nat → Value) (v_ : Value) (rs_ : List Res) => v_ = (Value.int .i64 ((d.lots.getD k (0, 0)).2)) ∧ rs_ = []), (fun (vs180 : Nat → Value) (v_ : Value) (rs_ : List Res) => v_ = (Value.bool false) ∧ rs_ = []), (fun (vs180 : Nat → Value) (v_ : Value) (rs_ : List Res) => v_ = (Value.bool (!false)) ∧ rs_ = []), (fun (vs180 : Nat → Value) (v_ : Value) (rs_ : List Res) => v_ = (Value.bool (!false)) ∧ rs_ = []), (fun (vs180 : Nat → Value) (v_ : Value) (rs_ : List Res) => v_ = undef ∧ rs_ = []), (fun (vs180 : Nat → Value) (v_ : Value) (rs_ : List Res) => v_ = undef ∧ rs_ = []), (fun (vs180 : Nat → Value) (v_ : Value) (rs_ : List Res) => v_ = undef ∧ rs_ = [])] (by decide +kernel) (by decide +kernel) rfl rfl ⟨(fun _ _ _ _ _ h_ => h_), (fun _ _ _ _ _ h_ => h_), (fun _ _ _ _ _ h_ => h_), (fun _ _ _ _ _ h_ => h_), (fun _ _ _ _ _ h_ => h_), (fun _ _ _ _ _ h_ => h_), (fun _ _ _ _ _ h_ => h_), (fun _ _ _ _ _ h_ => h_), (fun _ _ _ _ _ h_ => h_), (fun _ _ _ _ _ h_ => h_), (fun _ _ _ _ _ h_ => h_), (fun _ _ _ _ _ h_ => h_), (fun _ _ _ _ _ h_ => h_), (fun _ _ _ _ _ h_ => h_), (fun _ _ _ _ _ h_ => h_), (fun _ _ _ _ _ h_ => h_), (fun _ _ _ _ _ h_ => h_), (fun _ _ _ _ _ h_ => h_), trivial⟩ ?_ ?_
        ·skip
         refine ⟨fun a w vs180 hA hS hd => ?_, ?_⟩
         ·skip
          exact opG_of rfl (vv (op_field rfl fd_26_0 (hA.ev rfl)) (And.intro rfl rfl))
         refine ⟨fun a w vs180 hA hS hd => ?_, ?_⟩
         ·skip
          obtain ⟨e0, rs0, hy0, hp0⟩ := hd 0 (by decide)
          obtain ⟨hv0, hr0⟩ := hy0; subst hr0
          rw [hv0] at e0
          exact opG_of rfl (vv (op_load1 rfl ty_22 (tmp_ev (slot_ev e0 rfl)) (hS.bk 0 rfl) rfl) (And.intro rfl rfl))
         refine ⟨fun a w vs180 hA hS hd => ?_, ?_⟩
         ·skip
          exact opG_of rfl (vv (op_move rfl (hA.ev rfl)) (And.intro rfl rfl))
         refine ⟨fun a w vs180 hA hS hd => ?_, ?_⟩
         ·skip
          obtain ⟨e1, rs1, hy1, hp1⟩ := hd 1 (by decide)
          obtain ⟨hv1, hr1⟩ := hy1; subst hr1
          rw [hv1] at e1
          obtain ⟨e2, rs2, hy2, hp2⟩ := hd 2 (by decide)
          obtain ⟨hv2, hr2⟩ := hy2; subst hr2
          rw [hv2] at e2
          exact opG_of rfl (vv (op_indexS rfl un_22 ty_44 (tmp_ev (slot_ev e1 rfl)) (i := k) (tmp_ev (slot_ev e2 rfl)) (rnd_at (hS.ok 1 _ rfl)).lots (by decide) (by omega)) (And.intro rfl rfl))
         refine ⟨fun a w vs180 hA hS hd => ?_, ?_⟩
         ·skip
          obtain ⟨e3, rs3, hy3, hp3⟩ := hd 3 (by decide)
          obtain ⟨hv3, hr3⟩ := hy3; subst hr3
          rw [hv3] at e3
          exact opG_of rfl (vv (op_fieldS rfl fd_44_0 (tmp_ev (slot_ev e3 rfl)) (rnd_at (hS.ok 1 _ rfl)).lots (by rw [((rnd_at (hS.ok 1 _ rfl)).lots).1]; omega)) (And.intro rfl rfl))
         refine ⟨fun a w vs180 hA hS hd => ?_, ?_⟩
         ·skip
          obtain ⟨e4, rs4, hy4, hp4⟩ := hd 4 (by decide)
          obtain ⟨hv4, hr4⟩ := hy4; subst hr4
          rw [hv4] at e4
          exact opG_of rfl (vv (op_load1E rfl ty_3 (tmp_ev (slot_ev e4 rfl)) (rnd_at (hS.ok 1 _ rfl)).lots (pairs_at0 (by omega))) (And.intro rfl rfl))
         refine ⟨fun a w vs180 hA hS hd => ?_, ?_⟩
         ·skip
          exact opG_of rfl (vv (op_field rfl fd_26_0 (hA.ev rfl)) (And.intro rfl rfl))
         refine ⟨fun a w vs180 hA hS hd => ?_, ?_⟩
         ·skip
          obtain ⟨e6, rs6, hy6, hp6⟩ := hd 6 (by decide)
          obtain ⟨hv6, hr6⟩ := hy6; subst hr6
          rw [hv6] at e6
          exact opG_of rfl (vv (op_load1 rfl ty_22 (tmp_ev (slot_ev e6 rfl)) (hS.bk 0 rfl) rfl) (And.intro rfl rfl))
         refine ⟨fun a w vs180 hA hS hd => ?_, ?_⟩
         ·skip
          exact opG_of rfl (vv (op_move rfl (hA.ev rfl)) (And.intro rfl rfl))
         refine ⟨fun a w vs180 hA hS hd => ?_, ?_⟩
         ·skip
          obtain ⟨e7, rs7, hy7, hp7⟩ := hd 7 (by decide)
          obtain ⟨hv7, hr7⟩ := hy7; subst hr7
          rw [hv7] at e7
          obtain ⟨e8, rs8, hy8, hp8⟩ := hd 8 (by decide)
          obtain ⟨hv8, hr8⟩ := hy8; subst hr8
          rw [hv8] at e8
          exact opG_of rfl (vv (op_indexS rfl un_22 ty_44 (tmp_ev (slot_ev e7 rfl)) (i := k) (tmp_ev (slot_ev e8 rfl)) (rnd_at (hS.ok 1 _ rfl)).lots (by decide) (by omega)) (And.intro rfl rfl))
         refine ⟨fun a w vs180 hA hS hd => ?_, ?_⟩
         ·skip
          obtain ⟨e9, rs9, hy9, hp9⟩ := hd 9 (by decide)
          obtain ⟨hv9, hr9⟩ := hy9; subst hr9
          rw [hv9] at e9
          exact opG_of rfl (vv (op_fieldS rfl fd_44_1 (tmp_ev (slot_ev e9 rfl)) (rnd_at (hS.ok 1 _ rfl)).lots (by rw [((rnd_at (hS.ok 1 _ rfl)).lots).1]; omega)) (And.intro rfl rfl))
         refine ⟨fun a w vs180 hA hS hd => ?_, ?_⟩
         ·skip
          obtain ⟨e10, rs10, hy10, hp10⟩ := hd 10 (by decide)
          obtain ⟨hv10, hr10⟩ := hy10; subst hr10
          rw [hv10] at e10
          exact opG_of rfl (vv (op_load1E rfl ty_3 (tmp_ev (slot_ev e10 rfl)) (rnd_at (hS.ok 1 _ rfl)).lots (pairs_at1 (by omega))) (And.intro rfl rfl))
         refine ⟨fun a w vs180 hA hS hd => ?_, ?_⟩
         ·skip
          obtain ⟨e5, rs5, hy5, hp5⟩ := hd 5 (by decide)
          obtain ⟨hv5, hr5⟩ := hy5; subst hr5
          rw [hv5] at e5
          obtain ⟨e11, rs11, hy11, hp11⟩ := hd 11 (by decide)
          obtain ⟨hv11, hr11⟩ := hy11; subst hr11
          rw [hv11] at e11
          exact opG_of rfl (vv (op_call rfl en_33 (ev3 (tmp_ev (slot_ev e5 rfl)) (evc _ _) (tmp_ev (slot_ev e11 rfl))) (In_ok _ _ _ _)) (And.intro (by show Value.bool _ = _; simp only [hb143, decide_true, decide_false, Bool.not_true, Bool.not_false]) rfl))
         refine ⟨fun a w vs180 hA hS hd => ?_, ?_⟩
         ·skip
          obtain ⟨e12, rs12, hy12, hp12⟩ := hd 12 (by decide)
          obtain ⟨hv12, hr12⟩ := hy12; subst hr12
          rw [hv12] at e12
          exact opG_of rfl (vv (op_not rfl (tmp_ev (slot_ev e12 rfl))) (And.intro rfl rfl))
         refine ⟨fun a w vs180 hA hS hd => ?_, ?_⟩
         ·skip
          obtain ⟨e13, rs13, hy13, hp13⟩ := hd 13 (by decide)
          obtain ⟨hv13, hr13⟩ := hy13; subst hr13
          rw [hv13] at e13
          exact opG_of rfl (vv (op_move rfl (tmp_ev (slot_ev e13 rfl))) (And.intro rfl rfl))
         refine ⟨fun a w vs180 hA hS hd => ?_, ?_⟩
         ·skip
          obtain ⟨e14, rs14, hy14, hp14⟩ := hd 14 (by decide)
          obtain ⟨hv14, hr14⟩ := hy14; subst hr14
          rw [hv14] at e14
          exact opG_no rfl rfl (slot_ev e14 rfl) rfl (vskip (And.intro rfl rfl))
         refine ⟨fun a w vs180 hA hS hd => ?_, ?_⟩
         ·skip
          obtain ⟨e14, rs14, hy14, hp14⟩ := hd 14 (by decide)
          obtain ⟨hv14, hr14⟩ := hy14; subst hr14
          rw [hv14] at e14
          obtain ⟨e15, rs15, hy15, hp15⟩ := hd 15 (by decide)
          obtain ⟨hv15, hr15⟩ := hy15; subst hr15
          rw [hv15] at e15
          exact opG_no rfl rfl (slot_ev e14 rfl) rfl (vskip (And.intro rfl rfl))
         refine ⟨fun a w vs180 hA hS hd => ?_, ?_⟩
         ·skip
          obtain ⟨e14, rs14, hy14, hp14⟩ := hd 14 (by decide)
          obtain ⟨hv14, hr14⟩ := hy14; subst hr14
          rw [hv14] at e14
          exact opG_no rfl rfl (slot_ev e14 rfl) rfl (vskip (And.intro rfl rfl))
         trivial
        intro a181 w182 vs180 rsf186 hA183 hH185 hS184; clear hA179 hS129
        obtain ⟨hs_0, hy_0⟩ := hH185 0 (by decide)
        obtain ⟨hv_0, hr_0⟩ := hy_0
        obtain ⟨hs_1, hy_1⟩ := hH185 1 (by decide)
        obtain ⟨hv_1, hr_1⟩ := hy_1
        obtain ⟨hs_2, hy_2⟩ := hH185 2 (by decide)
        obtain ⟨hv_2, hr_2⟩ := hy_2
        obtain ⟨hs_3, hy_3⟩ := hH185 3 (by decide)
        obtain ⟨hv_3, hr_3⟩ := hy_3
        obtain ⟨hs_4, hy_4⟩ := hH185 4 (by decide)
        obtain ⟨hv_4, hr_4⟩ := hy_4
        obtain ⟨hs_5, hy_5⟩ := hH185 5 (by decide)
        obtain ⟨hv_5, hr_5⟩ := hy_5
        obtain ⟨hs_6, hy_6⟩ := hH185 6 (by decide)
        obtain ⟨hv_6, hr_6⟩ := hy_6
        obtain ⟨hs_7, hy_7⟩ := hH185 7 (by decide)
        obtain ⟨hv_7, hr_7⟩ := hy_7
        obtain ⟨hs_8, hy_8⟩ := hH185 8 (by decide)
        obtain ⟨hv_8, hr_8⟩ := hy_8
        obtain ⟨hs_9, hy_9⟩ := hH185 9 (by decide)
        obtain ⟨hv_9, hr_9⟩ := hy_9
        obtain ⟨hs_10, hy_10⟩ := hH185 10 (by decide)
        obtain ⟨hv_10, hr_10⟩ := hy_10
        obtain ⟨hs_11, hy_11⟩ := hH185 11 (by decide)
        obtain ⟨hv_11, hr_11⟩ := hy_11
        obtain ⟨hs_12, hy_12⟩ := hH185 12 (by decide)
        obtain ⟨hv_12, hr_12⟩ := hy_12
        obtain ⟨hs_13, hy_13⟩ := hH185 13 (by decide)
        obtain ⟨hv_13, hr_13⟩ := hy_13
        obtain ⟨hs_14, hy_14⟩ := hH185 14 (by decide)
        obtain ⟨hv_14, hr_14⟩ := hy_14
        obtain ⟨hs_15, hy_15⟩ := hH185 15 (by decide)
        obtain ⟨hv_15, hr_15⟩ := hy_15
        obtain ⟨hs_16, hy_16⟩ := hH185 16 (by decide)
        obtain ⟨hv_16, hr_16⟩ := hy_16
        obtain ⟨hs_17, hy_17⟩ := hH185 17 (by decide)
        obtain ⟨hv_17, hr_17⟩ := hy_17
        have hS187 : Sep NoB w w182 [(blk b4 26 [rl, rs, (Value.int .i64 d.spread), rb]), (rndR false rl rs rb rlv d)] := by rw [show catR rsf186 0 18 = ([] : List Res) by (try simp only [catR, hr_0, hr_1, hr_2, hr_3, hr_4, hr_5, hr_6, hr_7, hr_8, hr_9, hr_10, hr_11, hr_12, hr_13, hr_14, hr_15, hr_16, hr_17]); (try rfl)] at hS184; exact hS184
        rw [hv_14] at hs_14
        have hA188 : Fr 121 [] [(55, (Value.bool (!false))), (3, (Value.int .i64 (k : Int))), (1, (bptr b4 0))] a181 := hA183.add (slot_ev hs_14 rfl); clear hA183
        rw [hv_16] at hs_16
        have hA189 : Fr 121 [] [(57, undef), (55, (Value.bool (!false))), (3, (Value.int .i64 (k : Int))), (1, (bptr b4 0))] a181 := hA188.add (slot_ev hs_16 rfl); clear hA188
        rw [hv_17] at hs_17
        have hA190 : Fr 121 [] [(58, undef), (57, undef), (55, (Value.bool (!false))), (3, (Value.int .i64 (k : Int))), (1, (bptr b4 0))] a181 := hA189.add (slot_ev hs_17 rfl); clear hA189
        clear hH185 hS184 hs_0 hs_1 hs_2 hs_3 hs_4 hs_5 hs_6 hs_7 hs_8 hs_9 hs_10 hs_11 hs_12 hs_13 hs_14 hs_15 hs_16 hs_17
        clear hr_0
        clear hv_0
        clear hr_1
        clear hv_1
        clear hr_2
        clear hv_2
        clear hr_3
        clear hv_3
        clear hr_4
        clear hv_4
        clear hr_5
        clear hv_5
        clear hr_6
        clear hv_6
        clear hr_7
        clear hv_7
        clear hr_8
        clear hv_8
        clear hr_9
        clear hv_9
        clear hr_10
        clear hv_10
        clear hr_11
        clear hv_11
        clear hr_12
        clear hv_12
        clear hr_13
        clear hv_13
        clear hr_14
        clear hv_14
        clear hr_15
        clear hv_15
        clear hr_16
        clear hv_16
        clear hr_17
        clear hv_17
        refine skp hA190 rfl rfl rfl rfl rfl (by decide) fun a191 hA192 => ?_; clear hA190 a181
        refine skp hA192 rfl rfl rfl rfl rfl (by decide) fun a193 hA194 => ?_; clear hA192 a191
        refine skp hA194 rfl rfl rfl rfl rfl (by decide) fun a195 hA196 => ?_; clear hA194 a193
        refine skp hA196 rfl rfl rfl rfl rfl (by decide) fun a197 hA198 => ?_; clear hA196 a195
        refine st hA198 (op_pick_t rfl (hA198.ev rfl) (evc _ _)) rfl rfl (by decide) fun a199 hA200 => ?_; clear hA198 a197
        refine wl_nil ?_
        refine then_n ?_
        refine c_true hA200 rfl ?_
        refine c_seq ?_
        have hA201 := hA200.as [] rfl; clear hA200
        refine c_region ?_
        refine st hA201 (op_assign rfl (evc _ _)) rfl rfl (by decide) fun a202 hA203 => ?_; clear hA201 a199
        refine wl_nil ?_
        refine then_n ?_
        refine c_ret ?_
        refine blk_ret ?_
        refine then_ret ?_
        refine then_ret ?_
        refine blk_ret ?_
        refine then_ret ?_
        refine fin_run hA203 (.inl rfl) (run_results1 hA203 rfl (.tmp rfl)) ?_
        exact ⟨ret_int (checkR_1 (by omega) (by first | (left; omega) | (right; right; right; left; unfold tolB; simp only [Bool.and_eq_false_iff, decide_eq_false_iff_not]; omega) | (right; right; right; right; exact all_no (k := k2) (by omega) (labB_no2 (j := k3) (by omega) (by unfold rdB; simp only [Bool.and_eq_false_iff, decide_eq_false_iff_not]; omega))) | (right; right; right; right; exact all_no (k := k2) (by omega) (labB_no1 (by omega))) | (right; right; left; exact all_no (k := k1) (by omega) (by unfold smpB; simp only [Bool.and_eq_false_iff, decide_eq_false_iff_not]; omega)) | (right; left; exact all_no (k := k) (by omega) (by unfold lotB; simp only [Bool.and_eq_false_iff, decide_eq_false_iff_not]; omega)))).symm, hS187.ext⟩
      ·skip
       rw [decide_eq_false hb140] at hA139
       refine c_false hA139 rfl ?_
       refine c_exit ?_
       refine then_exit ?_
       refine then_exit ?_
       refine blk_hit ?_
       refine then_n ?_
       refine c_seq ?_
       refine c_seq ?_
       have hA204 := hA139.as [(1, (bptr b4 0))] rfl; clear hA139
       refine c_region ?_
       refine st hA204 (op_assign rfl (evc _ _)) rfl rfl (by decide) fun a205 hA206 => ?_; clear hA204 a138
       refine wl_nil ?_
       refine then_n ?_
       refine c_block ?_
       have hA207 := hA206.as [(4, (Value.int .i64 0)), (1, (bptr b4 0))] rfl; clear hA206
       refine c_loop (G := Nat) (fun (k1 : Nat) a_ w_ => Fr 121 [] [(4, (Value.int .i64 (k1 : Int))), (1, (bptr b4 0))] a_ ∧ Sep NoB w w_ [(blk b4 26 [rl, rs, (Value.int .i64 d.spread), rb]), (rndR false rl rs rb rlv d)] ∧ (k1 ≤ d.samples.length) ∧ (∀ i, i < k1 → smpB d.lots.length (d.samples.getD i 0) = true)) (fun k1 => d.samples.length - k1) 0 ⟨hA207.as _ rfl, hS129, by omega, (fun _ h => absurd h (Nat.not_lt_zero _))⟩ ?_
       clear hA207 hS129 a205
       rintro k1 a208 w210 ⟨hA209, hS211, hkk1, hsmp⟩
       refine c_seq ?_
       refine c_seq ?_
       refine c_region ?_
       refine st hA209 (op_move rfl (hA209.ev rfl)) rfl rfl (by decide) fun a212 hA213 => ?_; clear hA209 a208
       refine st hA213 (op_field rfl fd_26_1 (hA213.ev rfl)) rfl rfl (by decide) fun a214 hA215 => ?_; clear hA213 a212
       refine st hA215 (op_load1 rfl ty_23 (hA215.ev rfl) (hS211.bk 0 rfl) rfl) rfl rfl (by decide) fun a216 hA217 => ?_; clear hA215 a214
       refine st hA217 (op_lenS rfl un_23 (hA217.ev rfl) (rnd_at (hS211.ok 1 _ rfl)).samples) rfl rfl (by decide) fun a218 hA219 => ?_; clear hA217 a216
       refine st hA219 (op_lss rfl (hA219.ev rfl) (hA219.ev rfl)) rfl rfl (by decide) fun a220 hA221 => ?_; clear hA219 a218
       refine wl_nil ?_
       refine then_n ?_
       by_cases hb222 : (k1 : Int) < (d.samples.length : Int)
       ·skip
        rw [decide_eq_true hb222] at hA221
        refine c_true hA221 rfl ?_
        refine c_skip ?_
        refine then_n ?_
        refine c_seq ?_
        refine c_block ?_
        refine c_seq ?_
        have hA223 := hA221.as [(4, (Value.int .i64 (k1 : Int))), (1, (bptr b4 0))] rfl; clear hA221
        refine c_drawV mixed hA223 hS211 9 [[], [0], [], [1, 2], [3], [], [5], [6], [7]] [(fun (vs224 : Nat → Value) (v_ : Value) (rs_ : List Res) => v_ = (bptr b4 1) ∧ rs_ = []), (fun (vs224 : Nat → Value) (v_ : Value) (rs_ : List Res) => v_ = rs ∧ rs_ = []), (fun (vs224 : Nat → Value) (v_ : Value) (rs_ : List Res) => v_ = (Value.int .i64 (k1 : Int)) ∧ rs_ = []), (fun (vs224 : Nat → Value) (v_ : Value) (rs_ : List Res) => v_ = (eptr rs (k1 * 1)) ∧ rs_ = []), (fun (vs224 : Nat → Value) (v_ : Value) (rs_ : List Res) => v_ = (Value.int .i64 (d.samples.getD k1 0)) ∧ rs_ = []), (fun (vs224 : Nat → Value) (v_ : Value) (rs_ : List Res) => v_ = (bptr b4 0) ∧ rs_ = []), (fun (vs224 : Nat → Value) (v_ : Value) (rs_ : List Res) => v_ = rl ∧ rs_ = []), (fun (vs224 : Nat → Value) (v_ : Value) (rs_ : List Res) => v_ = (Value.int .i64 (d.lots.length : Int)) ∧ rs_ = []), (fun (vs224 : Nat → Value) (v_ : Value) (rs_ : List Res) => v_ = (Value.int .i64 ((d.lots.length : Int) - 1)) ∧ rs_ = [])] (by decide +kernel) (by decide +kernel) rfl rfl ⟨(fun _ _ _ _ _ h_ => h_), (fun _ _ _ _ _ h_ => h_), (fun _ _ _ _ _ h_ => h_), (fun _ _ _ _ _ h_ => h_), (fun _ _ _ _ _ h_ => h_), (fun _ _ _ _ _ h_ => h_), (fun _ _ _ _ _ h_ => h_), (fun _ _ _ _ _ h_ => h_), (fun _ _ _ _ _ h_ => h_), trivial⟩ ?_ ?_
        ·skip
         refine ⟨fun a w vs224 hA hS hd => ?_, ?_⟩
         ·skip
          exact opG_of rfl (vv (op_field rfl fd_26_1 (hA.ev rfl)) (And.intro rfl rfl))
         refine ⟨fun a w vs224 hA hS hd => ?_, ?_⟩
         ·skip
          obtain ⟨e0, rs0, hy0, hp0⟩ := hd 0 (by decide)
          obtain ⟨hv0, hr0⟩ := hy0; subst hr0
          rw [hv0] at e0
          exact opG_of rfl (vv (op_load1 rfl ty_23 (tmp_ev (slot_ev e0 rfl)) (hS.bk 0 rfl) rfl) (And.intro rfl rfl))
         refine ⟨fun a w vs224 hA hS hd => ?_, ?_⟩
         ·skip
          exact opG_of rfl (vv (op_move rfl (hA.ev rfl)) (And.intro rfl rfl))
         refine ⟨fun a w vs224 hA hS hd => ?_, ?_⟩
         ·skip
          obtain ⟨e1, rs1, hy1, hp1⟩ := hd 1 (by decide)
          obtain ⟨hv1, hr1⟩ := hy1; subst hr1
          rw [hv1] at e1
          obtain ⟨e2, rs2, hy2, hp2⟩ := hd 2 (by decide)
          obtain ⟨hv2, hr2⟩ := hy2; subst hr2
          rw [hv2] at e2
          exact opG_of rfl (vv (op_indexS rfl un_23 ty_3 (tmp_ev (slot_ev e1 rfl)) (i := k1) (tmp_ev (slot_ev e2 rfl)) (rnd_at (hS.ok 1 _ rfl)).samples (by decide) (by omega)) (And.intro rfl rfl))
         refine ⟨fun a w vs224 hA hS hd => ?_, ?_⟩
         ·skip
          obtain ⟨e3, rs3, hy3, hp3⟩ := hd 3 (by decide)
          obtain ⟨hv3, hr3⟩ := hy3; subst hr3
          rw [hv3] at e3
          exact opG_of rfl (vv (op_load1E rfl ty_3 (tmp_ev (slot_ev e3 rfl)) (rnd_at (hS.ok 1 _ rfl)).samples (ints_at (by omega))) (And.intro rfl rfl))
         refine ⟨fun a w vs224 hA hS hd => ?_, ?_⟩
         ·skip
          exact opG_of rfl (vv (op_field rfl fd_26_0 (hA.ev rfl)) (And.intro rfl rfl))
         refine ⟨fun a w vs224 hA hS hd => ?_, ?_⟩
         ·skip
          obtain ⟨e5, rs5, hy5, hp5⟩ := hd 5 (by decide)
          obtain ⟨hv5, hr5⟩ := hy5; subst hr5
          rw [hv5] at e5
          exact opG_of rfl (vv (op_load1 rfl ty_22 (tmp_ev (slot_ev e5 rfl)) (hS.bk 0 rfl) rfl) (And.intro rfl rfl))
         refine ⟨fun a w vs224 hA hS hd => ?_, ?_⟩
         ·skip
          obtain ⟨e6, rs6, hy6, hp6⟩ := hd 6 (by decide)
          obtain ⟨hv6, hr6⟩ := hy6; subst hr6
          rw [hv6] at e6
          exact opG_of rfl (vv (op_lenS rfl un_22 (tmp_ev (slot_ev e6 rfl)) (rnd_at (hS.ok 1 _ rfl)).lots) (And.intro rfl rfl))
         refine ⟨fun a w vs224 hA hS hd => ?_, ?_⟩
         ·skip
          obtain ⟨e7, rs7, hy7, hp7⟩ := hd 7 (by decide)
          obtain ⟨hv7, hr7⟩ := hy7; subst hr7
          rw [hv7] at e7
          exact opG_of rfl (vv (op_sub rfl (tmp_ev (slot_ev e7 rfl)) (evc _ _) (by omega) (by omega)) (And.intro rfl rfl))
         trivial
        intro a225 w226 vs224 rsf230 hA227 hH229 hS228; clear hA223 hS211
        obtain ⟨hs_0, hy_0⟩ := hH229 0 (by decide)
        obtain ⟨hv_0, hr_0⟩ := hy_0
        obtain ⟨hs_1, hy_1⟩ := hH229 1 (by decide)
        obtain ⟨hv_1, hr_1⟩ := hy_1
        obtain ⟨hs_2, hy_2⟩ := hH229 2 (by decide)
        obtain ⟨hv_2, hr_2⟩ := hy_2
        obtain ⟨hs_3, hy_3⟩ := hH229 3 (by decide)
        obtain ⟨hv_3, hr_3⟩ := hy_3
        obtain ⟨hs_4, hy_4⟩ := hH229 4 (by decide)
        obtain ⟨hv_4, hr_4⟩ := hy_4
        obtain ⟨hs_5, hy_5⟩ := hH229 5 (by decide)
        obtain ⟨hv_5, hr_5⟩ := hy_5
        obtain ⟨hs_6, hy_6⟩ := hH229 6 (by decide)
        obtain ⟨hv_6, hr_6⟩ := hy_6
        obtain ⟨hs_7, hy_7⟩ := hH229 7 (by decide)
        obtain ⟨hv_7, hr_7⟩ := hy_7
        obtain ⟨hs_8, hy_8⟩ := hH229 8 (by decide)
        obtain ⟨hv_8, hr_8⟩ := hy_8
        have hS231 : Sep NoB w w226 [(blk b4 26 [rl, rs, (Value.int .i64 d.spread), rb]), (rndR false rl rs rb rlv d)] := by rw [show catR rsf230 0 9 = ([] : List Res) by (try simp only [catR, hr_0, hr_1, hr_2, hr_3, hr_4, hr_5, hr_6, hr_7, hr_8]); (try rfl)] at hS228; exact hS228
        rw [hv_4] at hs_4
        have hA232 : Fr 121 [] [(75, (Value.int .i64 (d.samples.getD k1 0))), (4, (Value.int .i64 (k1 : Int))), (1, (bptr b4 0))] a225 := hA227.add (slot_ev hs_4 rfl); clear hA227
        rw [hv_8] at hs_8
        have hA233 : Fr 121 [] [(79, (Value.int .i64 ((d.lots.length : Int) - 1))), (75, (Value.int .i64 (d.samples.getD k1 0))), (4, (Value.int .i64 (k1 : Int))), (1, (bptr b4 0))] a225 := hA232.add (slot_ev hs_8 rfl); clear hA232
        clear hH229 hS228 hs_0 hs_1 hs_2 hs_3 hs_4 hs_5 hs_6 hs_7 hs_8
        clear hr_0
        clear hv_0
        clear hr_1
        clear hv_1
        clear hr_2
        clear hv_2
        clear hr_3
        clear hv_3
        clear hr_4
        clear hv_4
        clear hr_5
        clear hv_5
        clear hr_6
        clear hv_6
        clear hr_7
        clear hv_7
        clear hr_8
        clear hv_8
        refine stw hA233 (op_call rfl en_33 (ev3 (hA233.ev rfl) (evc _ _) (hA233.ev rfl)) (In_ok _ _ _ _)) rfl rfl (by decide) ?_
        rintro a234 _ _ ⟨rfl, rfl⟩ hA235; clear hA233 a225
        refine st hA235 (op_not rfl (hA235.ev rfl)) rfl rfl (by decide) fun a237 hA238 => ?_; clear hA235 a234
        refine wl_nil ?_
        refine then_n ?_
        rcases Bool.eq_false_or_eq_true ((decide (0 ≤ (d.samples.getD k1 0)) && decide ((d.samples.getD k1 0) ≤ ((d.lots.length : Int) - 1)))) with hb239 | hb239
        ·skip
         rw [hb239] at hA238
         have hq240 := hb239; simp only [Bool.and_eq_true, Bool.and_eq_false_iff, decide_eq_true_eq, decide_eq_false_iff_not] at hq240
         refine c_false hA238 rfl ?_
         refine c_skip ?_
         refine blk_n ?_
         refine then_n ?_
         refine c_region ?_
         refine st hA238 (op_move rfl (hA238.ev rfl)) rfl rfl (by decide) fun a241 hA242 => ?_; clear hA238 a237
         refine st hA242 (op_add rfl (hA242.ev rfl) (evc _ _) (by omega) (by omega)) rfl rfl (by decide) fun a243 hA244 => ?_; clear hA242 a241
         refine st hA244 (op_assign rfl (hA244.ev rfl)) rfl rfl (by decide) fun a245 hA246 => ?_; clear hA244 a243
         refine wl_nil ?_
         exact then_n ⟨k1 + 1, ⟨hA246.as _ rfl, hS231, by omega, (fun i hi => by rcases Nat.lt_succ_iff_lt_or_eq.1 hi with h | h; exact hsmp i h; subst h; unfold smpB; simp only [Bool.and_eq_true, decide_eq_true_eq]; omega)⟩, by omega⟩
        ·skip
         rw [hb239] at hA238
         have hq247 := hb239; simp only [Bool.and_eq_true, Bool.and_eq_false_iff, decide_eq_true_eq, decide_eq_false_iff_not] at hq247
         refine c_true hA238 rfl ?_
         refine c_seq ?_
         have hA248 := hA238.as [] rfl; clear hA238
         refine c_region ?_
         refine st hA248 (op_assign rfl (evc _ _)) rfl rfl (by decide) fun a249 hA250 => ?_; clear hA248 a237
         refine wl_nil ?_
         refine then_n ?_
         refine c_ret ?_
         refine blk_ret ?_
         refine then_ret ?_
         refine then_ret ?_
         refine blk_ret ?_
         refine then_ret ?_
         refine fin_run hA250 (.inl rfl) (run_results1 hA250 rfl (.tmp rfl)) ?_
         exact ⟨ret_int (checkR_1 (by omega) (by first | (left; omega) | (right; right; right; left; unfold tolB; simp only [Bool.and_eq_false_iff, decide_eq_false_iff_not]; omega) | (right; right; right; right; exact all_no (k := k2) (by omega) (labB_no2 (j := k3) (by omega) (by unfold rdB; simp only [Bool.and_eq_false_iff, decide_eq_false_iff_not]; omega))) | (right; right; right; right; exact all_no (k := k2) (by omega) (labB_no1 (by omega))) | (right; right; left; exact all_no (k := k1) (by omega) (by unfold smpB; simp only [Bool.and_eq_false_iff, decide_eq_false_iff_not]; omega)) | (right; left; exact all_no (k := k) (by omega) (by unfold lotB; simp only [Bool.and_eq_false_iff, decide_eq_false_iff_not]; omega)))).symm, hS231.ext⟩
       ·skip
        rw [decide_eq_false hb222] at hA221
        refine c_false hA221 rfl ?_
        refine c_exit ?_
        refine then_exit ?_
        refine then_exit ?_
        refine blk_hit ?_
        refine then_n ?_
        refine c_seq ?_
        refine c_seq ?_
        have hA251 := hA221.as [(1, (bptr b4 0))] rfl; clear hA221
        refine c_region ?_
        refine st hA251 (op_assign rfl (evc _ _)) rfl rfl (by decide) fun a252 hA253 => ?_; clear hA251 a220
        refine wl_nil ?_
        refine then_n ?_
        refine c_block ?_
        have hA254 := hA253.as [(5, (Value.int .i64 0)), (1, (bptr b4 0))] rfl; clear hA253
        refine c_loop (G := Nat) (fun (k2 : Nat) a_ w_ => Fr 121 [] [(5, (Value.int .i64 (k2 : Int))), (1, (bptr b4 0))] a_ ∧ Sep NoB w w_ [(blk b4 26 [rl, rs, (Value.int .i64 d.spread), rb]), (rndR false rl rs rb rlv d)] ∧ (k2 ≤ d.tols.length) ∧ (∀ i, i < k2 → labB d.samples.length (d.tols.getD i 0) (d.rds.getD i []) = true)) (fun k2 => d.tols.length - k2) 0 ⟨hA254.as _ rfl, hS211, by omega, (fun _ h => absurd h (Nat.not_lt_zero _))⟩ ?_
        clear hA254 hS211 a252
        rintro k2 a255 w257 ⟨hA256, hS258, hkk2, hlab⟩
        refine c_seq ?_
        refine c_seq ?_
        refine c_region ?_
        refine st hA256 (op_move rfl (hA256.ev rfl)) rfl rfl (by decide) fun a259 hA260 => ?_; clear hA256 a255
        refine st hA260 (op_field rfl fd_26_3 (hA260.ev rfl)) rfl rfl (by decide) fun a261 hA262 => ?_; clear hA260 a259
        refine st hA262 (op_load1 rfl ty_24 (hA262.ev rfl) (hS258.bk 0 rfl) rfl) rfl rfl (by decide) fun a263 hA264 => ?_; clear hA262 a261
        refine st hA264 (op_lenS rfl un_24 (hA264.ev rfl) (rnd_at (hS258.ok 1 _ rfl)).labs) rfl rfl (by decide) fun a265 hA266 => ?_; clear hA264 a263
        refine st hA266 (op_lss rfl (hA266.ev rfl) (hA266.ev rfl)) rfl rfl (by decide) fun a267 hA268 => ?_; clear hA266 a265
        refine wl_nil ?_
        refine then_n ?_
        by_cases hb269 : (k2 : Int) < (d.tols.length : Int)
        ·skip
         rw [decide_eq_true hb269] at hA268
         refine c_true hA268 rfl ?_
         refine c_skip ?_
         refine then_n ?_
         refine c_seq ?_
         refine c_block ?_
         refine c_seq ?_
         refine c_region ?_
         refine st hA268 (op_field rfl fd_26_3 (hA268.ev rfl)) rfl rfl (by decide) fun a270 hA271 => ?_; clear hA268 a267
         refine st hA271 (op_load1 rfl ty_24 (hA271.ev rfl) (hS258.bk 0 rfl) rfl) rfl rfl (by decide) fun a272 hA273 => ?_; clear hA271 a270
         refine st hA273 (op_move rfl (hA273.ev rfl)) rfl rfl (by decide) fun a274 hA275 => ?_; clear hA273 a272
         refine st hA275 (op_indexS rfl un_24 ty_62 (hA275.ev rfl) (i := k2) (hA275.ev rfl) (rnd_at (hS258.ok 1 _ rfl)).labs (by decide) (by omega)) rfl rfl (by decide) fun a276 hA277 => ?_; clear hA275 a274
         refine st hA277 (op_loadAE rfl ty_62 (hA277.ev rfl) (rnd_at (hS258.ok 1 _ rfl)).labs (labs_all (rnd_at (hS258.ok 1 _ rfl)).lvl (by omega)) rfl (by decide)) rfl rfl (by decide) fun a278 hA279 => ?_; clear hA277 a276
         refine stw hA279 (op_alloc hS258 rfl ze_62 (cs := [(Value.int .i64 0), (Value.slice none 0 0)]) rfl) rfl rfl (by decide) ?_
         rintro a280 _ w282 ⟨b283, rfl, hS284⟩ hA281; clear hA279 hS258 a278
         refine sts hA281 (op_store hS284 rfl ty_62 (hA281.ev rfl) (hA281.ev rfl) (i := 0) rfl (vs := [(Value.int .i64 (d.tols.getD k2 0)), (rlv.getD k2 nilS)]) rfl rfl (all_c rfl (all_c (SlAt.one ((rnd_at (hS284.ok 2 _ rfl)).rds k2 (by rw [(rnd_at (hS284.ok 2 _ rfl)).rdl]; omega))) all_n)) (Nat.le_of_ble_eq_true rfl)) rfl rfl ?_
         intro _ w285 hS286 hA287; clear hA281
         have hS288 : Sep NoB w w285 [(blk b283 62 [(Value.int .i64 (d.tols.getD k2 0)), (rlv.getD k2 nilS)]), (blk b4 26 [rl, rs, (Value.int .i64 d.spread), rb]), (rndR false rl rs rb rlv d)] := hS286; clear hS286 hS284
         refine wl_nil ?_
         refine then_n ?_
         refine c_seq ?_
         refine c_seq ?_
         have hA289 := hA287.as [(6, (bptr b283 0)), (5, (Value.int .i64 (k2 : Int))), (1, (bptr b4 0))] rfl; clear hA287
         refine c_region ?_
         refine st hA289 (op_field rfl fd_62_0 (hA289.ev rfl)) rfl rfl (by decide) fun a290 hA291 => ?_; clear hA289 a280
         refine st hA291 (op_load1 rfl ty_3 (hA291.ev rfl) (hS288.bk 0 rfl) rfl) rfl rfl (by decide) fun a292 hA293 => ?_; clear hA291 a290
         refine stw hA293 (op_call rfl en_33 (ev3 (hA293.ev rfl) (evc _ _) (evc _ _)) (In_ok _ _ _ _)) rfl rfl (by decide) ?_
         rintro a294 _ _ ⟨rfl, rfl⟩ hA295; clear hA293 a292
         refine st hA295 (op_not rfl (hA295.ev rfl)) rfl rfl (by decide) fun a297 hA298 => ?_; clear hA295 a294
         refine st hA298 (op_move rfl (hA298.ev rfl)) rfl rfl (by decide) fun a299 hA300 => ?_; clear hA298 a297
         rcases Bool.eq_false_or_eq_true ((decide (0 ≤ (d.tols.getD k2 0)) && decide ((d.tols.getD k2 0) ≤ 100))) with hb301 | hb301
         ·skip
          rw [hb301] at hA300
          have hq302 := hb301; simp only [Bool.and_eq_true, Bool.and_eq_false_iff, decide_eq_true_eq, decide_eq_false_iff_not] at hq302
          refine stg hA300 (op_field rfl fd_62_1 (hA300.ev rfl)) rfl rfl rfl rfl (by decide) fun a303 hA304 => ?_; clear hA300 a299
          refine stg hA304 (op_load1 rfl ty_23 (hA304.ev rfl) (hS288.bk 0 rfl) rfl) rfl rfl rfl rfl (by decide) fun a305 hA306 => ?_; clear hA304 a303
          refine stg hA306 (op_lenS rfl un_23 (hA306.ev rfl) ((rnd_at (hS288.ok 2 _ rfl)).rds k2 (by rw [(rnd_at (hS288.ok 2 _ rfl)).rdl]; omega))) rfl rfl rfl rfl (by decide) fun a307 hA308 => ?_; clear hA306 a305
          refine stg hA308 (op_field rfl fd_26_1 (hA308.ev rfl)) rfl rfl rfl rfl (by decide) fun a309 hA310 => ?_; clear hA308 a307
          refine stg hA310 (op_load1 rfl ty_23 (hA310.ev rfl) (hS288.bk 1 rfl) rfl) rfl rfl rfl rfl (by decide) fun a311 hA312 => ?_; clear hA310 a309
          refine stg hA312 (op_lenS rfl un_23 (hA312.ev rfl) (rnd_at (hS288.ok 2 _ rfl)).samples) rfl rfl rfl rfl (by decide) fun a313 hA314 => ?_; clear hA312 a311
          refine stg hA314 (op_neq rfl (hA314.ev rfl) (hA314.ev rfl)) rfl rfl rfl rfl (by decide) fun a315 hA316 => ?_; clear hA314 a313
          refine st hA316 (op_pick_f rfl (hA316.ev rfl) (hA316.ev rfl)) rfl rfl (by decide) fun a317 hA318 => ?_; clear hA316 a315
          refine wl_nil ?_
          refine then_n ?_
          by_cases hb319 : ((d.rds.getD k2 []).length : Int) = (d.samples.length : Int)
          ·skip
           rw [decide_eq_true hb319] at hA318
           refine c_false hA318 rfl ?_
           refine c_skip ?_
           refine then_n ?_
           refine c_seq ?_
           have hA320 := hA318.as [(6, (bptr b283 0)), (5, (Value.int .i64 (k2 : Int))), (1, (bptr b4 0))] rfl; clear hA318
           refine c_region ?_
           refine st hA320 (op_assign rfl (evc _ _)) rfl rfl (by decide) fun a321 hA322 => ?_; clear hA320 a317
           refine wl_nil ?_
           refine then_n ?_
           refine c_block ?_
           have hA323 := hA322.as [(7, (Value.int .i64 0)), (6, (bptr b283 0)), (5, (Value.int .i64 (k2 : Int))), (1, (bptr b4 0))] rfl; clear hA322
           refine c_loop (G := Nat) (fun (k3 : Nat) a_ w_ => Fr 121 [] [(7, (Value.int .i64 (k3 : Int))), (6, (bptr b283 0)), (5, (Value.int .i64 (k2 : Int))), (1, (bptr b4 0))] a_ ∧ Sep NoB w w_ [(blk b283 62 [(Value.int .i64 (d.tols.getD k2 0)), (rlv.getD k2 nilS)]), (blk b4 26 [rl, rs, (Value.int .i64 d.spread), rb]), (rndR false rl rs rb rlv d)] ∧ (k3 ≤ (d.rds.getD k2 []).length) ∧ (∀ j, j < k3 → rdB ((d.rds.getD k2 []).getD j 0) = true)) (fun k3 => (d.rds.getD k2 []).length - k3) 0 ⟨hA323.as _ rfl, hS288, by omega, (fun _ h => absurd h (Nat.not_lt_zero _))⟩ ?_
           clear hA323 hS288 a321
           rintro k3 a324 w326 ⟨hA325, hS327, hkk3, hrd⟩
           refine c_seq ?_
           refine c_seq ?_
           refine c_region ?_
           refine st hA325 (op_move rfl (hA325.ev rfl)) rfl rfl (by decide) fun a328 hA329 => ?_; clear hA325 a324
           refine st hA329 (op_field rfl fd_62_1 (hA329.ev rfl)) rfl rfl (by decide) fun a330 hA331 => ?_; clear hA329 a328
           refine st hA331 (op_load1 rfl ty_23 (hA331.ev rfl) (hS327.bk 0 rfl) rfl) rfl rfl (by decide) fun a332 hA333 => ?_; clear hA331 a330
           refine st hA333 (op_lenS rfl un_23 (hA333.ev rfl) ((rnd_at (hS327.ok 2 _ rfl)).rds k2 (by rw [(rnd_at (hS327.ok 2 _ rfl)).rdl]; omega))) rfl rfl (by decide) fun a334 hA335 => ?_; clear hA333 a332
           refine st hA335 (op_lss rfl (hA335.ev rfl) (hA335.ev rfl)) rfl rfl (by decide) fun a336 hA337 => ?_; clear hA335 a334
           refine wl_nil ?_
           refine then_n ?_
           by_cases hb338 : (k3 : Int) < ((d.rds.getD k2 []).length : Int)
           ·skip
            rw [decide_eq_true hb338] at hA337
            refine c_true hA337 rfl ?_
            refine c_skip ?_
            refine then_n ?_
            refine c_seq ?_
            refine c_block ?_
            refine c_seq ?_
            refine c_region ?_
            refine st hA337 (op_field rfl fd_62_1 (hA337.ev rfl)) rfl rfl (by decide) fun a339 hA340 => ?_; clear hA337 a336
            refine st hA340 (op_load1 rfl ty_23 (hA340.ev rfl) (hS327.bk 0 rfl) rfl) rfl rfl (by decide) fun a341 hA342 => ?_; clear hA340 a339
            refine st hA342 (op_move rfl (hA342.ev rfl)) rfl rfl (by decide) fun a343 hA344 => ?_; clear hA342 a341
            refine st hA344 (op_indexS rfl un_23 ty_3 (hA344.ev rfl) (i := k3) (hA344.ev rfl) ((rnd_at (hS327.ok 2 _ rfl)).rds k2 (by rw [(rnd_at (hS327.ok 2 _ rfl)).rdl]; omega)) (by decide) (by omega)) rfl rfl (by decide) fun a345 hA346 => ?_; clear hA344 a343
            refine st hA346 (op_load1E rfl ty_3 (hA346.ev rfl) ((rnd_at (hS327.ok 2 _ rfl)).rds k2 (by rw [(rnd_at (hS327.ok 2 _ rfl)).rdl]; omega)) (ints_at (by omega))) rfl rfl (by decide) fun a347 hA348 => ?_; clear hA346 a345
            refine stw hA348 (op_call rfl en_33 (ev3 (hA348.ev rfl) (evc _ _) (evc _ _)) (In_ok _ _ _ _)) rfl rfl (by decide) ?_
            rintro a349 _ _ ⟨rfl, rfl⟩ hA350; clear hA348 a347
            refine st hA350 (op_not rfl (hA350.ev rfl)) rfl rfl (by decide) fun a352 hA353 => ?_; clear hA350 a349
            refine wl_nil ?_
            refine then_n ?_
            rcases Bool.eq_false_or_eq_true ((decide ((-1) ≤ ((d.rds.getD k2 []).getD k3 0)) && decide (((d.rds.getD k2 []).getD k3 0) ≤ 1000))) with hb354 | hb354
            ·skip
             rw [hb354] at hA353
             have hq355 := hb354; simp only [Bool.and_eq_true, Bool.and_eq_false_iff, decide_eq_true_eq, decide_eq_false_iff_not] at hq355
             refine c_false hA353 rfl ?_
             refine c_skip ?_
             refine blk_n ?_
             refine then_n ?_
             have hA356 := hA353.as [(7, (Value.int .i64 (k3 : Int))), (6, (bptr b283 0)), (5, (Value.int .i64 (k2 : Int))), (1, (bptr b4 0))] rfl; clear hA353
             refine c_region ?_
             refine st hA356 (op_move rfl (hA356.ev rfl)) rfl rfl (by decide) fun a357 hA358 => ?_; clear hA356 a352
             refine st hA358 (op_add rfl (hA358.ev rfl) (evc _ _) (by omega) (by omega)) rfl rfl (by decide) fun a359 hA360 => ?_; clear hA358 a357
             refine st hA360 (op_assign rfl (hA360.ev rfl)) rfl rfl (by decide) fun a361 hA362 => ?_; clear hA360 a359
             refine wl_nil ?_
             exact then_n ⟨k3 + 1, ⟨hA362.as _ rfl, hS327, by omega, (fun j hi => by rcases Nat.lt_succ_iff_lt_or_eq.1 hi with h | h; exact hrd j h; subst h; unfold rdB; simp only [Bool.and_eq_true, decide_eq_true_eq]; omega)⟩, by omega⟩
            ·skip
             rw [hb354] at hA353
             have hq363 := hb354; simp only [Bool.and_eq_true, Bool.and_eq_false_iff, decide_eq_true_eq, decide_eq_false_iff_not] at hq363
             refine c_true hA353 rfl ?_
             refine c_seq ?_
             have hA364 := hA353.as [] rfl; clear hA353
             refine c_region ?_
             refine st hA364 (op_assign rfl (evc _ _)) rfl rfl (by decide) fun a365 hA366 => ?_; clear hA364 a352
             refine wl_nil ?_
             refine then_n ?_
             refine c_ret ?_
             refine blk_ret ?_
             refine then_ret ?_
             refine then_ret ?_
             refine blk_ret ?_
             refine blk_ret ?_
             refine then_ret ?_
             refine then_ret ?_
             refine blk_ret ?_
             refine then_ret ?_
             refine fin_run hA366 (.inl rfl) (run_results1 hA366 rfl (.tmp rfl)) ?_
             exact ⟨ret_int (checkR_1 (by omega) (by first | (left; omega) | (right; right; right; left; unfold tolB; simp only [Bool.and_eq_false_iff, decide_eq_false_iff_not]; omega) | (right; right; right; right; exact all_no (k := k2) (by omega) (labB_no2 (j := k3) (by omega) (by unfold rdB; simp only [Bool.and_eq_false_iff, decide_eq_false_iff_not]; omega))) | (right; right; right; right; exact all_no (k := k2) (by omega) (labB_no1 (by omega))) | (right; right; left; exact all_no (k := k1) (by omega) (by unfold smpB; simp only [Bool.and_eq_false_iff, decide_eq_false_iff_not]; omega)) | (right; left; exact all_no (k := k) (by omega) (by unfold lotB; simp only [Bool.and_eq_false_iff, decide_eq_false_iff_not]; omega)))).symm, hS327.ext⟩
           ·skip
            rw [decide_eq_false hb338] at hA337
            refine c_false hA337 rfl ?_
            refine c_exit ?_
            refine then_exit ?_
            refine then_exit ?_
            refine blk_hit ?_
            refine blk_n ?_
            refine then_n ?_
            have hA367 := hA337.as [(5, (Value.int .i64 (k2 : Int))), (1, (bptr b4 0))] rfl; clear hA337
            refine c_region ?_
            refine st hA367 (op_move rfl (hA367.ev rfl)) rfl rfl (by decide) fun a368 hA369 => ?_; clear hA367 a336
            refine st hA369 (op_add rfl (hA369.ev rfl) (evc _ _) (by omega) (by omega)) rfl rfl (by decide) fun a370 hA371 => ?_; clear hA369 a368
            refine st hA371 (op_assign rfl (hA371.ev rfl)) rfl rfl (by decide) fun a372 hA373 => ?_; clear hA371 a370
            refine wl_nil ?_
            have hS374 : Sep NoB w w326 [(blk b4 26 [rl, rs, (Value.int .i64 d.spread), rb]), (rndR false rl rs rb rlv d)] := hS327.keep [1, 2] (by decide) _ rfl rfl; clear hS327
            exact then_n ⟨k2 + 1, ⟨hA373.as _ rfl, hS374, by omega, (fun i hi => by rcases Nat.lt_succ_iff_lt_or_eq.1 hi with h | h; exact hlab i h; subst h; exact labB_yes (by omega) (by omega) (fun j hj => hrd j (by omega)))⟩, by omega⟩
          ·skip
           rw [decide_eq_false hb319] at hA318
           refine c_true hA318 rfl ?_
           refine c_seq ?_
           have hA375 := hA318.as [] rfl; clear hA318
           refine c_region ?_
           refine st hA375 (op_assign rfl (evc _ _)) rfl rfl (by decide) fun a376 hA377 => ?_; clear hA375 a317
           refine wl_nil ?_
           refine then_n ?_
           refine c_ret ?_
           refine then_ret ?_
           refine blk_ret ?_
           refine then_ret ?_
           refine then_ret ?_
           refine blk_ret ?_
           refine then_ret ?_
           refine fin_run hA377 (.inl rfl) (run_results1 hA377 rfl (.tmp rfl)) ?_
           exact ⟨ret_int (checkR_1 (by omega) (by first | (left; omega) | (right; right; right; left; unfold tolB; simp only [Bool.and_eq_false_iff, decide_eq_false_iff_not]; omega) | (right; right; right; right; exact all_no (k := k2) (by omega) (labB_no2 (j := k3) (by omega) (by unfold rdB; simp only [Bool.and_eq_false_iff, decide_eq_false_iff_not]; omega))) | (right; right; right; right; exact all_no (k := k2) (by omega) (labB_no1 (by omega))) | (right; right; left; exact all_no (k := k1) (by omega) (by unfold smpB; simp only [Bool.and_eq_false_iff, decide_eq_false_iff_not]; omega)) | (right; left; exact all_no (k := k) (by omega) (by unfold lotB; simp only [Bool.and_eq_false_iff, decide_eq_false_iff_not]; omega)))).symm, hS288.ext⟩
         ·skip
          rw [hb301] at hA300
          have hq378 := hb301; simp only [Bool.and_eq_true, Bool.and_eq_false_iff, decide_eq_true_eq, decide_eq_false_iff_not] at hq378
          refine skp hA300 rfl rfl rfl rfl rfl (by decide) fun a379 hA380 => ?_; clear hA300 a299
          refine skp hA380 rfl rfl rfl rfl rfl (by decide) fun a381 hA382 => ?_; clear hA380 a379
          refine skp hA382 rfl rfl rfl rfl rfl (by decide) fun a383 hA384 => ?_; clear hA382 a381
          refine skp hA384 rfl rfl rfl rfl rfl (by decide) fun a385 hA386 => ?_; clear hA384 a383
          refine skp hA386 rfl rfl rfl rfl rfl (by decide) fun a387 hA388 => ?_; clear hA386 a385
          refine skp hA388 rfl rfl rfl rfl rfl (by decide) fun a389 hA390 => ?_; clear hA388 a387
          refine skp hA390 rfl rfl rfl rfl rfl (by decide) fun a391 hA392 => ?_; clear hA390 a389
          refine st hA392 (op_pick_t rfl (hA392.ev rfl) (evc _ _)) rfl rfl (by decide) fun a393 hA394 => ?_; clear hA392 a391
          refine wl_nil ?_
          refine then_n ?_
          refine c_true hA394 rfl ?_
          refine c_seq ?_
          have hA395 := hA394.as [] rfl; clear hA394
          refine c_region ?_
          refine st hA395 (op_assign rfl (evc _ _)) rfl rfl (by decide) fun a396 hA397 => ?_; clear hA395 a393
          refine wl_nil ?_
          refine then_n ?_
          refine c_ret ?_
          refine then_ret ?_
          refine blk_ret ?_
          refine then_ret ?_
          refine then_ret ?_
          refine blk_ret ?_
          refine then_ret ?_
          refine fin_run hA397 (.inl rfl) (run_results1 hA397 rfl (.tmp rfl)) ?_
          exact ⟨ret_int (checkR_1 (by omega) (by first | (left; omega) | (right; right; right; left; unfold tolB; simp only [Bool.and_eq_false_iff, decide_eq_false_iff_not]; omega) | (right; right; right; right; exact all_no (k := k2) (by omega) (labB_no2 (j := k3) (by omega) (by unfold rdB; simp only [Bool.and_eq_false_iff, decide_eq_false_iff_not]; omega))) | (right; right; right; right; exact all_no (k := k2) (by omega) (labB_no1 (by omega))) | (right; right; left; exact all_no (k := k1) (by omega) (by unfold smpB; simp only [Bool.and_eq_false_iff, decide_eq_false_iff_not]; omega)) | (right; left; exact all_no (k := k) (by omega) (by unfold lotB; simp only [Bool.and_eq_false_iff, decide_eq_false_iff_not]; omega)))).symm, hS288.ext⟩
        ·skip
         rw [decide_eq_false hb269] at hA268
         refine c_false hA268 rfl ?_
         refine c_exit ?_
         refine then_exit ?_
         refine then_exit ?_
         refine blk_hit ?_
         refine then_n ?_
         refine c_seq ?_
         have hA398 := hA268.as [] rfl; clear hA268
         refine c_region ?_
         refine st hA398 (op_assign rfl (evc _ _)) rfl rfl (by decide) fun a399 hA400 => ?_; clear hA398 a267
         refine wl_nil ?_
         refine then_n ?_
         refine c_ret ?_
         refine fin_run hA400 (.inl rfl) (run_results1 hA400 rfl (.tmp rfl)) ?_
         exact ⟨ret_int (checkR_0 (by omega) (by omega) (all_yes (fun i hi => hlot i (by omega))) (all_yes (fun i hi => hsmp i (by omega))) (by unfold tolB; simp only [Bool.and_eq_true, decide_eq_true_eq]; omega) (all_yes (fun i hi => hlab i (by omega)))).symm, hS258.ext⟩
     ·skip
      rw [hb120] at hA119
      have hq401 := hb120; simp only [Bool.and_eq_true, Bool.and_eq_false_iff, decide_eq_true_eq, decide_eq_false_iff_not] at hq401
      refine c_true hA119 rfl ?_
      refine c_seq ?_
      have hA402 := hA119.as [] rfl; clear hA119
      refine c_region ?_
      refine st hA402 (op_assign rfl (evc _ _)) rfl rfl (by decide) fun a403 hA404 => ?_; clear hA402 a118
      refine wl_nil ?_
      refine then_n ?_
      refine c_ret ?_
      refine then_ret ?_
      refine fin_run hA404 (.inl rfl) (run_results1 hA404 rfl (.tmp rfl)) ?_
      exact ⟨ret_int (checkR_1 (by omega) (by first | (left; omega) | (right; right; right; left; unfold tolB; simp only [Bool.and_eq_false_iff, decide_eq_false_iff_not]; omega) | (right; right; right; right; exact all_no (k := k2) (by omega) (labB_no2 (j := k3) (by omega) (by unfold rdB; simp only [Bool.and_eq_false_iff, decide_eq_false_iff_not]; omega))) | (right; right; right; right; exact all_no (k := k2) (by omega) (labB_no1 (by omega))) | (right; right; left; exact all_no (k := k1) (by omega) (by unfold smpB; simp only [Bool.and_eq_false_iff, decide_eq_false_iff_not]; omega)) | (right; left; exact all_no (k := k) (by omega) (by unfold lotB; simp only [Bool.and_eq_false_iff, decide_eq_false_iff_not]; omega)))).symm, hS5.ext⟩

theorem fault_ok (rl rs rb : Value) (rlv : List Value) (d : RD) (w : World) (hR : RoundAt w rl rs rb rlv d) :
  Calls Try.prog 23 #[(Value.agg #[rl, rs, (Value.int .i64 d.spread), rb])] w (Ret fun v w' => v = .int .i64 (checkR d) ∧ Ext NoB w w') := by
 refine calls_enter Try.func23 rfl fun a0 hA0 => ?_
 replace hA0 : Fr 5 [] [(0, (Value.agg #[rl, rs, (Value.int .i64 d.spread), rb]))] a0 := hA0
 have hS0 : Sep NoB w w [(rndR false rl rs rb rlv d)] := sep_ro ⟨rfl, hR, trivial⟩
 refine c_seq ?_
 refine c_region ?_
 refine stw hA0 (op_box hS0 rfl (hA0.ev rfl) (cs := [rl, rs, (Value.int .i64 d.spread), rb]) rfl) rfl rfl (by decide) ?_
 rintro a1 _ w3 ⟨b4, rfl, hS5⟩ hA2; clear hA0 hS0 a0
 refine st hA2 (op_assign rfl (evc _ _)) rfl rfl (by decide) fun a6 hA7 => ?_; clear hA2 a1
 refine wl_nil ?_
 refine then_n ?_
 refine c_seq ?_
 refine c_region ?_
 refine st hA7 (op_loadA rfl ty_26 (hA7.ev rfl) (hS5.bk 0 rfl) (l := [rl, rs, (Value.int .i64 d.spread), rb]) rfl rfl) rfl rfl (by decide) fun a8 hA9 => ?_; clear hA7 a6
 refine stw hA9 (op_call rfl en_28 (ev1 (hA9.ev rfl)) (Fault_ok rl rs rb rlv d _ (rnd_at (hS5.ok 1 _ rfl)))) rfl rfl (by decide) ?_
 rintro a10 _ w12 ⟨rfl, hE13⟩ hA11; have hS14 := hS5.step hE13; clear hE13 hA9 hS5 a8
 refine st hA11 (op_assign rfl (hA11.ev rfl)) rfl rfl (by decide) fun a15 hA16 => ?_; clear hA11 a10
 refine wl_nil ?_
 refine then_n ?_
 refine c_ret ?_
 refine fin_run hA16 (.inl rfl) (run_results1 hA16 rfl (.tmp rfl)) ?_
 exact ⟨rfl, hS14.ext⟩

end Go.Proofs.Ytfhmigoddaaljaa
