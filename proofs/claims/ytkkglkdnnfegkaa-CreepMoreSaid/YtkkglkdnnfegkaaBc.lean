/-
  Runs that are built; lists of the reference.
  The reference's lists of rates.
  The reference's allowed rates.
  The chapter's material and runs; what the program makes of them.
  The ranges of rates: as the program makes them, and as the statement does.
  Lives, as the reference tells them.
  Rates that are some of a material.
  Rates of a list, as an array.
  Lists of rates: which they are; the ends of a stretch.
  Stretches as sums; segments that are cut; what all runs allow.
  Ranges of rates, stretches and lives, as bounds that are reached.
  Runs that are copied and changed: the structs in new memory, the segments where they were.
  The rates that are shown for an end of a stretch; lists that are cut.
  Lives and the stretches of plans of one segment; longer and hotter plans.
  Longer and hotter plans; plans in parts.
  One more run; runs one of whose segments is cut.
-/
import Derived.Test.YtkkglkdnnfegkaaBb
import Derived.Test.YtkkglkdnnfegkaaEnga
set_option linter.unusedSimpArgs false
set_option linter.unusedVariables false
namespace Go.Proofs.Ytkkglkdnnfegkaa
open Go.RowKit Go.Shelf Go.Eng
theorem un_25 : Try.prog.underlying 25 = some (.slice 54) := by kernel_rfl
theorem ty_54 : tyK Try.prog 54 = some (true, 3) := by kernel_rfl
theorem fd_54_0 : fldK Try.prog 54 0 = some 0 := by kernel_rfl
theorem ty_51 : tyK Try.prog 51 = some (false, 1) := by kernel_rfl
theorem un_51 : Try.prog.underlying 51 = some (.slice 56) := by kernel_rfl
theorem fd_24_0 : fldK Try.prog 24 0 = some 0 := by kernel_rfl
theorem ty_22 : tyK Try.prog 22 = some (false, 1) := by kernel_rfl
theorem un_22 : Try.prog.underlying 22 = some (.slice 48) := by kernel_rfl
theorem fd_56_0 : fldK Try.prog 56 0 = some 0 := by kernel_rfl
theorem en_24 : ∀ args w, (callFunc 24 args).run Try.prog w = .ok (.enter 24 args) w := enters_of Try.func24 (by kernel_rfl) rfl
theorem fd_56_1 : fldK Try.prog 56 1 = some 1 := by kernel_rfl
theorem ty_48 : tyK Try.prog 48 = some (true, 2) := by kernel_rfl
theorem ze_48 : (Try.prog.info? 48).bind (·.zero) = some (Value.agg #[(Value.int .i64 0), (Value.int .i64 0)]) := by kernel_rfl
set_option maxHeartbeats 1000000 in
theorem Thin_ok (w : World) (R : List (Int × Int)) (vr : Value) (hm : SlAt w vr 2 R.length (pairs R)) (rs : List RunD) (lv : List Value) (vu : Value) (hx : RunsAt w vu lv rs) (plan : List Seg) (vp : Value) (hp : SlAt w vp 3 plan.length (trips plan)) :
  Calls Try.prog 16 #[(Value.agg #[vr]), vu, vp] w (Ret fun v w' => v = .bool (thinB R rs plan.length) ∧ Ext NoB w w') := by
 refine calls_enter Try.func16 rfl fun a0 hA0 => ?_
 replace hA0 : Fr 39 [] [(0, (Value.agg #[vr])), (1, vu), (2, vp)] a0 := hA0
 have hS0 : Sep NoB w w [(sl vr 2 R.length (pairs R)), (runsR false vu lv rs), (sl vp 3 plan.length (trips plan))] := sep_ro ⟨rfl, hm, rfl, hx, rfl, hp, trivial⟩
 refine c_seq ?_
 refine c_region ?_
 refine stw hA0 (op_box hS0 rfl (hA0.ev rfl) (cs := [vr]) rfl) rfl rfl (by decide) ?_
 rintro a1 _ w3 ⟨b4, rfl, hS5⟩ hA2; clear hA0 hS0 a0
 refine st hA2 (op_assign rfl (evc _ _)) rfl rfl (by decide) fun a6 hA7 => ?_; clear hA2 a1
 refine wl_nil ?_
 refine then_n ?_
 refine c_seq ?_
 refine c_seq ?_
 refine c_region ?_
 refine st hA7 (op_assign rfl (evc _ _)) rfl rfl (by decide) fun a8 hA9 => ?_; clear hA7 a6
 refine wl_nil ?_
 refine then_n ?_
 refine c_block ?_
 have hA10 := hA9.as [(7, (Value.int .i64 0)), (3, (bptr b4 0)), (1, vu), (2, vp)] rfl; clear hA9
 refine c_loop (G := Nat) (fun (k : Nat) a_ w_ => Fr 39 [] [(7, (Value.int .i64 (k : Int))), (3, (bptr b4 0)), (1, vu), (2, vp)] a_ ∧ Sep NoB w w_ [(blk b4 24 [vr]), (sl vr 2 R.length (pairs R)), (runsR false vu lv rs), (sl vp 3 plan.length (trips plan))] ∧ (k ≤ rs.length ∧ k ≤ 10) ∧ (∀ i, i < k → decide ((rs.getD i run0).segs.length ≤ 12) = true)) (fun k => rs.length - k) 0 ⟨hA10.as _ rfl, hS5, by omega, (fun _ h => absurd h (Nat.not_lt_zero _))⟩ ?_
 clear hA10 hS5 a8
 rintro k a11 w13 ⟨hA12, hS14, hk, hn⟩
 refine c_seq ?_
 refine c_seq ?_
 refine c_region ?_
 refine st hA12 (op_move rfl (hA12.ev rfl)) rfl rfl (by decide) fun a15 hA16 => ?_; clear hA12 a11
 refine st hA16 (op_move rfl (hA16.ev rfl)) rfl rfl (by decide) fun a17 hA18 => ?_; clear hA16 a15
 refine st hA18 (op_lenS rfl un_25 (hA18.ev rfl) (runs_at (hS14.ok 2 _ rfl)).runs) rfl rfl (by decide) fun a19 hA20 => ?_; clear hA18 a17
 refine st hA20 (op_lss rfl (hA20.ev rfl) (hA20.ev rfl)) rfl rfl (by decide) fun a21 hA22 => ?_; clear hA20 a19
 refine st hA22 (op_move rfl (hA22.ev rfl)) rfl rfl (by decide) fun a23 hA24 => ?_; clear hA22 a21
 by_cases hb25 : (k : Int) < (rs.length : Int)
 ·skip
  rw [decide_eq_true hb25] at hA24
  refine stg hA24 (op_move rfl (hA24.ev rfl)) rfl rfl rfl rfl (by decide) fun a26 hA27 => ?_; clear hA24 a23
  refine stg hA27 (op_lss rfl (hA27.ev rfl) (evc _ _)) rfl rfl rfl rfl (by decide) fun a28 hA29 => ?_; clear hA27 a26
  refine st hA29 (op_pick_t rfl (hA29.ev rfl) (hA29.ev rfl)) rfl rfl (by decide) fun a30 hA31 => ?_; clear hA29 a28
  refine wl_nil ?_
  refine then_n ?_
  by_cases hb32 : (k : Int) < 10
  ·skip
   rw [decide_eq_true hb32] at hA31
   refine c_true hA31 rfl ?_
   refine c_skip ?_
   refine then_n ?_
   refine c_seq ?_
   refine c_block ?_
   refine c_seq ?_
   have hA33 := hA31.as [(7, (Value.int .i64 (k : Int))), (3, (bptr b4 0)), (1, vu), (2, vp)] rfl; clear hA31
   refine c_region ?_
   refine st hA33 (op_move rfl (hA33.ev rfl)) rfl rfl (by decide) fun a34 hA35 => ?_; clear hA33 a30
   refine st hA35 (op_move rfl (hA35.ev rfl)) rfl rfl (by decide) fun a36 hA37 => ?_; clear hA35 a34
   refine st hA37 (op_indexS rfl un_25 ty_54 (hA37.ev rfl) (i := k) (hA37.ev rfl) (runs_at (hS14.ok 2 _ rfl)).runs (by decide) (by omega)) rfl rfl (by decide) fun a38 hA39 => ?_; clear hA37 a36
   refine st hA39 (op_fieldS rfl fd_54_0 (hA39.ev rfl) (runs_at (hS14.ok 2 _ rfl)).runs (by rw [((runs_at (hS14.ok 2 _ rfl)).runs).1]; omega)) rfl rfl (by decide) fun a40 hA41 => ?_; clear hA39 a38
   refine st hA41 (op_load1E rfl ty_51 (hA41.ev rfl) (runs_at (hS14.ok 2 _ rfl)).runs (runs_at0 (runs_at (hS14.ok 2 _ rfl)).len (by omega))) rfl rfl (by decide) fun a42 hA43 => ?_; clear hA41 a40
   refine st hA43 (op_lenS rfl un_51 (hA43.ev rfl) ((runs_at (hS14.ok 2 _ rfl)).segs k (by omega))) rfl rfl (by decide) fun a44 hA45 => ?_; clear hA43 a42
   refine st hA45 (op_gtr rfl (hA45.ev rfl) (evc _ _)) rfl rfl (by decide) fun a46 hA47 => ?_; clear hA45 a44
   refine wl_nil ?_
   refine then_n ?_
   by_cases hb48 : 12 < ((rs.getD k run0).segs.length : Int)
   ·skip
    rw [decide_eq_true hb48] at hA47
    refine c_true hA47 rfl ?_
    refine c_seq ?_
    have hA49 := hA47.as [] rfl; clear hA47
    refine c_region ?_
    refine st hA49 (op_assign rfl (evc _ _)) rfl rfl (by decide) fun a50 hA51 => ?_; clear hA49 a46
    refine wl_nil ?_
    refine then_n ?_
    refine c_ret ?_
    refine blk_ret ?_
    refine then_ret ?_
    refine then_ret ?_
    refine blk_ret ?_
    refine then_ret ?_
    refine fin_run hA51 (.inl rfl) (run_results1 hA51 rfl (.tmp rfl)) ?_
    exact ⟨congrArg Value.bool (by unfold thinB; first | (rw [all_yes (fun i hi => hn i (by omega)), Bool.true_and]; (rw [Bool.eq_iff_iff]; (try simp only [Bool.true_and, Bool.false_and, Bool.and_true, Bool.and_false, Bool.false_or, Bool.true_or, Bool.or_false, Bool.or_true, true_and, and_true, false_and, and_false, false_or, or_false, true_or, or_true, Bool.and_eq_true, Bool.or_eq_true, Bool.not_eq_true', decide_eq_true_eq, decide_eq_false_iff_not, Bool.false_eq_true, Bool.true_eq_false, Bool.not_true, Bool.not_false, eq_self_iff_true, true_iff, false_iff, iff_true, iff_false, not_true, not_false_eq_true]); omega)) | (rw [all_no (k := k) (by omega) (decide_eq_false (by omega)), Bool.false_and])), hS14.ext⟩
   ·skip
    rw [decide_eq_false hb48] at hA47
    refine c_false hA47 rfl ?_
    refine c_skip ?_
    refine blk_n ?_
    refine then_n ?_
    have hA52 := hA47.as [(7, (Value.int .i64 (k : Int))), (3, (bptr b4 0)), (1, vu), (2, vp)] rfl; clear hA47
    refine c_region ?_
    refine st hA52 (op_move rfl (hA52.ev rfl)) rfl rfl (by decide) fun a53 hA54 => ?_; clear hA52 a46
    refine st hA54 (op_add rfl (hA54.ev rfl) (evc _ _) (by omega) (by omega)) rfl rfl (by decide) fun a55 hA56 => ?_; clear hA54 a53
    refine st hA56 (op_assign rfl (hA56.ev rfl)) rfl rfl (by decide) fun a57 hA58 => ?_; clear hA56 a55
    refine wl_nil ?_
    exact then_n ⟨k + 1, ⟨hA58.as _ rfl, hS14, by omega, (fun i hi => by rcases Nat.lt_succ_iff_lt_or_eq.1 hi with h | h; exact hn i h; subst h; exact decide_eq_true (by omega))⟩, by omega⟩
  ·skip
   rw [decide_eq_false hb32] at hA31
   refine c_false hA31 rfl ?_
   refine c_exit ?_
   refine then_exit ?_
   refine then_exit ?_
   refine blk_hit ?_
   refine then_n ?_
   refine c_seq ?_
   have hA59 := hA31.as [(3, (bptr b4 0)), (1, vu), (2, vp)] rfl; clear hA31
   refine c_region ?_
   refine st hA59 (op_field rfl fd_24_0 (hA59.ev rfl)) rfl rfl (by decide) fun a60 hA61 => ?_; clear hA59 a30
   refine st hA61 (op_load1 rfl ty_22 (hA61.ev rfl) (hS14.bk 0 rfl) rfl) rfl rfl (by decide) fun a62 hA63 => ?_; clear hA61 a60
   refine st hA63 (op_lenS rfl un_22 (hA63.ev rfl) (hS14.sk 1 rfl)) rfl rfl (by decide) fun a64 hA65 => ?_; clear hA63 a62
   refine st hA65 (op_leq rfl (hA65.ev rfl) (evc _ _)) rfl rfl (by decide) fun a66 hA67 => ?_; clear hA65 a64
   refine st hA67 (op_move rfl (hA67.ev rfl)) rfl rfl (by decide) fun a68 hA69 => ?_; clear hA67 a66
   by_cases hb70 : (R.length : Int) ≤ 6
   ·skip
    rw [decide_eq_true hb70] at hA69
    refine stg hA69 (op_move rfl (hA69.ev rfl)) rfl rfl rfl rfl (by decide) fun a71 hA72 => ?_; clear hA69 a68
    refine stg hA72 (op_lenS rfl un_25 (hA72.ev rfl) (runs_at (hS14.ok 2 _ rfl)).runs) rfl rfl rfl rfl (by decide) fun a73 hA74 => ?_; clear hA72 a71
    refine stg hA74 (op_leq rfl (hA74.ev rfl) (evc _ _)) rfl rfl rfl rfl (by decide) fun a75 hA76 => ?_; clear hA74 a73
    refine st hA76 (op_pick_t rfl (hA76.ev rfl) (hA76.ev rfl)) rfl rfl (by decide) fun a77 hA78 => ?_; clear hA76 a75
    refine st hA78 (op_move rfl (hA78.ev rfl)) rfl rfl (by decide) fun a79 hA80 => ?_; clear hA78 a77
    by_cases hb81 : (rs.length : Int) ≤ 9
    ·skip
     rw [decide_eq_true hb81] at hA80
     refine stg hA80 (op_move rfl (hA80.ev rfl)) rfl rfl rfl rfl (by decide) fun a82 hA83 => ?_; clear hA80 a79
     refine stg hA83 (op_lenS rfl un_51 (hA83.ev rfl) (hS14.sk 3 rfl)) rfl rfl rfl rfl (by decide) fun a84 hA85 => ?_; clear hA83 a82
     refine stg hA85 (op_leq rfl (hA85.ev rfl) (evc _ _)) rfl rfl rfl rfl (by decide) fun a86 hA87 => ?_; clear hA85 a84
     refine st hA87 (op_pick_t rfl (hA87.ev rfl) (hA87.ev rfl)) rfl rfl (by decide) fun a88 hA89 => ?_; clear hA87 a86
     refine st hA89 (op_assign rfl (hA89.ev rfl)) rfl rfl (by decide) fun a90 hA91 => ?_; clear hA89 a88
     refine wl_nil ?_
     refine then_n ?_
     refine c_ret ?_
     refine fin_run hA91 (.inl rfl) (run_results1 hA91 rfl (.tmp rfl)) ?_
     exact ⟨congrArg Value.bool (by unfold thinB; first | (rw [all_yes (fun i hi => hn i (by omega)), Bool.true_and]; (rw [Bool.eq_iff_iff]; (try simp only [Bool.true_and, Bool.false_and, Bool.and_true, Bool.and_false, Bool.false_or, Bool.true_or, Bool.or_false, Bool.or_true, true_and, and_true, false_and, and_false, false_or, or_false, true_or, or_true, Bool.and_eq_true, Bool.or_eq_true, Bool.not_eq_true', decide_eq_true_eq, decide_eq_false_iff_not, Bool.false_eq_true, Bool.true_eq_false, Bool.not_true, Bool.not_false, eq_self_iff_true, true_iff, false_iff, iff_true, iff_false, not_true, not_false_eq_true]); omega)) | (rw [all_no (k := k) (by omega) (decide_eq_false (by omega)), Bool.false_and])), hS14.ext⟩
    ·skip
     rw [decide_eq_false hb81] at hA80
     refine skp hA80 rfl rfl rfl rfl rfl (by decide) fun a92 hA93 => ?_; clear hA80 a79
     refine skp hA93 rfl rfl rfl rfl rfl (by decide) fun a94 hA95 => ?_; clear hA93 a92
     refine skp hA95 rfl rfl rfl rfl rfl (by decide) fun a96 hA97 => ?_; clear hA95 a94
     refine st hA97 (op_pick_f rfl (hA97.ev rfl) (evc _ _)) rfl rfl (by decide) fun a98 hA99 => ?_; clear hA97 a96
     refine st hA99 (op_assign rfl (hA99.ev rfl)) rfl rfl (by decide) fun a100 hA101 => ?_; clear hA99 a98
     refine wl_nil ?_
     refine then_n ?_
     refine c_ret ?_
     refine fin_run hA101 (.inl rfl) (run_results1 hA101 rfl (.tmp rfl)) ?_
     exact ⟨congrArg Value.bool (by unfold thinB; first | (rw [all_yes (fun i hi => hn i (by omega)), Bool.true_and]; (rw [Bool.eq_iff_iff]; (try simp only [Bool.true_and, Bool.false_and, Bool.and_true, Bool.and_false, Bool.false_or, Bool.true_or, Bool.or_false, Bool.or_true, true_and, and_true, false_and, and_false, false_or, or_false, true_or, or_true, Bool.and_eq_true, Bool.or_eq_true, Bool.not_eq_true', decide_eq_true_eq, decide_eq_false_iff_not, Bool.false_eq_true, Bool.true_eq_false, Bool.not_true, Bool.not_false, eq_self_iff_true, true_iff, false_iff, iff_true, iff_false, not_true, not_false_eq_true]); omega)) | (rw [all_no (k := k) (by omega) (decide_eq_false (by omega)), Bool.false_and])), hS14.ext⟩
   ·skip
    rw [decide_eq_false hb70] at hA69
    refine skp hA69 rfl rfl rfl rfl rfl (by decide) fun a102 hA103 => ?_; clear hA69 a68
    refine skp hA103 rfl rfl rfl rfl rfl (by decide) fun a104 hA105 => ?_; clear hA103 a102
    refine skp hA105 rfl rfl rfl rfl rfl (by decide) fun a106 hA107 => ?_; clear hA105 a104
    refine st hA107 (op_pick_f rfl (hA107.ev rfl) (evc _ _)) rfl rfl (by decide) fun a108 hA109 => ?_; clear hA107 a106
    refine st hA109 (op_move rfl (hA109.ev rfl)) rfl rfl (by decide) fun a110 hA111 => ?_; clear hA109 a108
    refine skp hA111 rfl rfl rfl rfl rfl (by decide) fun a112 hA113 => ?_; clear hA111 a110
    refine skp hA113 rfl rfl rfl rfl rfl (by decide) fun a114 hA115 => ?_; clear hA113 a112
    refine skp hA115 rfl rfl rfl rfl rfl (by decide) fun a116 hA117 => ?_; clear hA115 a114
    refine st hA117 (op_pick_f rfl (hA117.ev rfl) (evc _ _)) rfl rfl (by decide) fun a118 hA119 => ?_; clear hA117 a116
    refine st hA119 (op_assign rfl (hA119.ev rfl)) rfl rfl (by decide) fun a120 hA121 => ?_; clear hA119 a118
    refine wl_nil ?_
    refine then_n ?_
    refine c_ret ?_
    refine fin_run hA121 (.inl rfl) (run_results1 hA121 rfl (.tmp rfl)) ?_
    exact ⟨congrArg Value.bool (by unfold thinB; first | (rw [all_yes (fun i hi => hn i (by omega)), Bool.true_and]; (rw [Bool.eq_iff_iff]; (try simp only [Bool.true_and, Bool.false_and, Bool.and_true, Bool.and_false, Bool.false_or, Bool.true_or, Bool.or_false, Bool.or_true, true_and, and_true, false_and, and_false, false_or, or_false, true_or, or_true, Bool.and_eq_true, Bool.or_eq_true, Bool.not_eq_true', decide_eq_true_eq, decide_eq_false_iff_not, Bool.false_eq_true, Bool.true_eq_false, Bool.not_true, Bool.not_false, eq_self_iff_true, true_iff, false_iff, iff_true, iff_false, not_true, not_false_eq_true]); omega)) | (rw [all_no (k := k) (by omega) (decide_eq_false (by omega)), Bool.false_and])), hS14.ext⟩
 ·skip
  rw [decide_eq_false hb25] at hA24
  refine skp hA24 rfl rfl rfl rfl rfl (by decide) fun a122 hA123 => ?_; clear hA24 a23
  refine skp hA123 rfl rfl rfl rfl rfl (by decide) fun a124 hA125 => ?_; clear hA123 a122
  refine st hA125 (op_pick_f rfl (hA125.ev rfl) (evc _ _)) rfl rfl (by decide) fun a126 hA127 => ?_; clear hA125 a124
  refine wl_nil ?_
  refine then_n ?_
  refine c_false hA127 rfl ?_
  refine c_exit ?_
  refine then_exit ?_
  refine then_exit ?_
  refine blk_hit ?_
  refine then_n ?_
  refine c_seq ?_
  have hA128 := hA127.as [(3, (bptr b4 0)), (1, vu), (2, vp)] rfl; clear hA127
  refine c_region ?_
  refine st hA128 (op_field rfl fd_24_0 (hA128.ev rfl)) rfl rfl (by decide) fun a129 hA130 => ?_; clear hA128 a126
  refine st hA130 (op_load1 rfl ty_22 (hA130.ev rfl) (hS14.bk 0 rfl) rfl) rfl rfl (by decide) fun a131 hA132 => ?_; clear hA130 a129
  refine st hA132 (op_lenS rfl un_22 (hA132.ev rfl) (hS14.sk 1 rfl)) rfl rfl (by decide) fun a133 hA134 => ?_; clear hA132 a131
  refine st hA134 (op_leq rfl (hA134.ev rfl) (evc _ _)) rfl rfl (by decide) fun a135 hA136 => ?_; clear hA134 a133
  refine st hA136 (op_move rfl (hA136.ev rfl)) rfl rfl (by decide) fun a137 hA138 => ?_; clear hA136 a135
  by_cases hb139 : (R.length : Int) ≤ 6
  ·skip
   rw [decide_eq_true hb139] at hA138
   refine stg hA138 (op_move rfl (hA138.ev rfl)) rfl rfl rfl rfl (by decide) fun a140 hA141 => ?_; clear hA138 a137
   refine stg hA141 (op_lenS rfl un_25 (hA141.ev rfl) (runs_at (hS14.ok 2 _ rfl)).runs) rfl rfl rfl rfl (by decide) fun a142 hA143 => ?_; clear hA141 a140
   refine stg hA143 (op_leq rfl (hA143.ev rfl) (evc _ _)) rfl rfl rfl rfl (by decide) fun a144 hA145 => ?_; clear hA143 a142
   refine st hA145 (op_pick_t rfl (hA145.ev rfl) (hA145.ev rfl)) rfl rfl (by decide) fun a146 hA147 => ?_; clear hA145 a144
   refine st hA147 (op_move rfl (hA147.ev rfl)) rfl rfl (by decide) fun a148 hA149 => ?_; clear hA147 a146
   by_cases hb150 : (rs.length : Int) ≤ 9
   ·skip
    rw [decide_eq_true hb150] at hA149
    refine stg hA149 (op_move rfl (hA149.ev rfl)) rfl rfl rfl rfl (by decide) fun a151 hA152 => ?_; clear hA149 a148
    refine stg hA152 (op_lenS rfl un_51 (hA152.ev rfl) (hS14.sk 3 rfl)) rfl rfl rfl rfl (by decide) fun a153 hA154 => ?_; clear hA152 a151
    refine stg hA154 (op_leq rfl (hA154.ev rfl) (evc _ _)) rfl rfl rfl rfl (by decide) fun a155 hA156 => ?_; clear hA154 a153
    refine st hA156 (op_pick_t rfl (hA156.ev rfl) (hA156.ev rfl)) rfl rfl (by decide) fun a157 hA158 => ?_; clear hA156 a155
    refine st hA158 (op_assign rfl (hA158.ev rfl)) rfl rfl (by decide) fun a159 hA160 => ?_; clear hA158 a157
    refine wl_nil ?_
    refine then_n ?_
    refine c_ret ?_
    refine fin_run hA160 (.inl rfl) (run_results1 hA160 rfl (.tmp rfl)) ?_
    exact ⟨congrArg Value.bool (by unfold thinB; first | (rw [all_yes (fun i hi => hn i (by omega)), Bool.true_and]; (rw [Bool.eq_iff_iff]; (try simp only [Bool.true_and, Bool.false_and, Bool.and_true, Bool.and_false, Bool.false_or, Bool.true_or, Bool.or_false, Bool.or_true, true_and, and_true, false_and, and_false, false_or, or_false, true_or, or_true, Bool.and_eq_true, Bool.or_eq_true, Bool.not_eq_true', decide_eq_true_eq, decide_eq_false_iff_not, Bool.false_eq_true, Bool.true_eq_false, Bool.not_true, Bool.not_false, eq_self_iff_true, true_iff, false_iff, iff_true, iff_false, not_true, not_false_eq_true]); omega)) | (rw [all_no (k := k) (by omega) (decide_eq_false (by omega)), Bool.false_and])), hS14.ext⟩
   ·skip
    rw [decide_eq_false hb150] at hA149
    refine skp hA149 rfl rfl rfl rfl rfl (by decide) fun a161 hA162 => ?_; clear hA149 a148
    refine skp hA162 rfl rfl rfl rfl rfl (by decide) fun a163 hA164 => ?_; clear hA162 a161
    refine skp hA164 rfl rfl rfl rfl rfl (by decide) fun a165 hA166 => ?_; clear hA164 a163
    refine st hA166 (op_pick_f rfl (hA166.ev rfl) (evc _ _)) rfl rfl (by decide) fun a167 hA168 => ?_; clear hA166 a165
    refine st hA168 (op_assign rfl (hA168.ev rfl)) rfl rfl (by decide) fun a169 hA170 => ?_; clear hA168 a167
    refine wl_nil ?_
    refine then_n ?_
    refine c_ret ?_
    refine fin_run hA170 (.inl rfl) (run_results1 hA170 rfl (.tmp rfl)) ?_
    exact ⟨congrArg Value.bool (by unfold thinB; first | (rw [all_yes (fun i hi => hn i (by omega)), Bool.true_and]; (rw [Bool.eq_iff_iff]; (try simp only [Bool.true_and, Bool.false_and, Bool.and_true, Bool.and_false, Bool.false_or, Bool.true_or, Bool.or_false, Bool.or_true, true_and, and_true, false_and, and_false, false_or, or_false, true_or, or_true, Bool.and_eq_true, Bool.or_eq_true, Bool.not_eq_true', decide_eq_true_eq, decide_eq_false_iff_not, Bool.false_eq_true, Bool.true_eq_false, Bool.not_true, Bool.not_false, eq_self_iff_true, true_iff, false_iff, iff_true, iff_false, not_true, not_false_eq_true]); omega)) | (rw [all_no (k := k) (by omega) (decide_eq_false (by omega)), Bool.false_and])), hS14.ext⟩
  ·skip
   rw [decide_eq_false hb139] at hA138
   refine skp hA138 rfl rfl rfl rfl rfl (by decide) fun a171 hA172 => ?_; clear hA138 a137
   refine skp hA172 rfl rfl rfl rfl rfl (by decide) fun a173 hA174 => ?_; clear hA172 a171
   refine skp hA174 rfl rfl rfl rfl rfl (by decide) fun a175 hA176 => ?_; clear hA174 a173
   refine st hA176 (op_pick_f rfl (hA176.ev rfl) (evc _ _)) rfl rfl (by decide) fun a177 hA178 => ?_; clear hA176 a175
   refine st hA178 (op_move rfl (hA178.ev rfl)) rfl rfl (by decide) fun a179 hA180 => ?_; clear hA178 a177
   refine skp hA180 rfl rfl rfl rfl rfl (by decide) fun a181 hA182 => ?_; clear hA180 a179
   refine skp hA182 rfl rfl rfl rfl rfl (by decide) fun a183 hA184 => ?_; clear hA182 a181
   refine skp hA184 rfl rfl rfl rfl rfl (by decide) fun a185 hA186 => ?_; clear hA184 a183
   refine st hA186 (op_pick_f rfl (hA186.ev rfl) (evc _ _)) rfl rfl (by decide) fun a187 hA188 => ?_; clear hA186 a185
   refine st hA188 (op_assign rfl (hA188.ev rfl)) rfl rfl (by decide) fun a189 hA190 => ?_; clear hA188 a187
   refine wl_nil ?_
   refine then_n ?_
   refine c_ret ?_
   refine fin_run hA190 (.inl rfl) (run_results1 hA190 rfl (.tmp rfl)) ?_
   exact ⟨congrArg Value.bool (by unfold thinB; first | (rw [all_yes (fun i hi => hn i (by omega)), Bool.true_and]; (rw [Bool.eq_iff_iff]; (try simp only [Bool.true_and, Bool.false_and, Bool.and_true, Bool.and_false, Bool.false_or, Bool.true_or, Bool.or_false, Bool.or_true, true_and, and_true, false_and, and_false, false_or, or_false, true_or, or_true, Bool.and_eq_true, Bool.or_eq_true, Bool.not_eq_true', decide_eq_true_eq, decide_eq_false_iff_not, Bool.false_eq_true, Bool.true_eq_false, Bool.not_true, Bool.not_false, eq_self_iff_true, true_iff, false_iff, iff_true, iff_false, not_true, not_false_eq_true]); omega)) | (rw [all_no (k := k) (by omega) (decide_eq_false (by omega)), Bool.false_and])), hS14.ext⟩
set_option maxHeartbeats 1000000 in
theorem IsSegment_ok (w : World) (R : List (Int × Int)) (vr : Value) (hm : SlAt w vr 2 R.length (pairs R)) (x1 x2 x3 : Int) (hlen : R.length ≤ 1000000) :
  Calls Try.prog 62 #[(Value.agg #[vr]), (Value.agg #[(Value.int .i64 x1), (Value.int .i64 x2), (Value.int .i64 x3)])] w (Ret fun v w' => v = .bool (segB R.length (x1, x2, x3)) ∧ Ext NoB w w') := by
 refine calls_enter Try.func62 rfl fun a0 hA0 => ?_
 replace hA0 : Fr 27 [] [(0, (Value.agg #[vr])), (1, (Value.agg #[(Value.int .i64 x1), (Value.int .i64 x2), (Value.int .i64 x3)]))] a0 := hA0
 have hS0 : Sep NoB w w [(sl vr 2 R.length (pairs R))] := sep_ro ⟨rfl, hm, trivial⟩
 refine c_seq ?_
 refine c_region ?_
 refine stw hA0 (op_box hS0 rfl (hA0.ev rfl) (cs := [vr]) rfl) rfl rfl (by decide) ?_
 rintro a1 _ w3 ⟨b4, rfl, hS5⟩ hA2; clear hA0 hS0 a0
 refine stw hA2 (op_box hS5 rfl (hA2.ev rfl) (cs := [(Value.int .i64 x1), (Value.int .i64 x2), (Value.int .i64 x3)]) rfl) rfl rfl (by decide) ?_
 rintro a6 _ w8 ⟨b9, rfl, hS10⟩ hA7; clear hA2 hS5 a1
 refine st hA7 (op_assign rfl (evc _ _)) rfl rfl (by decide) fun a11 hA12 => ?_; clear hA7 a6
 refine wl_nil ?_
 refine then_n ?_
 refine c_seq ?_
 refine c_region ?_
 refine st hA12 (op_field rfl fd_56_0 (hA12.ev rfl)) rfl rfl (by decide) fun a13 hA14 => ?_; clear hA12 a11
 refine st hA14 (op_load1 rfl ty_3 (hA14.ev rfl) (hS10.bk 0 rfl) rfl) rfl rfl (by decide) fun a15 hA16 => ?_; clear hA14 a13
 refine st hA16 (op_field rfl fd_24_0 (hA16.ev rfl)) rfl rfl (by decide) fun a17 hA18 => ?_; clear hA16 a15
 refine st hA18 (op_load1 rfl ty_22 (hA18.ev rfl) (hS10.bk 1 rfl) rfl) rfl rfl (by decide) fun a19 hA20 => ?_; clear hA18 a17
 refine st hA20 (op_lenS rfl un_22 (hA20.ev rfl) (hS10.sk 2 rfl)) rfl rfl (by decide) fun a21 hA22 => ?_; clear hA20 a19
 refine st hA22 (op_sub rfl (hA22.ev rfl) (evc _ _) (by omega) (by omega)) rfl rfl (by decide) fun a23 hA24 => ?_; clear hA22 a21
 refine stw hA24 (op_call rfl en_24 (ev3 (hA24.ev rfl) (evc _ _) (hA24.ev rfl)) (In_ok _ _ _ _)) rfl rfl (by decide) ?_
 rintro a25 _ W_ ⟨rfl, hW_⟩ hA26; have hW2_ := hW_.symm; subst hW2_; clear hW_ hA24 a23
 refine st hA26 (op_move rfl (hA26.ev rfl)) rfl rfl (by decide) fun a28 hA29 => ?_; clear hA26 a25
 rcases Bool.eq_false_or_eq_true ((decide (0 ≤ x1) && decide (x1 ≤ ((R.length : Int) - 1)))) with hb30 | hb30
 ·skip
  rw [hb30] at hA29
  have hq31 := hb30; simp only [Bool.and_eq_true, Bool.and_eq_false_iff, decide_eq_true_eq, decide_eq_false_iff_not] at hq31
  refine stg hA29 (op_field rfl fd_56_1 (hA29.ev rfl)) rfl rfl rfl rfl (by decide) fun a32 hA33 => ?_; clear hA29 a28
  refine stg hA33 (op_field rfl fd_48_0 (hA33.ev rfl)) rfl rfl rfl rfl (by decide) fun a34 hA35 => ?_; clear hA33 a32
  refine stg hA35 (op_load1 rfl ty_3 (hA35.ev rfl) (hS10.bk 0 rfl) rfl) rfl rfl rfl rfl (by decide) fun a36 hA37 => ?_; clear hA35 a34
  refine stg hA37 (op_field rfl fd_56_1 (hA37.ev rfl)) rfl rfl rfl rfl (by decide) fun a38 hA39 => ?_; clear hA37 a36
  refine stg hA39 (op_field rfl fd_48_1 (hA39.ev rfl)) rfl rfl rfl rfl (by decide) fun a40 hA41 => ?_; clear hA39 a38
  refine stg hA41 (op_load1 rfl ty_3 (hA41.ev rfl) (hS10.bk 0 rfl) rfl) rfl rfl rfl rfl (by decide) fun a42 hA43 => ?_; clear hA41 a40
  refine stwg hA43 (op_call rfl en_24 (ev3 (hA43.ev rfl) (evc _ _) (hA43.ev rfl)) (In_ok _ _ _ _)) rfl rfl rfl rfl (by decide) ?_
  rintro a44 _ W_ ⟨rfl, hW_⟩ hA45; have hW2_ := hW_.symm; subst hW2_; clear hW_ hA43 a42
  refine st hA45 (op_pick_t rfl (hA45.ev rfl) (hA45.ev rfl)) rfl rfl (by decide) fun a47 hA48 => ?_; clear hA45 a44
  refine st hA48 (op_move rfl (hA48.ev rfl)) rfl rfl (by decide) fun a49 hA50 => ?_; clear hA48 a47
  rcases Bool.eq_false_or_eq_true ((decide (0 ≤ x2) && decide (x2 ≤ x3))) with hb51 | hb51
  ·skip
   rw [hb51] at hA50
   have hq52 := hb51; simp only [Bool.and_eq_true, Bool.and_eq_false_iff, decide_eq_true_eq, decide_eq_false_iff_not] at hq52
   refine stg hA50 (op_field rfl fd_56_1 (hA50.ev rfl)) rfl rfl rfl rfl (by decide) fun a53 hA54 => ?_; clear hA50 a49
   refine stg hA54 (op_field rfl fd_48_1 (hA54.ev rfl)) rfl rfl rfl rfl (by decide) fun a55 hA56 => ?_; clear hA54 a53
   refine stg hA56 (op_load1 rfl ty_3 (hA56.ev rfl) (hS10.bk 0 rfl) rfl) rfl rfl rfl rfl (by decide) fun a57 hA58 => ?_; clear hA56 a55
   refine stg hA58 (op_leq rfl (hA58.ev rfl) (evc _ _)) rfl rfl rfl rfl (by decide) fun a59 hA60 => ?_; clear hA58 a57
   refine st hA60 (op_pick_t rfl (hA60.ev rfl) (hA60.ev rfl)) rfl rfl (by decide) fun a61 hA62 => ?_; clear hA60 a59
   refine st hA62 (op_assign rfl (hA62.ev rfl)) rfl rfl (by decide) fun a63 hA64 => ?_; clear hA62 a61
   refine wl_nil ?_
   refine then_n ?_
   refine c_ret ?_
   refine fin_run hA64 (.inl rfl) (run_results1 hA64 rfl (.tmp rfl)) ?_
   exact ⟨congrArg Value.bool (by unfold segB uptoB; simp [*]), hS10.ext⟩
  ·skip
   rw [hb51] at hA50
   have hq65 := hb51; simp only [Bool.and_eq_true, Bool.and_eq_false_iff, decide_eq_true_eq, decide_eq_false_iff_not] at hq65
   refine skp hA50 rfl rfl rfl rfl rfl (by decide) fun a66 hA67 => ?_; clear hA50 a49
   refine skp hA67 rfl rfl rfl rfl rfl (by decide) fun a68 hA69 => ?_; clear hA67 a66
   refine skp hA69 rfl rfl rfl rfl rfl (by decide) fun a70 hA71 => ?_; clear hA69 a68
   refine skp hA71 rfl rfl rfl rfl rfl (by decide) fun a72 hA73 => ?_; clear hA71 a70
   refine st hA73 (op_pick_f rfl (hA73.ev rfl) (evc _ _)) rfl rfl (by decide) fun a74 hA75 => ?_; clear hA73 a72
   refine st hA75 (op_assign rfl (hA75.ev rfl)) rfl rfl (by decide) fun a76 hA77 => ?_; clear hA75 a74
   refine wl_nil ?_
   refine then_n ?_
   refine c_ret ?_
   refine fin_run hA77 (.inl rfl) (run_results1 hA77 rfl (.tmp rfl)) ?_
   exact ⟨congrArg Value.bool (by unfold segB uptoB; simp [*]), hS10.ext⟩
 ·skip
  rw [hb30] at hA29
  have hq78 := hb30; simp only [Bool.and_eq_true, Bool.and_eq_false_iff, decide_eq_true_eq, decide_eq_false_iff_not] at hq78
  refine skp hA29 rfl rfl rfl rfl rfl (by decide) fun a79 hA80 => ?_; clear hA29 a28
  refine skp hA80 rfl rfl rfl rfl rfl (by decide) fun a81 hA82 => ?_; clear hA80 a79
  refine skp hA82 rfl rfl rfl rfl rfl (by decide) fun a83 hA84 => ?_; clear hA82 a81
  refine skp hA84 rfl rfl rfl rfl rfl (by decide) fun a85 hA86 => ?_; clear hA84 a83
  refine skp hA86 rfl rfl rfl rfl rfl (by decide) fun a87 hA88 => ?_; clear hA86 a85
  refine skp hA88 rfl rfl rfl rfl rfl (by decide) fun a89 hA90 => ?_; clear hA88 a87
  refine skp hA90 rfl rfl rfl rfl rfl (by decide) fun a91 hA92 => ?_; clear hA90 a89
  refine st hA92 (op_pick_f rfl (hA92.ev rfl) (evc _ _)) rfl rfl (by decide) fun a93 hA94 => ?_; clear hA92 a91
  refine st hA94 (op_move rfl (hA94.ev rfl)) rfl rfl (by decide) fun a95 hA96 => ?_; clear hA94 a93
  refine skp hA96 rfl rfl rfl rfl rfl (by decide) fun a97 hA98 => ?_; clear hA96 a95
  refine skp hA98 rfl rfl rfl rfl rfl (by decide) fun a99 hA100 => ?_; clear hA98 a97
  refine skp hA100 rfl rfl rfl rfl rfl (by decide) fun a101 hA102 => ?_; clear hA100 a99
  refine skp hA102 rfl rfl rfl rfl rfl (by decide) fun a103 hA104 => ?_; clear hA102 a101
  refine st hA104 (op_pick_f rfl (hA104.ev rfl) (evc _ _)) rfl rfl (by decide) fun a105 hA106 => ?_; clear hA104 a103
  refine st hA106 (op_assign rfl (hA106.ev rfl)) rfl rfl (by decide) fun a107 hA108 => ?_; clear hA106 a105
  refine wl_nil ?_
  refine then_n ?_
  refine c_ret ?_
  refine fin_run hA108 (.inl rfl) (run_results1 hA108 rfl (.tmp rfl)) ?_
  exact ⟨congrArg Value.bool (by unfold segB uptoB; simp [*]), hS10.ext⟩
set_option maxHeartbeats 1000000 in
theorem MaterialFault_ok (w : World) (R : List (Int × Int)) (vr : Value) (hm : SlAt w vr 2 R.length (pairs R)) :
  Calls Try.prog 40 #[(Value.agg #[vr])] w (Ret fun v w' => v = .int .i64 (checkF R) ∧ Ext NoB w w') := by
 refine calls_enter Try.func40 rfl fun a0 hA0 => ?_
 replace hA0 : Fr 50 [] [(0, (Value.agg #[vr]))] a0 := hA0
 have hS0 : Sep NoB w w [(sl vr 2 R.length (pairs R))] := sep_ro ⟨rfl, hm, trivial⟩
 refine c_seq ?_
 refine c_region ?_
 refine stw hA0 (op_box hS0 rfl (hA0.ev rfl) (cs := [vr]) rfl) rfl rfl (by decide) ?_
 rintro a1 _ w3 ⟨b4, rfl, hS5⟩ hA2; clear hA0 hS0 a0
 refine st hA2 (op_assign rfl (evc _ _)) rfl rfl (by decide) fun a6 hA7 => ?_; clear hA2 a1
 refine wl_nil ?_
 refine then_n ?_
 refine c_seq ?_
 refine c_seq ?_
 refine c_region ?_
 refine st hA7 (op_field rfl fd_24_0 (hA7.ev rfl)) rfl rfl (by decide) fun a8 hA9 => ?_; clear hA7 a6
 refine st hA9 (op_load1 rfl ty_22 (hA9.ev rfl) (hS5.bk 0 rfl) rfl) rfl rfl (by decide) fun a10 hA11 => ?_; clear hA9 a8
 refine st hA11 (op_lenS rfl un_22 (hA11.ev rfl) (hS5.sk 1 rfl)) rfl rfl (by decide) fun a12 hA13 => ?_; clear hA11 a10
 refine stw hA13 (op_call rfl en_24 (ev3 (hA13.ev rfl) (evc _ _) (evc _ _)) (In_ok _ _ _ _)) rfl rfl (by decide) ?_
 rintro a14 _ W_ ⟨rfl, hW_⟩ hA15; have hW2_ := hW_.symm; subst hW2_; clear hW_ hA13 a12
 refine st hA15 (op_not rfl (hA15.ev rfl)) rfl rfl (by decide) fun a17 hA18 => ?_; clear hA15 a14
 refine wl_nil ?_
 refine then_n ?_
 rcases Bool.eq_false_or_eq_true ((decide (1 ≤ (R.length : Int)) && decide ((R.length : Int) ≤ 3))) with hb19 | hb19
 ·skip
  rw [hb19] at hA18
  have hq20 := hb19; simp only [Bool.and_eq_true, Bool.and_eq_false_iff, decide_eq_true_eq, decide_eq_false_iff_not] at hq20
  refine c_false hA18 rfl ?_
  refine c_skip ?_
  refine then_n ?_
  refine c_seq ?_
  have hA21 := hA18.as [(1, (bptr b4 0))] rfl; clear hA18
  refine c_region ?_
  refine st hA21 (op_assign rfl (evc _ _)) rfl rfl (by decide) fun a22 hA23 => ?_; clear hA21 a17
  refine wl_nil ?_
  refine then_n ?_
  refine c_seq ?_
  refine c_seq ?_
  refine c_region ?_
  refine st hA23 (op_assign rfl (evc _ _)) rfl rfl (by decide) fun a24 hA25 => ?_; clear hA23 a22
  refine wl_nil ?_
  refine then_n ?_
  refine c_block ?_
  have hA26 := hA25.as [(4, (Value.int .i64 0)), (3, (Value.int .i64 0)), (1, (bptr b4 0))] rfl; clear hA25
  refine c_loop (G := Nat) (fun (k : Nat) a_ w_ => Fr 50 [] [(4, (Value.int .i64 (k : Int))), (3, (Value.int .i64 (leastU R k))), (1, (bptr b4 0))] a_ ∧ Sep NoB w w_ [(blk b4 24 [vr]), (sl vr 2 R.length (pairs R))] ∧ (k ≤ R.length) ∧ (1 ≤ R.length ∧ R.length ≤ 3) ∧ (∀ i, i < k → rateB (R.getD i (0, 0)) = true) ∧ (∀ i, i < k → leastU R (i + 1) ≤ (R.getD i (0, 0)).2)) (fun k => R.length - k) 0 ⟨hA26.as _ rfl, hS5, by omega, by omega, (fun _ h => absurd h (Nat.not_lt_zero _)), (fun _ h => absurd h (Nat.not_lt_zero _))⟩ ?_
  clear hA26 hS5 a24
  rintro k a27 w29 ⟨hA28, hS30, hkk, hn3, hr, hle⟩
  refine c_seq ?_
  refine c_seq ?_
  refine c_region ?_
  refine st hA28 (op_move rfl (hA28.ev rfl)) rfl rfl (by decide) fun a31 hA32 => ?_; clear hA28 a27
  refine st hA32 (op_field rfl fd_24_0 (hA32.ev rfl)) rfl rfl (by decide) fun a33 hA34 => ?_; clear hA32 a31
  refine st hA34 (op_load1 rfl ty_22 (hA34.ev rfl) (hS30.bk 0 rfl) rfl) rfl rfl (by decide) fun a35 hA36 => ?_; clear hA34 a33
  refine st hA36 (op_lenS rfl un_22 (hA36.ev rfl) (hS30.sk 1 rfl)) rfl rfl (by decide) fun a37 hA38 => ?_; clear hA36 a35
  refine st hA38 (op_lss rfl (hA38.ev rfl) (hA38.ev rfl)) rfl rfl (by decide) fun a39 hA40 => ?_; clear hA38 a37
  refine wl_nil ?_
  refine then_n ?_
  by_cases hb41 : (k : Int) < (R.length : Int)
  ·skip
   rw [decide_eq_true hb41] at hA40
   refine c_true hA40 rfl ?_
   refine c_skip ?_
   refine then_n ?_
   refine c_seq ?_
   refine c_block ?_
   refine c_seq ?_
   refine c_region ?_
   refine st hA40 (op_field rfl fd_24_0 (hA40.ev rfl)) rfl rfl (by decide) fun a42 hA43 => ?_; clear hA40 a39
   refine st hA43 (op_load1 rfl ty_22 (hA43.ev rfl) (hS30.bk 0 rfl) rfl) rfl rfl (by decide) fun a44 hA45 => ?_; clear hA43 a42
   refine st hA45 (op_move rfl (hA45.ev rfl)) rfl rfl (by decide) fun a46 hA47 => ?_; clear hA45 a44
   refine st hA47 (op_indexS rfl un_22 ty_48 (hA47.ev rfl) (i := k) (hA47.ev rfl) (hS30.sk 1 rfl) (by decide) (by omega)) rfl rfl (by decide) fun a48 hA49 => ?_; clear hA47 a46
   refine st hA49 (op_loadAE rfl ty_48 (hA49.ev rfl) (hS30.sk 1 rfl) (pairs_all (by omega)) rfl (by decide)) rfl rfl (by decide) fun a50 hA51 => ?_; clear hA49 a48
   refine stw hA51 (op_alloc hS30 rfl ze_48 (cs := [(Value.int .i64 0), (Value.int .i64 0)]) rfl) rfl rfl (by decide) ?_
   rintro a52 _ w54 ⟨b55, rfl, hS56⟩ hA53; clear hA51 hS30 a50
   refine sts hA53 (op_store hS56 rfl ty_48 (hA53.ev rfl) (hA53.ev rfl) (i := 0) rfl (vs := [(Value.int .i64 ((R.getD k (0, 0)).1)), (Value.int .i64 ((R.getD k (0, 0)).2))]) rfl rfl rfl (Nat.le_of_ble_eq_true rfl)) rfl rfl ?_
   intro _ w57 hS58 hA59; clear hA53
   have hS60 : Sep NoB w w57 [(blk b55 48 [(Value.int .i64 ((R.getD k (0, 0)).1)), (Value.int .i64 ((R.getD k (0, 0)).2))]), (blk b4 24 [vr]), (sl vr 2 R.length (pairs R))] := hS58; clear hS58 hS56
   refine wl_nil ?_
   refine then_n ?_
   refine c_seq ?_
   refine c_seq ?_
   have hA61 := hA59.as [(5, (bptr b55 0)), (4, (Value.int .i64 (k : Int))), (3, (Value.int .i64 (leastU R k))), (1, (bptr b4 0))] rfl; clear hA59
   refine c_region ?_
   refine st hA61 (op_field rfl fd_48_0 (hA61.ev rfl)) rfl rfl (by decide) fun a62 hA63 => ?_; clear hA61 a52
   refine st hA63 (op_load1 rfl ty_3 (hA63.ev rfl) (hS60.bk 0 rfl) rfl) rfl rfl (by decide) fun a64 hA65 => ?_; clear hA63 a62
   refine st hA65 (op_field rfl fd_48_1 (hA65.ev rfl)) rfl rfl (by decide) fun a66 hA67 => ?_; clear hA65 a64
   refine st hA67 (op_load1 rfl ty_3 (hA67.ev rfl) (hS60.bk 0 rfl) rfl) rfl rfl (by decide) fun a68 hA69 => ?_; clear hA67 a66
   refine stw hA69 (op_call rfl en_24 (ev3 (hA69.ev rfl) (evc _ _) (hA69.ev rfl)) (In_ok _ _ _ _)) rfl rfl (by decide) ?_
   rintro a70 _ W_ ⟨rfl, hW_⟩ hA71; have hW2_ := hW_.symm; subst hW2_; clear hW_ hA69 a68
   refine st hA71 (op_not rfl (hA71.ev rfl)) rfl rfl (by decide) fun a73 hA74 => ?_; clear hA71 a70
   refine st hA74 (op_move rfl (hA74.ev rfl)) rfl rfl (by decide) fun a75 hA76 => ?_; clear hA74 a73
   rcases Bool.eq_false_or_eq_true ((decide (0 ≤ ((R.getD k (0, 0)).1)) && decide (((R.getD k (0, 0)).1) ≤ ((R.getD k (0, 0)).2)))) with hb77 | hb77
   ·skip
    rw [hb77] at hA76
    have hq78 := hb77; simp only [Bool.and_eq_true, Bool.and_eq_false_iff, decide_eq_true_eq, decide_eq_false_iff_not] at hq78
    refine stg hA76 (op_field rfl fd_48_1 (hA76.ev rfl)) rfl rfl rfl rfl (by decide) fun a79 hA80 => ?_; clear hA76 a75
    refine stg hA80 (op_load1 rfl ty_3 (hA80.ev rfl) (hS60.bk 0 rfl) rfl) rfl rfl rfl rfl (by decide) fun a81 hA82 => ?_; clear hA80 a79
    refine stg hA82 (op_gtr rfl (hA82.ev rfl) (evc _ _)) rfl rfl rfl rfl (by decide) fun a83 hA84 => ?_; clear hA82 a81
    refine st hA84 (op_pick_f rfl (hA84.ev rfl) (hA84.ev rfl)) rfl rfl (by decide) fun a85 hA86 => ?_; clear hA84 a83
    refine st hA86 (op_move rfl (hA86.ev rfl)) rfl rfl (by decide) fun a87 hA88 => ?_; clear hA86 a85
    by_cases hb89 : 1000 < ((R.getD k (0, 0)).2)
    ·skip
     rw [decide_eq_true hb89] at hA88
     refine skp hA88 rfl rfl rfl rfl rfl (by decide) fun a90 hA91 => ?_; clear hA88 a87
     refine skp hA91 rfl rfl rfl rfl rfl (by decide) fun a92 hA93 => ?_; clear hA91 a90
     refine skp hA93 rfl rfl rfl rfl rfl (by decide) fun a94 hA95 => ?_; clear hA93 a92
     refine skp hA95 rfl rfl rfl rfl rfl (by decide) fun a96 hA97 => ?_; clear hA95 a94
     refine skp hA97 rfl rfl rfl rfl rfl (by decide) fun a98 hA99 => ?_; clear hA97 a96
     refine skp hA99 rfl rfl rfl rfl rfl (by decide) fun a100 hA101 => ?_; clear hA99 a98
     refine st hA101 (op_pick_t rfl (hA101.ev rfl) (evc _ _)) rfl rfl (by decide) fun a102 hA103 => ?_; clear hA101 a100
     refine wl_nil ?_
     refine then_n ?_
     refine c_true hA103 rfl ?_
     refine c_seq ?_
     have hA104 := hA103.as [] rfl; clear hA103
     refine c_region ?_
     refine st hA104 (op_assign rfl (evc _ _)) rfl rfl (by decide) fun a105 hA106 => ?_; clear hA104 a102
     refine wl_nil ?_
     refine then_n ?_
     refine c_ret ?_
     refine then_ret ?_
     refine blk_ret ?_
     refine then_ret ?_
     refine then_ret ?_
     refine blk_ret ?_
     refine then_ret ?_
     refine fin_run hA106 (.inl rfl) (run_results1 hA106 rfl (.tmp rfl)) ?_
     exact ⟨ret_int (Eq.symm (by first | exact check_n (by omega) | exact check_r (k := k) (by omega) (by unfold rateB uptoB; simp only [Bool.and_eq_false_iff, decide_eq_false_iff_not]; omega) | exact check_l (k := k) (by omega) (by simp only [leastU]; omega))), hS60.ext⟩
    ·skip
     rw [decide_eq_false hb89] at hA88
     refine stg hA88 (op_field rfl fd_48_1 (hA88.ev rfl)) rfl rfl rfl rfl (by decide) fun a107 hA108 => ?_; clear hA88 a87
     refine stg hA108 (op_load1 rfl ty_3 (hA108.ev rfl) (hS60.bk 0 rfl) rfl) rfl rfl rfl rfl (by decide) fun a109 hA110 => ?_; clear hA108 a107
     refine stg hA110 (op_field rfl fd_48_0 (hA110.ev rfl)) rfl rfl rfl rfl (by decide) fun a111 hA112 => ?_; clear hA110 a109
     refine stg hA112 (op_load1 rfl ty_3 (hA112.ev rfl) (hS60.bk 0 rfl) rfl) rfl rfl rfl rfl (by decide) fun a113 hA114 => ?_; clear hA112 a111
     refine stg hA114 (op_sub rfl (hA114.ev rfl) (hA114.ev rfl) (by omega) (by omega)) rfl rfl rfl rfl (by decide) fun a115 hA116 => ?_; clear hA114 a113
     refine stg hA116 (op_gtr rfl (hA116.ev rfl) (evc _ _)) rfl rfl rfl rfl (by decide) fun a117 hA118 => ?_; clear hA116 a115
     refine st hA118 (op_pick_f rfl (hA118.ev rfl) (hA118.ev rfl)) rfl rfl (by decide) fun a119 hA120 => ?_; clear hA118 a117
     refine wl_nil ?_
     refine then_n ?_
     by_cases hb121 : 20 < (((R.getD k (0, 0)).2) - ((R.getD k (0, 0)).1))
     ·skip
      rw [decide_eq_true hb121] at hA120
      refine c_true hA120 rfl ?_
      refine c_seq ?_
      have hA122 := hA120.as [] rfl; clear hA120
      refine c_region ?_
      refine st hA122 (op_assign rfl (evc _ _)) rfl rfl (by decide) fun a123 hA124 => ?_; clear hA122 a119
      refine wl_nil ?_
      refine then_n ?_
      refine c_ret ?_
      refine then_ret ?_
      refine blk_ret ?_
      refine then_ret ?_
      refine then_ret ?_
      refine blk_ret ?_
      refine then_ret ?_
      refine fin_run hA124 (.inl rfl) (run_results1 hA124 rfl (.tmp rfl)) ?_
      exact ⟨ret_int (Eq.symm (by first | exact check_n (by omega) | exact check_r (k := k) (by omega) (by unfold rateB uptoB; simp only [Bool.and_eq_false_iff, decide_eq_false_iff_not]; omega) | exact check_l (k := k) (by omega) (by simp only [leastU]; omega))), hS60.ext⟩
     ·skip
      rw [decide_eq_false hb121] at hA120
      refine c_false hA120 rfl ?_
      refine c_skip ?_
      refine then_n ?_
      refine c_seq ?_
      have hA125 := hA120.as [(5, (bptr b55 0)), (4, (Value.int .i64 (k : Int))), (3, (Value.int .i64 (leastU R k))), (1, (bptr b4 0))] rfl; clear hA120
      refine c_region ?_
      refine st hA125 (op_move rfl (hA125.ev rfl)) rfl rfl (by decide) fun a126 hA127 => ?_; clear hA125 a119
      refine st hA127 (op_field rfl fd_48_0 (hA127.ev rfl)) rfl rfl (by decide) fun a128 hA129 => ?_; clear hA127 a126
      refine st hA129 (op_load1 rfl ty_3 (hA129.ev rfl) (hS60.bk 0 rfl) rfl) rfl rfl (by decide) fun a130 hA131 => ?_; clear hA129 a128
      refine st hA131 (op_max rfl (hA131.ev rfl) (hA131.ev rfl)) rfl rfl (by decide) fun a132 hA133 => ?_; clear hA131 a130
      refine st hA133 (op_assign rfl (hA133.ev rfl)) rfl rfl (by decide) fun a134 hA135 => ?_; clear hA133 a132
      refine wl_nil ?_
      refine then_n ?_
      refine c_seq ?_
      refine c_region ?_
      refine st hA135 (op_move rfl (hA135.ev rfl)) rfl rfl (by decide) fun a136 hA137 => ?_; clear hA135 a134
      refine st hA137 (op_field rfl fd_48_1 (hA137.ev rfl)) rfl rfl (by decide) fun a138 hA139 => ?_; clear hA137 a136
      refine st hA139 (op_load1 rfl ty_3 (hA139.ev rfl) (hS60.bk 0 rfl) rfl) rfl rfl (by decide) fun a140 hA141 => ?_; clear hA139 a138
      refine st hA141 (op_gtr rfl (hA141.ev rfl) (hA141.ev rfl)) rfl rfl (by decide) fun a142 hA143 => ?_; clear hA141 a140
      refine wl_nil ?_
      refine then_n ?_
      by_cases hb144 : ((R.getD k (0, 0)).2) < (max (leastU R k) ((R.getD k (0, 0)).1))
      ·skip
       rw [decide_eq_true hb144] at hA143
       refine c_true hA143 rfl ?_
       refine c_seq ?_
       have hA145 := hA143.as [] rfl; clear hA143
       refine c_region ?_
       refine st hA145 (op_assign rfl (evc _ _)) rfl rfl (by decide) fun a146 hA147 => ?_; clear hA145 a142
       refine wl_nil ?_
       refine then_n ?_
       refine c_ret ?_
       refine blk_ret ?_
       refine then_ret ?_
       refine then_ret ?_
       refine blk_ret ?_
       refine then_ret ?_
       refine fin_run hA147 (.inl rfl) (run_results1 hA147 rfl (.tmp rfl)) ?_
       exact ⟨ret_int (Eq.symm (by first | exact check_n (by omega) | exact check_r (k := k) (by omega) (by unfold rateB uptoB; simp only [Bool.and_eq_false_iff, decide_eq_false_iff_not]; omega) | exact check_l (k := k) (by omega) (by simp only [leastU]; omega))), hS60.ext⟩
      ·skip
       rw [decide_eq_false hb144] at hA143
       refine c_false hA143 rfl ?_
       refine c_skip ?_
       refine blk_n ?_
       refine then_n ?_
       have hA148 := hA143.as [(3, (Value.int .i64 (max (leastU R k) ((R.getD k (0, 0)).1)))), (4, (Value.int .i64 (k : Int))), (1, (bptr b4 0))] rfl; clear hA143
       refine c_region ?_
       refine st hA148 (op_move rfl (hA148.ev rfl)) rfl rfl (by decide) fun a149 hA150 => ?_; clear hA148 a142
       refine st hA150 (op_add rfl (hA150.ev rfl) (evc _ _) (by omega) (by omega)) rfl rfl (by decide) fun a151 hA152 => ?_; clear hA150 a149
       refine st hA152 (op_assign rfl (hA152.ev rfl)) rfl rfl (by decide) fun a153 hA154 => ?_; clear hA152 a151
       refine wl_nil ?_
       have hS155 : Sep NoB w w57 [(blk b4 24 [vr]), (sl vr 2 R.length (pairs R))] := hS60.keep [1, 2] (by decide) _ rfl rfl; clear hS60
       exact then_n ⟨k + 1, ⟨hA154.as _ rfl, hS155, by omega, hn3, (fun i hi => by rcases Nat.lt_succ_iff_lt_or_eq.1 hi with h | h; exact hr i h; subst h; unfold rateB uptoB; simp only [Bool.and_eq_true, decide_eq_true_eq]; omega), (fun i hi => by rcases Nat.lt_succ_iff_lt_or_eq.1 hi with h | h; exact hle i h; subst h; simp only [leastU]; omega)⟩, by omega⟩
   ·skip
    rw [hb77] at hA76
    have hq156 := hb77; simp only [Bool.and_eq_true, Bool.and_eq_false_iff, decide_eq_true_eq, decide_eq_false_iff_not] at hq156
    refine skp hA76 rfl rfl rfl rfl rfl (by decide) fun a157 hA158 => ?_; clear hA76 a75
    refine skp hA158 rfl rfl rfl rfl rfl (by decide) fun a159 hA160 => ?_; clear hA158 a157
    refine skp hA160 rfl rfl rfl rfl rfl (by decide) fun a161 hA162 => ?_; clear hA160 a159
    refine st hA162 (op_pick_t rfl (hA162.ev rfl) (evc _ _)) rfl rfl (by decide) fun a163 hA164 => ?_; clear hA162 a161
    refine st hA164 (op_move rfl (hA164.ev rfl)) rfl rfl (by decide) fun a165 hA166 => ?_; clear hA164 a163
    refine skp hA166 rfl rfl rfl rfl rfl (by decide) fun a167 hA168 => ?_; clear hA166 a165
    refine skp hA168 rfl rfl rfl rfl rfl (by decide) fun a169 hA170 => ?_; clear hA168 a167
    refine skp hA170 rfl rfl rfl rfl rfl (by decide) fun a171 hA172 => ?_; clear hA170 a169
    refine skp hA172 rfl rfl rfl rfl rfl (by decide) fun a173 hA174 => ?_; clear hA172 a171
    refine skp hA174 rfl rfl rfl rfl rfl (by decide) fun a175 hA176 => ?_; clear hA174 a173
    refine skp hA176 rfl rfl rfl rfl rfl (by decide) fun a177 hA178 => ?_; clear hA176 a175
    refine st hA178 (op_pick_t rfl (hA178.ev rfl) (evc _ _)) rfl rfl (by decide) fun a179 hA180 => ?_; clear hA178 a177
    refine wl_nil ?_
    refine then_n ?_
    refine c_true hA180 rfl ?_
    refine c_seq ?_
    have hA181 := hA180.as [] rfl; clear hA180
    refine c_region ?_
    refine st hA181 (op_assign rfl (evc _ _)) rfl rfl (by decide) fun a182 hA183 => ?_; clear hA181 a179
    refine wl_nil ?_
    refine then_n ?_
    refine c_ret ?_
    refine then_ret ?_
    refine blk_ret ?_
    refine then_ret ?_
    refine then_ret ?_
    refine blk_ret ?_
    refine then_ret ?_
    refine fin_run hA183 (.inl rfl) (run_results1 hA183 rfl (.tmp rfl)) ?_
    exact ⟨ret_int (Eq.symm (by first | exact check_n (by omega) | exact check_r (k := k) (by omega) (by unfold rateB uptoB; simp only [Bool.and_eq_false_iff, decide_eq_false_iff_not]; omega) | exact check_l (k := k) (by omega) (by simp only [leastU]; omega))), hS60.ext⟩
  ·skip
   rw [decide_eq_false hb41] at hA40
   refine c_false hA40 rfl ?_
   refine c_exit ?_
   refine then_exit ?_
   refine then_exit ?_
   refine blk_hit ?_
   refine then_n ?_
   refine c_seq ?_
   have hA184 := hA40.as [] rfl; clear hA40
   refine c_region ?_
   refine st hA184 (op_assign rfl (evc _ _)) rfl rfl (by decide) fun a185 hA186 => ?_; clear hA184 a39
   refine wl_nil ?_
   refine then_n ?_
   refine c_ret ?_
   refine fin_run hA186 (.inl rfl) (run_results1 hA186 rfl (.tmp rfl)) ?_
   exact ⟨ret_int (Eq.symm (check_yes (by omega) (fun i hi => hr i (by omega)) (fun i hi => hle i (by omega)))), hS30.ext⟩
 ·skip
  rw [hb19] at hA18
  have hq187 := hb19; simp only [Bool.and_eq_true, Bool.and_eq_false_iff, decide_eq_true_eq, decide_eq_false_iff_not] at hq187
  refine c_true hA18 rfl ?_
  refine c_seq ?_
  have hA188 := hA18.as [] rfl; clear hA18
  refine c_region ?_
  refine st hA188 (op_assign rfl (evc _ _)) rfl rfl (by decide) fun a189 hA190 => ?_; clear hA188 a17
  refine wl_nil ?_
  refine then_n ?_
  refine c_ret ?_
  refine then_ret ?_
  refine fin_run hA190 (.inl rfl) (run_results1 hA190 rfl (.tmp rfl)) ?_
  exact ⟨ret_int (Eq.symm (by first | exact check_n (by omega) | exact check_r (k := k) (by omega) (by unfold rateB uptoB; simp only [Bool.and_eq_false_iff, decide_eq_false_iff_not]; omega) | exact check_l (k := k) (by omega) (by simp only [leastU]; omega))), hS5.ext⟩
end Go.Proofs.Ytkkglkdnnfegkaa

namespace Go.Proofs.Ytkkglkdnnfegkaa
open Go.RowKit Go.Shelf Go.Eng
theorem ty_24 : tyK Try.prog 24 = some (true, 1) := by kernel_rfl
theorem en_40 : ∀ args w, (callFunc 40 args).run Try.prog w = .ok (.enter 40 args) w := enters_of Try.func40 (by kernel_rfl) rfl
theorem fd_54_1 : fldK Try.prog 54 1 = some 1 := by kernel_rfl
theorem ty_56 : tyK Try.prog 56 = some (true, 3) := by kernel_rfl
theorem en_62 : ∀ args w, (callFunc 62 args).run Try.prog w = .ok (.enter 62 args) w := enters_of Try.func62 (by kernel_rfl) rfl
theorem en_69 : ∀ args w, (callFunc 69 args).run Try.prog w = .ok (.enter 69 args) w := enters_of Try.func69 (by kernel_rfl) rfl
theorem bd_48_0i_1i (x0_0 : Int) (x1_0 : Int) (w : World) : (Instr.build 48 #[(0, (.int .i64 x0_0)), (1, (.int .i64 x1_0))]).run Try.prog w = .ok (.agg #[(.int .i64 x0_0), (.int .i64 x1_0)]) w := by kernel_rfl
set_option maxHeartbeats 1000000 in
theorem Fault_ok (w : World) (R : List (Int × Int)) (vr : Value) (hm : SlAt w vr 2 R.length (pairs R)) (rs : List RunD) (lv : List Value) (vu : Value) (hx : RunsAt w vu lv rs) :
  Calls Try.prog 69 #[(Value.agg #[vr]), vu] w (Ret fun v w' => v = .int .i64 (enterF R rs) ∧ Ext NoB w w') := by
 refine calls_enter Try.func69 rfl fun a0 hA0 => ?_
 replace hA0 : Fr 74 [] [(0, (Value.agg #[vr])), (1, vu)] a0 := hA0
 have hS0 : Sep NoB w w [(sl vr 2 R.length (pairs R)), (runsR false vu lv rs)] := sep_ro ⟨rfl, hm, rfl, hx, trivial⟩
 refine c_seq ?_
 refine c_region ?_
 refine stw hA0 (op_box hS0 rfl (hA0.ev rfl) (cs := [vr]) rfl) rfl rfl (by decide) ?_
 rintro a1 _ w3 ⟨b4, rfl, hS5⟩ hA2; clear hA0 hS0 a0
 refine st hA2 (op_assign rfl (evc _ _)) rfl rfl (by decide) fun a6 hA7 => ?_; clear hA2 a1
 refine wl_nil ?_
 refine then_n ?_
 refine c_seq ?_
 refine c_seq ?_
 refine c_region ?_
 refine st hA7 (op_loadA rfl ty_24 (hA7.ev rfl) (hS5.bk 0 rfl) (l := [vr]) rfl rfl) rfl rfl (by decide) fun a8 hA9 => ?_; clear hA7 a6
 refine stw hA9 (op_call rfl en_40 (ev1 (hA9.ev rfl)) (MaterialFault_ok _ R _ (hS5.sk 1 rfl))) rfl rfl (by decide) ?_
 rintro a10 _ w12 ⟨rfl, hE13⟩ hA11; have hS14 := hS5.step hE13; clear hE13 hA9 hS5 a8
 refine st hA11 (op_assign rfl (hA11.ev rfl)) rfl rfl (by decide) fun a15 hA16 => ?_; clear hA11 a10
 refine wl_nil ?_
 refine then_n ?_
 refine c_seq ?_
 refine c_region ?_
 refine st hA16 (op_move rfl (hA16.ev rfl)) rfl rfl (by decide) fun a17 hA18 => ?_; clear hA16 a15
 refine st hA18 (op_neq rfl (hA18.ev rfl) (evc _ _)) rfl rfl (by decide) fun a19 hA20 => ?_; clear hA18 a17
 refine wl_nil ?_
 refine then_n ?_
 by_cases hb21 : (checkF R) = 0
 ·skip
  rw [decide_eq_true hb21] at hA20
  have hR3 := (check_mat (R := R) (by assumption)).1.1
  refine c_false hA20 rfl ?_
  refine c_skip ?_
  refine then_n ?_
  refine c_seq ?_
  refine c_seq ?_
  have hA22 := hA20.as [(2, (bptr b4 0)), (1, vu)] rfl; clear hA20
  refine c_region ?_
  refine st hA22 (op_move rfl (hA22.ev rfl)) rfl rfl (by decide) fun a23 hA24 => ?_; clear hA22 a19
  refine st hA24 (op_lenS rfl un_25 (hA24.ev rfl) (runs_at (hS14.ok 2 _ rfl)).runs) rfl rfl (by decide) fun a25 hA26 => ?_; clear hA24 a23
  refine st hA26 (op_gtr rfl (hA26.ev rfl) (evc _ _)) rfl rfl (by decide) fun a27 hA28 => ?_; clear hA26 a25
  refine wl_nil ?_
  refine then_n ?_
  by_cases hb29 : 6 < (rs.length : Int)
  ·skip
   rw [decide_eq_true hb29] at hA28
   refine c_true hA28 rfl ?_
   refine c_seq ?_
   refine c_region ?_
   refine st hA28 (op_assign rfl (evc _ _)) rfl rfl (by decide) fun a30 hA31 => ?_; clear hA28 a27
   refine wl_nil ?_
   refine then_n ?_
   refine c_ret ?_
   refine then_ret ?_
   refine fin_run hA31 (.inl rfl) (run_results1 hA31 rfl (.tmp rfl)) ?_
   exact ⟨ret_int (Eq.symm (by first | exact enter_3a (by assumption) (by omega) | exact enter_3b (by assumption) (all_no (k := k) (by omega) (decide_eq_false (by omega))))), hS14.ext⟩
  ·skip
   rw [decide_eq_false hb29] at hA28
   refine c_false hA28 rfl ?_
   refine c_skip ?_
   refine then_n ?_
   refine c_seq ?_
   refine c_seq ?_
   refine c_region ?_
   refine st hA28 (op_assign rfl (evc _ _)) rfl rfl (by decide) fun a32 hA33 => ?_; clear hA28 a27
   refine wl_nil ?_
   refine then_n ?_
   refine c_block ?_
   have hA34 := hA33.as [(6, (Value.int .i64 0)), (2, (bptr b4 0)), (1, vu)] rfl; clear hA33
   refine c_loop (G := Nat) (fun (k : Nat) a_ w_ => Fr 74 [] [(6, (Value.int .i64 (k : Int))), (2, (bptr b4 0)), (1, vu)] a_ ∧ Sep NoB w w_ [(blk b4 24 [vr]), (sl vr 2 R.length (pairs R)), (runsR false vu lv rs)] ∧ (k ≤ rs.length) ∧ (rs.length ≤ 6) ∧ (∀ i, i < k → decide (((rs.getD i run0).segs.length : Int) ≤ 8) = true)) (fun k => rs.length - k) 0 ⟨hA34.as _ rfl, hS14, by omega, by omega, (fun _ h => absurd h (Nat.not_lt_zero _))⟩ ?_
   clear hA34 hS14 a32
   rintro k a35 w37 ⟨hA36, hS38, hkk, h6, hn⟩
   refine c_seq ?_
   refine c_seq ?_
   refine c_region ?_
   refine st hA36 (op_move rfl (hA36.ev rfl)) rfl rfl (by decide) fun a39 hA40 => ?_; clear hA36 a35
   refine st hA40 (op_move rfl (hA40.ev rfl)) rfl rfl (by decide) fun a41 hA42 => ?_; clear hA40 a39
   refine st hA42 (op_lenS rfl un_25 (hA42.ev rfl) (runs_at (hS38.ok 2 _ rfl)).runs) rfl rfl (by decide) fun a43 hA44 => ?_; clear hA42 a41
   refine st hA44 (op_lss rfl (hA44.ev rfl) (hA44.ev rfl)) rfl rfl (by decide) fun a45 hA46 => ?_; clear hA44 a43
   refine wl_nil ?_
   refine then_n ?_
   by_cases hb47 : (k : Int) < (rs.length : Int)
   ·skip
    rw [decide_eq_true hb47] at hA46
    refine c_true hA46 rfl ?_
    refine c_skip ?_
    refine then_n ?_
    refine c_seq ?_
    refine c_block ?_
    refine c_seq ?_
    refine c_region ?_
    refine st hA46 (op_move rfl (hA46.ev rfl)) rfl rfl (by decide) fun a48 hA49 => ?_; clear hA46 a45
    refine st hA49 (op_move rfl (hA49.ev rfl)) rfl rfl (by decide) fun a50 hA51 => ?_; clear hA49 a48
    refine st hA51 (op_indexS rfl un_25 ty_54 (hA51.ev rfl) (i := k) (hA51.ev rfl) (runs_at (hS38.ok 2 _ rfl)).runs (by decide) (by omega)) rfl rfl (by decide) fun a52 hA53 => ?_; clear hA51 a50
    refine st hA53 (op_fieldS rfl fd_54_0 (hA53.ev rfl) (runs_at (hS38.ok 2 _ rfl)).runs (by rw [((runs_at (hS38.ok 2 _ rfl)).runs).1]; omega)) rfl rfl (by decide) fun a54 hA55 => ?_; clear hA53 a52
    refine st hA55 (op_load1E rfl ty_51 (hA55.ev rfl) (runs_at (hS38.ok 2 _ rfl)).runs (runs_at0 (runs_at (hS38.ok 2 _ rfl)).len (by omega))) rfl rfl (by decide) fun a56 hA57 => ?_; clear hA55 a54
    refine st hA57 (op_lenS rfl un_51 (hA57.ev rfl) ((runs_at (hS38.ok 2 _ rfl)).segs k (by omega))) rfl rfl (by decide) fun a58 hA59 => ?_; clear hA57 a56
    refine st hA59 (op_gtr rfl (hA59.ev rfl) (evc _ _)) rfl rfl (by decide) fun a60 hA61 => ?_; clear hA59 a58
    refine wl_nil ?_
    refine then_n ?_
    by_cases hb62 : 8 < ((rs.getD k run0).segs.length : Int)
    ·skip
     rw [decide_eq_true hb62] at hA61
     refine c_true hA61 rfl ?_
     refine c_seq ?_
     have hA63 := hA61.as [] rfl; clear hA61
     refine c_region ?_
     refine st hA63 (op_assign rfl (evc _ _)) rfl rfl (by decide) fun a64 hA65 => ?_; clear hA63 a60
     refine wl_nil ?_
     refine then_n ?_
     refine c_ret ?_
     refine blk_ret ?_
     refine then_ret ?_
     refine then_ret ?_
     refine blk_ret ?_
     refine then_ret ?_
     refine fin_run hA65 (.inl rfl) (run_results1 hA65 rfl (.tmp rfl)) ?_
     exact ⟨ret_int (Eq.symm (by first | exact enter_3a (by assumption) (by omega) | exact enter_3b (by assumption) (all_no (k := k) (by omega) (decide_eq_false (by omega))))), hS38.ext⟩
    ·skip
     rw [decide_eq_false hb62] at hA61
     refine c_false hA61 rfl ?_
     refine c_skip ?_
     refine blk_n ?_
     refine then_n ?_
     have hA66 := hA61.as [(6, (Value.int .i64 (k : Int))), (2, (bptr b4 0)), (1, vu)] rfl; clear hA61
     refine c_region ?_
     refine st hA66 (op_move rfl (hA66.ev rfl)) rfl rfl (by decide) fun a67 hA68 => ?_; clear hA66 a60
     refine st hA68 (op_add rfl (hA68.ev rfl) (evc _ _) (by omega) (by omega)) rfl rfl (by decide) fun a69 hA70 => ?_; clear hA68 a67
     refine st hA70 (op_assign rfl (hA70.ev rfl)) rfl rfl (by decide) fun a71 hA72 => ?_; clear hA70 a69
     refine wl_nil ?_
     exact then_n ⟨k + 1, ⟨hA72.as _ rfl, hS38, by omega, h6, (fun i hi => by rcases Nat.lt_succ_iff_lt_or_eq.1 hi with h | h; exact hn i h; subst h; exact decide_eq_true (by omega))⟩, by omega⟩
   ·skip
    rw [decide_eq_false hb47] at hA46
    refine c_false hA46 rfl ?_
    refine c_exit ?_
    refine then_exit ?_
    refine then_exit ?_
    refine blk_hit ?_
    refine then_n ?_
    refine c_seq ?_
    refine c_seq ?_
    refine c_region ?_
    refine st hA46 (op_assign rfl (evc _ _)) rfl rfl (by decide) fun a73 hA74 => ?_; clear hA46 a45
    refine wl_nil ?_
    refine then_n ?_
    refine c_block ?_
    have hA75 := hA74.as [(7, (Value.int .i64 0)), (2, (bptr b4 0)), (1, vu)] rfl; clear hA74
    refine c_loop (G := Nat) (fun (k1 : Nat) a_ w_ => Fr 74 [] [(7, (Value.int .i64 (k1 : Int))), (2, (bptr b4 0)), (1, vu)] a_ ∧ Sep NoB w w_ [(blk b4 24 [vr]), (sl vr 2 R.length (pairs R)), (runsR false vu lv rs)] ∧ (k1 ≤ rs.length) ∧ (∀ i, i < k1 → runB R.length (rs.getD i run0) = true)) (fun k1 => rs.length - k1) 0 ⟨hA75.as _ rfl, hS38, by omega, (fun _ h => absurd h (Nat.not_lt_zero _))⟩ ?_
    clear hA75 hS38 a73
    rintro k1 a76 w78 ⟨hA77, hS79, hkk1, hrun⟩
    refine c_seq ?_
    refine c_seq ?_
    refine c_region ?_
    refine st hA77 (op_move rfl (hA77.ev rfl)) rfl rfl (by decide) fun a80 hA81 => ?_; clear hA77 a76
    refine st hA81 (op_move rfl (hA81.ev rfl)) rfl rfl (by decide) fun a82 hA83 => ?_; clear hA81 a80
    refine st hA83 (op_lenS rfl un_25 (hA83.ev rfl) (runs_at (hS79.ok 2 _ rfl)).runs) rfl rfl (by decide) fun a84 hA85 => ?_; clear hA83 a82
    refine st hA85 (op_lss rfl (hA85.ev rfl) (hA85.ev rfl)) rfl rfl (by decide) fun a86 hA87 => ?_; clear hA85 a84
    refine wl_nil ?_
    refine then_n ?_
    by_cases hb88 : (k1 : Int) < (rs.length : Int)
    ·skip
     rw [decide_eq_true hb88] at hA87
     have hs8 := of_decide_eq_true (hn k1 (by omega))
     refine c_true hA87 rfl ?_
     refine c_skip ?_
     refine then_n ?_
     refine c_seq ?_
     refine c_block ?_
     refine c_seq ?_
     refine c_seq ?_
     refine c_region ?_
     refine st hA87 (op_move rfl (hA87.ev rfl)) rfl rfl (by decide) fun a89 hA90 => ?_; clear hA87 a86
     refine st hA90 (op_move rfl (hA90.ev rfl)) rfl rfl (by decide) fun a91 hA92 => ?_; clear hA90 a89
     refine st hA92 (op_indexS rfl un_25 ty_54 (hA92.ev rfl) (i := k1) (hA92.ev rfl) (runs_at (hS79.ok 2 _ rfl)).runs (by decide) (by omega)) rfl rfl (by decide) fun a93 hA94 => ?_; clear hA92 a91
     refine st hA94 (op_fieldS rfl fd_54_1 (hA94.ev rfl) (runs_at (hS79.ok 2 _ rfl)).runs (by rw [((runs_at (hS79.ok 2 _ rfl)).runs).1]; omega)) rfl rfl (by decide) fun a95 hA96 => ?_; clear hA94 a93
     refine st hA96 (op_loadAE rfl ty_48 (hA96.ev rfl) (runs_at (hS79.ok 2 _ rfl)).runs (runs_sub (runs_at (hS79.ok 2 _ rfl)).len (by omega)) rfl (by decide)) rfl rfl (by decide) fun a97 hA98 => ?_; clear hA96 a95
     refine stw hA98 (op_alloc hS79 rfl ze_48 (cs := [(Value.int .i64 0), (Value.int .i64 0)]) rfl) rfl rfl (by decide) ?_
     rintro a99 _ w101 ⟨b102, rfl, hS103⟩ hA100; clear hA98 hS79 a97
     refine sts hA100 (op_store hS103 rfl ty_48 (hA100.ev rfl) (hA100.ev rfl) (i := 0) rfl (vs := [(Value.int .i64 ((rs.getD k1 run0).lo)), (Value.int .i64 ((rs.getD k1 run0).hi))]) rfl rfl rfl (Nat.le_of_ble_eq_true rfl)) rfl rfl ?_
     intro _ w104 hS105 hA106; clear hA100
     have hS107 : Sep NoB w w104 [(blk b102 48 [(Value.int .i64 ((rs.getD k1 run0).lo)), (Value.int .i64 ((rs.getD k1 run0).hi))]), (blk b4 24 [vr]), (sl vr 2 R.length (pairs R)), (runsR false vu lv rs)] := hS105; clear hS105 hS103
     refine wl_nil ?_
     refine then_n ?_
     refine c_seq ?_
     have hA108 := hA106.as [(8, (bptr b102 0)), (7, (Value.int .i64 (k1 : Int))), (2, (bptr b4 0)), (1, vu)] rfl; clear hA106
     refine c_region ?_
     refine st hA108 (op_field rfl fd_48_0 (hA108.ev rfl)) rfl rfl (by decide) fun a109 hA110 => ?_; clear hA108 a99
     refine st hA110 (op_load1 rfl ty_3 (hA110.ev rfl) (hS107.bk 0 rfl) rfl) rfl rfl (by decide) fun a111 hA112 => ?_; clear hA110 a109
     refine st hA112 (op_field rfl fd_48_1 (hA112.ev rfl)) rfl rfl (by decide) fun a113 hA114 => ?_; clear hA112 a111
     refine st hA114 (op_load1 rfl ty_3 (hA114.ev rfl) (hS107.bk 0 rfl) rfl) rfl rfl (by decide) fun a115 hA116 => ?_; clear hA114 a113
     refine stw hA116 (op_call rfl en_24 (ev3 (hA116.ev rfl) (evc _ _) (hA116.ev rfl)) (In_ok _ _ _ _)) rfl rfl (by decide) ?_
     rintro a117 _ W_ ⟨rfl, hW_⟩ hA118; have hW2_ := hW_.symm; subst hW2_; clear hW_ hA116 a115
     refine st hA118 (op_not rfl (hA118.ev rfl)) rfl rfl (by decide) fun a120 hA121 => ?_; clear hA118 a117
     refine st hA121 (op_move rfl (hA121.ev rfl)) rfl rfl (by decide) fun a122 hA123 => ?_; clear hA121 a120
     rcases Bool.eq_false_or_eq_true ((decide (0 ≤ ((rs.getD k1 run0).lo)) && decide (((rs.getD k1 run0).lo) ≤ ((rs.getD k1 run0).hi)))) with hb124 | hb124
     ·skip
      rw [hb124] at hA123
      have hq125 := hb124; simp only [Bool.and_eq_true, Bool.and_eq_false_iff, decide_eq_true_eq, decide_eq_false_iff_not] at hq125
      refine stg hA123 (op_field rfl fd_48_1 (hA123.ev rfl)) rfl rfl rfl rfl (by decide) fun a126 hA127 => ?_; clear hA123 a122
      refine stg hA127 (op_load1 rfl ty_3 (hA127.ev rfl) (hS107.bk 0 rfl) rfl) rfl rfl rfl rfl (by decide) fun a128 hA129 => ?_; clear hA127 a126
      refine stg hA129 (op_gtr rfl (hA129.ev rfl) (evc _ _)) rfl rfl rfl rfl (by decide) fun a130 hA131 => ?_; clear hA129 a128
      refine st hA131 (op_pick_f rfl (hA131.ev rfl) (hA131.ev rfl)) rfl rfl (by decide) fun a132 hA133 => ?_; clear hA131 a130
      refine wl_nil ?_
      refine then_n ?_
      by_cases hb134 : 10000000000 < ((rs.getD k1 run0).hi)
      ·skip
       rw [decide_eq_true hb134] at hA133
       refine c_true hA133 rfl ?_
       refine c_seq ?_
       have hA135 := hA133.as [] rfl; clear hA133
       refine c_region ?_
       refine st hA135 (op_assign rfl (evc _ _)) rfl rfl (by decide) fun a136 hA137 => ?_; clear hA135 a132
       refine wl_nil ?_
       refine then_n ?_
       refine c_ret ?_
       refine then_ret ?_
       refine blk_ret ?_
       refine then_ret ?_
       refine then_ret ?_
       refine blk_ret ?_
       refine then_ret ?_
       refine fin_run hA137 (.inl rfl) (run_results1 hA137 rfl (.tmp rfl)) ?_
       exact ⟨ret_int (Eq.symm (by first | exact enter_1 (by assumption) (by omega) (all_yes (fun i hi => hn i (by omega))) (all_no (k := k1) (by omega) (by unfold runB uptoB; simp only [Bool.and_eq_false_iff, decide_eq_false_iff_not]; omega)) | exact enter_1 (by assumption) (by omega) (all_yes (fun i hi => hn i (by omega))) (all_no (k := k1) (by omega) (runB_no (k := k2) (by omega) (by assumption))))), hS107.ext⟩
      ·skip
       rw [decide_eq_false hb134] at hA133
       refine c_false hA133 rfl ?_
       refine c_skip ?_
       refine then_n ?_
       refine c_seq ?_
       have hA138 := hA133.as [(7, (Value.int .i64 (k1 : Int))), (2, (bptr b4 0)), (1, vu)] rfl; clear hA133
       refine c_region ?_
       refine st hA138 (op_assign rfl (evc _ _)) rfl rfl (by decide) fun a139 hA140 => ?_; clear hA138 a132
       refine wl_nil ?_
       refine then_n ?_
       refine c_block ?_
       have hA141 := hA140.as [(9, (Value.int .i64 0)), (7, (Value.int .i64 (k1 : Int))), (2, (bptr b4 0)), (1, vu)] rfl; clear hA140
       refine c_loop (G := Nat) (fun (k2 : Nat) a_ w_ => Fr 74 [] [(9, (Value.int .i64 (k2 : Int))), (7, (Value.int .i64 (k1 : Int))), (2, (bptr b4 0)), (1, vu)] a_ ∧ Sep NoB w w_ [(blk b102 48 [(Value.int .i64 ((rs.getD k1 run0).lo)), (Value.int .i64 ((rs.getD k1 run0).hi))]), (blk b4 24 [vr]), (sl vr 2 R.length (pairs R)), (runsR false vu lv rs)] ∧ (k2 ≤ (rs.getD k1 run0).segs.length) ∧ (∀ i, i < k2 → segB R.length ((rs.getD k1 run0).segs.getD i (0, 0, 0)) = true)) (fun k2 => (rs.getD k1 run0).segs.length - k2) 0 ⟨hA141.as _ rfl, hS107, by omega, (fun _ h => absurd h (Nat.not_lt_zero _))⟩ ?_
       clear hA141 hS107 a139
       rintro k2 a142 w144 ⟨hA143, hS145, hkk2, hsg⟩
       refine c_seq ?_
       refine c_seq ?_
       refine c_region ?_
       refine st hA143 (op_move rfl (hA143.ev rfl)) rfl rfl (by decide) fun a146 hA147 => ?_; clear hA143 a142
       refine st hA147 (op_move rfl (hA147.ev rfl)) rfl rfl (by decide) fun a148 hA149 => ?_; clear hA147 a146
       refine st hA149 (op_move rfl (hA149.ev rfl)) rfl rfl (by decide) fun a150 hA151 => ?_; clear hA149 a148
       refine st hA151 (op_indexS rfl un_25 ty_54 (hA151.ev rfl) (i := k1) (hA151.ev rfl) (runs_at (hS145.ok 3 _ rfl)).runs (by decide) (by omega)) rfl rfl (by decide) fun a152 hA153 => ?_; clear hA151 a150
       refine st hA153 (op_fieldS rfl fd_54_0 (hA153.ev rfl) (runs_at (hS145.ok 3 _ rfl)).runs (by rw [((runs_at (hS145.ok 3 _ rfl)).runs).1]; omega)) rfl rfl (by decide) fun a154 hA155 => ?_; clear hA153 a152
       refine st hA155 (op_load1E rfl ty_51 (hA155.ev rfl) (runs_at (hS145.ok 3 _ rfl)).runs (runs_at0 (runs_at (hS145.ok 3 _ rfl)).len (by omega))) rfl rfl (by decide) fun a156 hA157 => ?_; clear hA155 a154
       refine st hA157 (op_lenS rfl un_51 (hA157.ev rfl) ((runs_at (hS145.ok 3 _ rfl)).segs k1 (by omega))) rfl rfl (by decide) fun a158 hA159 => ?_; clear hA157 a156
       refine st hA159 (op_lss rfl (hA159.ev rfl) (hA159.ev rfl)) rfl rfl (by decide) fun a160 hA161 => ?_; clear hA159 a158
       refine wl_nil ?_
       refine then_n ?_
       by_cases hb162 : (k2 : Int) < ((rs.getD k1 run0).segs.length : Int)
       ·skip
        rw [decide_eq_true hb162] at hA161
        refine c_true hA161 rfl ?_
        refine c_skip ?_
        refine then_n ?_
        refine c_seq ?_
        refine c_block ?_
        refine c_seq ?_
        have hA163 := hA161.as [(9, (Value.int .i64 (k2 : Int))), (7, (Value.int .i64 (k1 : Int))), (2, (bptr b4 0)), (1, vu)] rfl; clear hA161
        have hA164 := hA163.as [(9, (Value.int .i64 (k2 : Int))), (7, (Value.int .i64 (k1 : Int))), (2, (bptr b4 0)), (1, vu)] rfl; clear hA163
        refine c_drawn mixed hA164 hS145 9 [[], [], [], [1, 2], [3], [4], [], [5, 6], [7]] [(Yd.val (Value.agg #[vr])), (Yd.val vu), (Yd.val (Value.int .i64 (k1 : Int))), (Yd.val (eptr vu (k1 * 3))), (Yd.val (eptr vu (k1 * 3 + 0))), (Yd.val (lv.getD k1 nilS)), (Yd.val (Value.int .i64 (k2 : Int))), (Yd.val (eptr (lv.getD k1 nilS) (k2 * 3))), (Yd.val (Value.agg #[(Value.int .i64 ((((rs.getD k1 run0).segs).getD k2 (0, 0, 0)).1)), (Value.int .i64 ((((rs.getD k1 run0).segs).getD k2 (0, 0, 0)).2.1)), (Value.int .i64 ((((rs.getD k1 run0).segs).getD k2 (0, 0, 0)).2.2))]))] (by decide +kernel) rfl rfl ?_ ?_
        ·skip
         refine ⟨fun a w hA hS hd => by exact opG_of rfl (dv (op_loadA rfl ty_24 (hA.ev rfl) (hS.bk 1 rfl) (l := [vr]) rfl rfl) hS rfl), ?_⟩
         refine ⟨fun a w hA hS hd => by exact opG_of rfl (dv (op_move rfl (hA.ev rfl)) hS rfl), ?_⟩
         refine ⟨fun a w hA hS hd => by exact opG_of rfl (dv (op_move rfl (hA.ev rfl)) hS rfl), ?_⟩
         refine ⟨fun a w hA hS hd => by have e1 := has_ev (hd 1 (by decide)) rfl (fun _ h => h); have e2 := has_ev (hd 2 (by decide)) rfl (fun _ h => h); exact opG_of rfl (dv (op_indexS rfl un_25 ty_54 (tmp_ev e1) (i := k1) (tmp_ev e2) (runs_at (hS.ok 3 _ rfl)).runs (by decide) (by omega)) hS rfl), ?_⟩
         refine ⟨fun a w hA hS hd => by have e3 := has_ev (hd 3 (by decide)) rfl (fun _ h => h); exact opG_of rfl (dv (op_fieldS rfl fd_54_0 (tmp_ev e3) (runs_at (hS.ok 3 _ rfl)).runs (by rw [((runs_at (hS.ok 3 _ rfl)).runs).1]; omega)) hS rfl), ?_⟩
         refine ⟨fun a w hA hS hd => by have e4 := has_ev (hd 4 (by decide)) rfl (fun _ h => h); exact opG_of rfl (dv (op_load1E rfl ty_51 (tmp_ev e4) (runs_at (hS.ok 3 _ rfl)).runs (runs_at0 (runs_at (hS.ok 3 _ rfl)).len (by omega))) hS rfl), ?_⟩
         refine ⟨fun a w hA hS hd => by exact opG_of rfl (dv (op_move rfl (hA.ev rfl)) hS rfl), ?_⟩
         refine ⟨fun a w hA hS hd => by have e5 := has_ev (hd 5 (by decide)) rfl (fun _ h => h); have e6 := has_ev (hd 6 (by decide)) rfl (fun _ h => h); exact opG_of rfl (dv (op_indexS rfl un_51 ty_56 (tmp_ev e5) (i := k2) (tmp_ev e6) ((runs_at (hS.ok 3 _ rfl)).segs k1 (by omega)) (by decide) (by omega)) hS rfl), ?_⟩
         refine ⟨fun a w hA hS hd => by have e7 := has_ev (hd 7 (by decide)) rfl (fun _ h => h); exact opG_of rfl (dv (op_loadAE rfl ty_56 (tmp_ev e7) ((runs_at (hS.ok 3 _ rfl)).segs k1 (by omega)) (trips_all (by omega)) rfl (by decide)) hS rfl), ?_⟩
         trivial
        intro a166 w167 hA168 hS169 hH170; clear hA164 hS145
        have hA171 := hA168.add (has_ev (hH170 0 (by decide)) rfl (fun _ h => h)); clear hA168
        have hA172 := hA171.add (has_ev (hH170 8 (by decide)) rfl (fun _ h => h)); clear hA171
        clear hH170
        refine stw hA172 (op_call rfl en_62 (ev2 (hA172.ev rfl) (hA172.ev rfl)) (IsSegment_ok _ R _ (hS169.sk 2 rfl) _ _ _ (by omega))) rfl rfl (by decide) ?_
        rintro a173 _ w175 ⟨rfl, hE176⟩ hA174; have hS177 := hS169.step hE176; clear hE176 hA172 hS169 a166
        refine st hA174 (op_not rfl (hA174.ev rfl)) rfl rfl (by decide) fun a178 hA179 => ?_; clear hA174 a173
        refine wl_nil ?_
        refine then_n ?_
        rcases Bool.eq_false_or_eq_true ((segB R.length ((((rs.getD k1 run0).segs).getD k2 (0, 0, 0)).1, (((rs.getD k1 run0).segs).getD k2 (0, 0, 0)).2.1, (((rs.getD k1 run0).segs).getD k2 (0, 0, 0)).2.2))) with hb180 | hb180
        ·skip
         rw [hb180] at hA179
         refine c_false hA179 rfl ?_
         refine c_skip ?_
         refine blk_n ?_
         refine then_n ?_
         refine c_region ?_
         refine st hA179 (op_move rfl (hA179.ev rfl)) rfl rfl (by decide) fun a181 hA182 => ?_; clear hA179 a178
         refine st hA182 (op_add rfl (hA182.ev rfl) (evc _ _) (by omega) (by omega)) rfl rfl (by decide) fun a183 hA184 => ?_; clear hA182 a181
         refine st hA184 (op_assign rfl (hA184.ev rfl)) rfl rfl (by decide) fun a185 hA186 => ?_; clear hA184 a183
         refine wl_nil ?_
         exact then_n ⟨k2 + 1, ⟨hA186.as _ rfl, hS177, by omega, (fun i hi => by rcases Nat.lt_succ_iff_lt_or_eq.1 hi with h | h; exact hsg i h; subst h; assumption)⟩, by omega⟩
        ·skip
         rw [hb180] at hA179
         refine c_true hA179 rfl ?_
         refine c_seq ?_
         have hA187 := hA179.as [] rfl; clear hA179
         refine c_region ?_
         refine st hA187 (op_assign rfl (evc _ _)) rfl rfl (by decide) fun a188 hA189 => ?_; clear hA187 a178
         refine wl_nil ?_
         refine then_n ?_
         refine c_ret ?_
         refine blk_ret ?_
         refine then_ret ?_
         refine then_ret ?_
         refine blk_ret ?_
         refine blk_ret ?_
         refine then_ret ?_
         refine then_ret ?_
         refine blk_ret ?_
         refine then_ret ?_
         refine fin_run hA189 (.inl rfl) (run_results1 hA189 rfl (.tmp rfl)) ?_
         exact ⟨ret_int (Eq.symm (by first | exact enter_1 (by assumption) (by omega) (all_yes (fun i hi => hn i (by omega))) (all_no (k := k1) (by omega) (by unfold runB uptoB; simp only [Bool.and_eq_false_iff, decide_eq_false_iff_not]; omega)) | exact enter_1 (by assumption) (by omega) (all_yes (fun i hi => hn i (by omega))) (all_no (k := k1) (by omega) (runB_no (k := k2) (by omega) (by assumption))))), hS177.ext⟩
       ·skip
        rw [decide_eq_false hb162] at hA161
        refine c_false hA161 rfl ?_
        refine c_exit ?_
        refine then_exit ?_
        refine then_exit ?_
        refine blk_hit ?_
        refine blk_n ?_
        refine then_n ?_
        have hA190 := hA161.as [(7, (Value.int .i64 (k1 : Int))), (2, (bptr b4 0)), (1, vu)] rfl; clear hA161
        refine c_region ?_
        refine st hA190 (op_move rfl (hA190.ev rfl)) rfl rfl (by decide) fun a191 hA192 => ?_; clear hA190 a160
        refine st hA192 (op_add rfl (hA192.ev rfl) (evc _ _) (by omega) (by omega)) rfl rfl (by decide) fun a193 hA194 => ?_; clear hA192 a191
        refine st hA194 (op_assign rfl (hA194.ev rfl)) rfl rfl (by decide) fun a195 hA196 => ?_; clear hA194 a193
        refine wl_nil ?_
        have hS197 : Sep NoB w w144 [(blk b4 24 [vr]), (sl vr 2 R.length (pairs R)), (runsR false vu lv rs)] := hS145.keep [1, 2, 3] (by decide) _ rfl rfl; clear hS145
        exact then_n ⟨k1 + 1, ⟨hA196.as _ rfl, hS197, by omega, (fun i hi => by rcases Nat.lt_succ_iff_lt_or_eq.1 hi with h | h; exact hrun i h; subst h; exact runB_yes (by omega) (fun i hi => hsg i (by omega)))⟩, by omega⟩
     ·skip
      rw [hb124] at hA123
      have hq198 := hb124; simp only [Bool.and_eq_true, Bool.and_eq_false_iff, decide_eq_true_eq, decide_eq_false_iff_not] at hq198
      refine skp hA123 rfl rfl rfl rfl rfl (by decide) fun a199 hA200 => ?_; clear hA123 a122
      refine skp hA200 rfl rfl rfl rfl rfl (by decide) fun a201 hA202 => ?_; clear hA200 a199
      refine skp hA202 rfl rfl rfl rfl rfl (by decide) fun a203 hA204 => ?_; clear hA202 a201
      refine st hA204 (op_pick_t rfl (hA204.ev rfl) (evc _ _)) rfl rfl (by decide) fun a205 hA206 => ?_; clear hA204 a203
      refine wl_nil ?_
      refine then_n ?_
      refine c_true hA206 rfl ?_
      refine c_seq ?_
      have hA207 := hA206.as [] rfl; clear hA206
      refine c_region ?_
      refine st hA207 (op_assign rfl (evc _ _)) rfl rfl (by decide) fun a208 hA209 => ?_; clear hA207 a205
      refine wl_nil ?_
      refine then_n ?_
      refine c_ret ?_
      refine then_ret ?_
      refine blk_ret ?_
      refine then_ret ?_
      refine then_ret ?_
      refine blk_ret ?_
      refine then_ret ?_
      refine fin_run hA209 (.inl rfl) (run_results1 hA209 rfl (.tmp rfl)) ?_
      exact ⟨ret_int (Eq.symm (by first | exact enter_1 (by assumption) (by omega) (all_yes (fun i hi => hn i (by omega))) (all_no (k := k1) (by omega) (by unfold runB uptoB; simp only [Bool.and_eq_false_iff, decide_eq_false_iff_not]; omega)) | exact enter_1 (by assumption) (by omega) (all_yes (fun i hi => hn i (by omega))) (all_no (k := k1) (by omega) (runB_no (k := k2) (by omega) (by assumption))))), hS107.ext⟩
    ·skip
     rw [decide_eq_false hb88] at hA87
     refine c_false hA87 rfl ?_
     refine c_exit ?_
     refine then_exit ?_
     refine then_exit ?_
     refine blk_hit ?_
     refine then_n ?_
     refine c_seq ?_
     have hA210 := hA87.as [] rfl; clear hA87
     refine c_region ?_
     refine st hA210 (op_assign rfl (evc _ _)) rfl rfl (by decide) fun a211 hA212 => ?_; clear hA210 a86
     refine wl_nil ?_
     refine then_n ?_
     refine c_ret ?_
     refine fin_run hA212 (.inl rfl) (run_results1 hA212 rfl (.tmp rfl)) ?_
     exact ⟨ret_int (Eq.symm (enter_0 (by assumption) (by omega) (all_yes (fun i hi => hn i (by omega))) (all_yes (fun i hi => hrun i (by omega))))), hS79.ext⟩
 ·skip
  rw [decide_eq_false hb21] at hA20
  refine c_true hA20 rfl ?_
  refine c_seq ?_
  have hA213 := hA20.as [(5, (Value.int .i64 (checkF R)))] rfl; clear hA20
  refine c_region ?_
  refine st hA213 (op_move rfl (hA213.ev rfl)) rfl rfl (by decide) fun a214 hA215 => ?_; clear hA213 a19
  refine st hA215 (op_assign rfl (hA215.ev rfl)) rfl rfl (by decide) fun a216 hA217 => ?_; clear hA215 a214
  refine wl_nil ?_
  refine then_n ?_
  refine c_ret ?_
  refine then_ret ?_
  refine fin_run hA217 (.inl rfl) (run_results1 hA217 rfl (.tmp rfl)) ?_
  exact ⟨ret_int (Eq.symm (enter_c (by assumption))), hS14.ext⟩
set_option maxHeartbeats 1000000 in
theorem fault_ok (w : World) (R : List (Int × Int)) (vr : Value) (hm : SlAt w vr 2 R.length (pairs R)) (rs : List RunD) (lv : List Value) (vu : Value) (hx : RunsAt w vu lv rs) :
  Calls Try.prog 41 #[(Value.agg #[vr]), vu] w (Ret fun v w' => v = .int .i64 (enterF R rs) ∧ Ext NoB w w') := by
 refine calls_enter Try.func41 rfl fun a0 hA0 => ?_
 replace hA0 : Fr 8 [] [(0, (Value.agg #[vr])), (1, vu)] a0 := hA0
 have hS0 : Sep NoB w w [(sl vr 2 R.length (pairs R)), (runsR false vu lv rs)] := sep_ro ⟨rfl, hm, rfl, hx, trivial⟩
 refine c_seq ?_
 refine c_region ?_
 refine stw hA0 (op_box hS0 rfl (hA0.ev rfl) (cs := [vr]) rfl) rfl rfl (by decide) ?_
 rintro a1 _ w3 ⟨b4, rfl, hS5⟩ hA2; clear hA0 hS0 a0
 refine st hA2 (op_assign rfl (evc _ _)) rfl rfl (by decide) fun a6 hA7 => ?_; clear hA2 a1
 refine wl_nil ?_
 refine then_n ?_
 refine c_seq ?_
 refine c_region ?_
 refine st hA7 (op_loadA rfl ty_24 (hA7.ev rfl) (hS5.bk 0 rfl) (l := [vr]) rfl rfl) rfl rfl (by decide) fun a8 hA9 => ?_; clear hA7 a6
 refine st hA9 (op_move rfl (hA9.ev rfl)) rfl rfl (by decide) fun a10 hA11 => ?_; clear hA9 a8
 refine stw hA11 (op_call rfl en_69 (ev2 (hA11.ev rfl) (hA11.ev rfl)) (Fault_ok _ R _ (hS5.sk 1 rfl) rs _ _ (runs_at (hS5.ok 2 _ rfl)))) rfl rfl (by decide) ?_
 rintro a12 _ w14 ⟨rfl, hE15⟩ hA13; have hS16 := hS5.step hE15; clear hE15 hA11 hS5 a10
 refine st hA13 (op_assign rfl (hA13.ev rfl)) rfl rfl (by decide) fun a17 hA18 => ?_; clear hA13 a12
 refine wl_nil ?_
 refine then_n ?_
 refine c_ret ?_
 refine fin_run hA18 (.inl rfl) (run_results1 hA18 rfl (.tmp rfl)) ?_
 exact ⟨rfl, hS16.ext⟩
end Go.Proofs.Ytkkglkdnnfegkaa

namespace Go.Proofs.Ytkkglkdnnfegkaa
open Go.RowKit Go.Eng
theorem take_pair {R : List (Int × Int)} {k : Nat} (h : k < R.length) : R.take k ++ [((R.getD k (0, 0)).1, (R.getD k (0, 0)).2)] = R.take (k + 1) := by
  have e : R[k]? = some R[k] := List.getElem?_eq_getElem h
  rw [List.take_add_one, e]
  simp only [List.getD, e, Option.getD_some]; rfl
theorem take_trip {R : List Seg} {k : Nat} (h : k < R.length) : R.take k ++ [((R.getD k (0, 0, 0)).1, (R.getD k (0, 0, 0)).2.1, (R.getD k (0, 0, 0)).2.2)] = R.take (k + 1) := by
  have e : R[k]? = some R[k] := List.getElem?_eq_getElem h
  rw [List.take_add_one, e]
  simp only [List.getD, e, Option.getD_some]; rfl
theorem take_run {R : List RunD} {k : Nat} (h : k < R.length) : R.take k ++ [R.getD k run0] = R.take (k + 1) := by
  have e : R[k]? = some R[k] := List.getElem?_eq_getElem h
  rw [List.take_add_one, e]
  simp only [List.getD, e, Option.getD_some]; rfl
theorem runs_snoc {lv : List Value} {rs : List RunD} (hl : lv.length = rs.length) (u : Value) (x : RunD) : vtrips (runV lv rs) ++ [u, .int .i64 x.lo, .int .i64 x.hi] = vtrips (runV (lv ++ [u]) (rs ++ [x])) := by
  rw [runV_snoc hl, vtrips_append]; rfl
end Go.Proofs.Ytkkglkdnnfegkaa
namespace Go.Eng
open Go.RowKit Go.Eng
open Go.Proofs.Ytkkglkdnnfegkaa
section
variable {X : Nat → Prop} {w0 w : World} {L : List Res}
theorem Sep.segs_nil (h : Eng.Sep X w0 w L) : Eng.Sep X w0 w (segsR true [] [] :: L) := h.push (Ext.refl _ _) ⟨rfl, fun i hi => by simp at hi⟩ (fun b ⟨i, hi, _⟩ => by simp at hi)
theorem Sep.segs_snoc {u : Value} {e : TypeId} {x : RunD} {lv : List Value} {rs : List RunD} (h : Eng.Sep X w0 w (row u e 3 x.segs.length (trips x.segs) :: segsR true lv rs :: L)) : Eng.Sep X w0 w (segsR true (lv ++ [u]) (rs ++ [x]) :: L) := by
  have h1 : (segsR true lv rs).p w := h.ok 1 _ rfl
  have h0 : SlAt w u 3 x.segs.length (trips x.segs) := SlAt.of_row (h.ok_row 0 rfl)
  have each : ∀ i, i < (rs ++ [x]).length → ((lv ++ [u]).getD i nilS = lv.getD i nilS ∧ (rs ++ [x]).getD i run0 = rs.getD i run0 ∧ i < rs.length) ∨ ((lv ++ [u]).getD i nilS = u ∧ (rs ++ [x]).getD i run0 = x) := fun i hi => by
    simp only [List.length_append, List.length_cons, List.length_nil] at hi
    rw [getD_app, getD_app, h1.1]
    by_cases hl : i < rs.length
    · rw [if_pos hl, if_pos hl]; exact .inl ⟨rfl, rfl, hl⟩
    · rw [if_neg hl, if_neg hl, if_pos (by omega), if_pos (by omega)]; exact .inr ⟨rfl, rfl⟩
  refine h.join ⟨by simp [h1.1], fun i hi => ?_⟩ (fun b ⟨i, hi, hb⟩ => ?_) (fun _ => ⟨rfl, rfl⟩) (fun _ => trivial)
  · rcases each i hi with ⟨e1, e2, e3⟩ | ⟨e1, e2⟩
    · rw [e1, e2]; exact h1.2 i e3
    · rw [e1, e2]; exact h0
  · rcases each i hi with ⟨e1, e2, e3⟩ | ⟨e1, e2⟩
    · rw [e1, e2] at hb; exact .inr ⟨i, e3, hb⟩
    · rw [e1, e2] at hb; exact .inl (slFoot_row hb)
theorem Sep.segs_say {i : Nat} {lv : List Value} {rs rs' : List RunD} (h : Eng.Sep X w0 w L) (hi : L[i]? = some (segsR true lv rs)) (e : rs = rs') : Eng.Sep X w0 w (L.set i (segsR true lv rs')) := by
  subst e; rw [set_same hi]; exact h
end
end Go.Eng
namespace Go.Proofs.Ytkkglkdnnfegkaa
open Go.RowKit Go.Eng
section
variable {X : Nat → Prop} {w0 w : World} {L : List Res}
theorem segs_len (h : Eng.Sep X w0 w L) (i : Nat) {lv : List Value} {rs : List RunD} (hi : L[i]? = some (segsR true lv rs)) : lv.length = rs.length := (h.ok i _ hi : (segsR true lv rs).p w).1
end
end Go.Proofs.Ytkkglkdnnfegkaa
namespace Go.Eng
open Go.RowKit Go.Eng
open Go.Proofs.Ytkkglkdnnfegkaa
section
variable {X : Nat → Prop} {w0 w : World} {L : List Res}
theorem Sep.runs_join {v : Value} {e : TypeId} {n : Nat} {lv : List Value} {rs : List RunD} (h : Eng.Sep X w0 w (row v e 3 n (vtrips (runV lv rs)) :: segsR true lv rs :: L)) (hn : n = rs.length) : Eng.Sep X w0 w (runsR true v lv rs :: L) := by
  subst hn
  have h1 : (segsR true lv rs).p w := h.ok 1 _ rfl
  refine h.join ⟨SlAt.of_row (h.ok_row 0 rfl), h1.1, h1.2⟩ (fun b hb => ?_) (fun _ => ⟨rfl, rfl⟩) (fun _ => trivial)
  rcases hb with hb | hb
  · exact .inl (slFoot_row hb)
  · exact .inr hb
end
end Go.Eng
namespace Go.Proofs.Ytkkglkdnnfegkaa
open Go.RowKit Go.Eng
end Go.Proofs.Ytkkglkdnnfegkaa

namespace Go.Proofs.Ytkkglkdnnfegkaa
open Go.RowKit Go.Shelf Go.Eng
theorem ze_33 : (Try.prog.info? 33).bind (·.zero) = some (Value.agg #[(Value.slice none 0 0)]) := by kernel_rfl
theorem en_25 : ∀ args w, (callFunc 25 args).run Try.prog w = .ok (.enter 25 args) w := enters_of Try.func25 (by kernel_rfl) rfl
theorem bs_42_1_0iia (x0_0 : Int) (x0_1 : Int) : Instr.fill (fun i => some (i * 2, 2)) ((Array.range (1 * 2)).map ((Value.agg #[(Value.int .i64 0), (Value.int .i64 0)]).cells[· % (Value.agg #[(Value.int .i64 0), (Value.int .i64 0)]).cells.size]!)) [(0, .agg #[(.int .i64 x0_0), (.int .i64 x0_1)])] = some (([(.int .i64 x0_0), (.int .i64 x0_1)] : List Value).toArray) := by kernel_rfl
theorem bd_67_0i_1iia (x0_0 : Int) (x1_0 : Int) (x1_1 : Int) (w : World) : (Instr.build 67 #[(0, (.int .i64 x0_0)), (1, .agg #[(.int .i64 x1_0), (.int .i64 x1_1)])]).run Try.prog w = .ok (.agg #[(.int .i64 x0_0), (.int .i64 x1_0), (.int .i64 x1_1)]) w := by kernel_rfl
theorem bs_67_1_0iiia (x0_0 : Int) (x0_1 : Int) (x0_2 : Int) : Instr.fill (fun i => some (i * 3, 3)) ((Array.range (1 * 3)).map ((Value.agg #[(Value.int .i64 0), (Value.int .i64 0), (Value.int .i64 0)]).cells[· % (Value.agg #[(Value.int .i64 0), (Value.int .i64 0), (Value.int .i64 0)]).cells.size]!)) [(0, .agg #[(.int .i64 x0_0), (.int .i64 x0_1), (.int .i64 x0_2)])] = some (([(.int .i64 x0_0), (.int .i64 x0_1), (.int .i64 x0_2)] : List Value).toArray) := by kernel_rfl
theorem el_67 : elK Try.prog 67 = some ((Value.agg #[(Value.int .i64 0), (Value.int .i64 0), (Value.int .i64 0)]), 3, 24) := by kernel_rfl
set_option maxHeartbeats 1000000 in
theorem Material_ok (w : World) (R : List (Int × Int)) (vr : Value) (hm : SlAt w vr 2 R.length (pairs R)) (h6 : R.length ≤ 6) :
  Calls Try.prog 19 #[(Value.agg #[vr])] w (Ret fun v w' => ∃ u, v = .agg #[u] ∧ Sep NoB w w' [row u 42 2 R.length (pairs R)]) := by
 refine calls_enter Try.func19 rfl fun a0 hA0 => ?_
 replace hA0 : Fr 24 [] [(0, (Value.agg #[vr]))] a0 := hA0
 have hS0 : Sep NoB w w [(sl vr 2 R.length (pairs R))] := sep_ro ⟨rfl, hm, trivial⟩
 refine c_seq ?_
 refine c_region ?_
 refine stw hA0 (op_box hS0 rfl (hA0.ev rfl) (cs := [vr]) rfl) rfl rfl (by decide) ?_
 rintro a1 _ w3 ⟨b4, rfl, hS5⟩ hA2; clear hA0 hS0 a0
 refine stw hA2 (op_alloc hS5 rfl ze_33 (cs := [(Value.slice none 0 0)]) rfl) rfl rfl (by decide) ?_
 rintro a6 _ w8 ⟨b9, rfl, hS10⟩ hA7; clear hA2 hS5 a1
 refine wl_nil ?_
 refine then_n ?_
 refine c_seq ?_
 refine c_region ?_
 refine stw hA7 (op_alloc hS10 rfl ze_33 (cs := [(Value.slice none 0 0)]) rfl) rfl rfl (by decide) ?_
 rintro a11 _ w13 ⟨b14, rfl, hS15⟩ hA12; clear hA7 hS10 a6
 refine wl_nil ?_
 refine then_n ?_
 refine c_seq ?_
 refine c_seq ?_
 refine c_region ?_
 refine st hA12 (op_assign rfl (evc _ _)) rfl rfl (by decide) fun a16 hA17 => ?_; clear hA12 a11
 refine wl_nil ?_
 refine then_n ?_
 refine c_block ?_
 have hS18 := hS15.nil_row 42 2; clear hS15
 have hA19 := hA17.as [(4, (Value.int .i64 0)), (3, (bptr b14 0)), (2, (bptr b9 0)), (1, (bptr b4 0))] rfl; clear hA17
 refine c_loop (G := Nat) (fun (k : Nat) a_ w_ => ∃ vo_ : Value, Fr 24 [] [(4, (Value.int .i64 (k : Int))), (3, (bptr b14 0)), (2, (bptr b9 0)), (1, (bptr b4 0))] a_ ∧ Sep NoB w w_ [(row vo_ 42 2 ((R.take k).length) (pairs (R.take k))), (blk b14 33 [vo_]), (blk b9 33 [(Value.slice none 0 0)]), (blk b4 24 [vr]), (sl vr 2 R.length (pairs R))] ∧ (k ≤ R.length)) (fun k => R.length - k) 0 ⟨(Value.slice none 0 0), hA19.as _ rfl, hS18, by omega⟩ ?_
 clear hA19 hS18 a16
 rintro k a20 w22 ⟨vo_, hA21, hS23, hk⟩
 have hlt_ : (R.take k).length ≤ 6 := by simp only [List.length_take]; omega
 refine c_seq ?_
 refine c_seq ?_
 refine c_region ?_
 refine st hA21 (op_move rfl (hA21.ev rfl)) rfl rfl (by decide) fun a24 hA25 => ?_; clear hA21 a20
 refine st hA25 (op_field rfl fd_24_0 (hA25.ev rfl)) rfl rfl (by decide) fun a26 hA27 => ?_; clear hA25 a24
 refine st hA27 (op_load1 rfl ty_22 (hA27.ev rfl) (hS23.bk 3 rfl) rfl) rfl rfl (by decide) fun a28 hA29 => ?_; clear hA27 a26
 refine st hA29 (op_lenS rfl un_22 (hA29.ev rfl) (hS23.sk 4 rfl)) rfl rfl (by decide) fun a30 hA31 => ?_; clear hA29 a28
 refine st hA31 (op_lss rfl (hA31.ev rfl) (hA31.ev rfl)) rfl rfl (by decide) fun a32 hA33 => ?_; clear hA31 a30
 refine wl_nil ?_
 refine then_n ?_
 by_cases hb34 : (k : Int) < (R.length : Int)
 ·skip
  rw [decide_eq_true hb34] at hA33
  refine c_true hA33 rfl ?_
  refine c_skip ?_
  refine then_n ?_
  refine c_seq ?_
  refine c_block ?_
  have hA35 := hA33.as [(4, (Value.int .i64 (k : Int))), (3, (bptr b14 0)), (2, (bptr b9 0)), (1, (bptr b4 0))] rfl; clear hA33
  refine c_drawV mixed hA35 hS23 9 [[], [0], [], [2], [], [3, 4], [5], [6], [7]] [(fun (vs36 : Nat → Value) (v_ : Value) (rs_ : List Res) => v_ = (bptr b14 0) ∧ rs_ = []), (fun (vs36 : Nat → Value) (v_ : Value) (rs_ : List Res) => v_ = vo_ ∧ rs_ = []), (fun (vs36 : Nat → Value) (v_ : Value) (rs_ : List Res) => v_ = (bptr b4 0) ∧ rs_ = []), (fun (vs36 : Nat → Value) (v_ : Value) (rs_ : List Res) => v_ = vr ∧ rs_ = []), (fun (vs36 : Nat → Value) (v_ : Value) (rs_ : List Res) => v_ = (Value.int .i64 (k : Int)) ∧ rs_ = []), (fun (vs36 : Nat → Value) (v_ : Value) (rs_ : List Res) => v_ = (eptr vr (k * 2)) ∧ rs_ = []), (fun (vs36 : Nat → Value) (v_ : Value) (rs_ : List Res) => v_ = (Value.agg #[(Value.int .i64 ((R.getD k (0, 0)).1)), (Value.int .i64 ((R.getD k (0, 0)).2))]) ∧ rs_ = []), (fun (vs36 : Nat → Value) (v_ : Value) (rs_ : List Res) => v_ = (Value.agg #[(Value.int .i64 ((R.getD k (0, 0)).1)), (Value.int .i64 ((R.getD k (0, 0)).2))]) ∧ rs_ = []), (fun (vs36 : Nat → Value) (v_ : Value) (rs_ : List Res) => True ∧ rs_ = [(row v_ 42 2 1 [(Value.int .i64 ((R.getD k (0, 0)).1)), (Value.int .i64 ((R.getD k (0, 0)).2))])])] (by decide +kernel) (by decide +kernel) rfl rfl ⟨(fun _ _ _ _ _ h_ => h_), (fun _ _ _ _ _ h_ => h_), (fun _ _ _ _ _ h_ => h_), (fun _ _ _ _ _ h_ => h_), (fun _ _ _ _ _ h_ => h_), (fun _ _ _ _ _ h_ => h_), (fun _ _ _ _ _ h_ => h_), (fun _ _ _ _ _ h_ => h_), (fun _ _ _ _ _ h_ => h_), trivial⟩ ?_ ?_
  ·skip
   refine ⟨fun a w vs36 hA hS hd => ?_, ?_⟩
   ·skip
    exact opG_of rfl (vv (op_field rfl fd_33_0 (hA.ev rfl)) (And.intro rfl rfl))
   refine ⟨fun a w vs36 hA hS hd => ?_, ?_⟩
   ·skip
    obtain ⟨e0, rs0, hy0, hp0⟩ := hd 0 (by decide)
    obtain ⟨hv0, hr0⟩ := hy0; subst hr0
    rw [hv0] at e0
    exact opG_of rfl (vv (op_load1 rfl ty_28 (tmp_ev (slot_ev e0 rfl)) (hS.bk 1 rfl) rfl) (And.intro rfl rfl))
   refine ⟨fun a w vs36 hA hS hd => ?_, ?_⟩
   ·skip
    exact opG_of rfl (vv (op_field rfl fd_24_0 (hA.ev rfl)) (And.intro rfl rfl))
   refine ⟨fun a w vs36 hA hS hd => ?_, ?_⟩
   ·skip
    obtain ⟨e2, rs2, hy2, hp2⟩ := hd 2 (by decide)
    obtain ⟨hv2, hr2⟩ := hy2; subst hr2
    rw [hv2] at e2
    exact opG_of rfl (vv (op_load1 rfl ty_22 (tmp_ev (slot_ev e2 rfl)) (hS.bk 3 rfl) rfl) (And.intro rfl rfl))
   refine ⟨fun a w vs36 hA hS hd => ?_, ?_⟩
   ·skip
    exact opG_of rfl (vv (op_move rfl (hA.ev rfl)) (And.intro rfl rfl))
   refine ⟨fun a w vs36 hA hS hd => ?_, ?_⟩
   ·skip
    obtain ⟨e3, rs3, hy3, hp3⟩ := hd 3 (by decide)
    obtain ⟨hv3, hr3⟩ := hy3; subst hr3
    rw [hv3] at e3
    obtain ⟨e4, rs4, hy4, hp4⟩ := hd 4 (by decide)
    obtain ⟨hv4, hr4⟩ := hy4; subst hr4
    rw [hv4] at e4
    exact opG_of rfl (vv (op_indexS rfl un_22 ty_48 (tmp_ev (slot_ev e3 rfl)) (i := k) (tmp_ev (slot_ev e4 rfl)) (hS.sk 4 rfl) (by decide) (by omega)) (And.intro rfl rfl))
   refine ⟨fun a w vs36 hA hS hd => ?_, ?_⟩
   ·skip
    obtain ⟨e5, rs5, hy5, hp5⟩ := hd 5 (by decide)
    obtain ⟨hv5, hr5⟩ := hy5; subst hr5
    rw [hv5] at e5
    exact opG_of rfl (vv (op_loadAE rfl ty_48 (tmp_ev (slot_ev e5 rfl)) (hS.sk 4 rfl) (pairs_all (by omega)) rfl (by decide)) (And.intro rfl rfl))
   refine ⟨fun a w vs36 hA hS hd => ?_, ?_⟩
   ·skip
    obtain ⟨e6, rs6, hy6, hp6⟩ := hd 6 (by decide)
    obtain ⟨hv6, hr6⟩ := hy6; subst hr6
    rw [hv6] at e6
    exact opG_of rfl (vx (op_call rfl en_25 (ev1 (tmp_ev (slot_ev e6 rfl))) (to_ok _ _ _)) (And.intro rfl rfl))
   refine ⟨fun a w vs36 hA hS hd => ?_, ?_⟩
   ·skip
    obtain ⟨e7, rs7, hy7, hp7⟩ := hd 7 (by decide)
    obtain ⟨hv7, hr7⟩ := hy7; subst hr7
    rw [hv7] at e7
    exact opG_of rfl (vblt rfl (pv1 (tmp_ev (slot_ev e7 rfl))) un_28 ty_42 ze_42 (by decide) (cs := [(Value.int .i64 ((R.getD k (0, 0)).1)), (Value.int .i64 ((R.getD k (0, 0)).2))]) (bs_42_1_0iia _ _) rfl (by decide) (fun _ => And.intro trivial rfl))
   trivial
  intro a37 w38 vs36 rsf42 hA39 hH41 hS40; clear hA35 hS23
  obtain ⟨hs_0, hy_0⟩ := hH41 0 (by decide)
  obtain ⟨hv_0, hr_0⟩ := hy_0
  obtain ⟨hs_1, hy_1⟩ := hH41 1 (by decide)
  obtain ⟨hv_1, hr_1⟩ := hy_1
  obtain ⟨hs_2, hy_2⟩ := hH41 2 (by decide)
  obtain ⟨hv_2, hr_2⟩ := hy_2
  obtain ⟨hs_3, hy_3⟩ := hH41 3 (by decide)
  obtain ⟨hv_3, hr_3⟩ := hy_3
  obtain ⟨hs_4, hy_4⟩ := hH41 4 (by decide)
  obtain ⟨hv_4, hr_4⟩ := hy_4
  obtain ⟨hs_5, hy_5⟩ := hH41 5 (by decide)
  obtain ⟨hv_5, hr_5⟩ := hy_5
  obtain ⟨hs_6, hy_6⟩ := hH41 6 (by decide)
  obtain ⟨hv_6, hr_6⟩ := hy_6
  obtain ⟨hs_7, hy_7⟩ := hH41 7 (by decide)
  obtain ⟨hv_7, hr_7⟩ := hy_7
  obtain ⟨hs_8, hy_8⟩ := hH41 8 (by decide)
  obtain ⟨hv_8, hr_8⟩ := hy_8
  have hS43 : Sep NoB w w38 [(row (vs36 8) 42 2 1 [(Value.int .i64 ((R.getD k (0, 0)).1)), (Value.int .i64 ((R.getD k (0, 0)).2))]), (row vo_ 42 2 ((R.take k).length) (pairs (R.take k))), (blk b14 33 [vo_]), (blk b9 33 [(Value.slice none 0 0)]), (blk b4 24 [vr]), (sl vr 2 R.length (pairs R))] := by rw [show catR rsf42 0 9 = ([(row (vs36 8) 42 2 1 [(Value.int .i64 ((R.getD k (0, 0)).1)), (Value.int .i64 ((R.getD k (0, 0)).2))])] : List Res) by (try simp only [catR, hr_0, hr_1, hr_2, hr_3, hr_4, hr_5, hr_6, hr_7, hr_8]); (try rfl)] at hS40; exact hS40
  rw [hv_1] at hs_1
  have hA44 : Fr 24 [] [(13, vo_), (4, (Value.int .i64 (k : Int))), (3, (bptr b14 0)), (2, (bptr b9 0)), (1, (bptr b4 0))] a37 := hA39.add (slot_ev hs_1 rfl); clear hA39
  have hA45 : Fr 24 [] [(20, (vs36 8)), (13, vo_), (4, (Value.int .i64 (k : Int))), (3, (bptr b14 0)), (2, (bptr b9 0)), (1, (bptr b4 0))] a37 := hA44.add (slot_ev hs_8 rfl); clear hA44
  clear hH41 hS40 hs_0 hs_1 hs_2 hs_3 hs_4 hs_5 hs_6 hs_7 hs_8
  clear hr_0
  clear hv_0
  clear hr_1
  clear hv_1
  clear hr_2
  clear hv_2
  clear hr_3
  clear hv_3
  clear hr_4
  clear hv_4
  clear hr_5
  clear hv_5
  clear hr_6
  clear hv_6
  clear hr_7
  clear hv_7
  clear hr_8
  clear hv_8
  refine stw hA45 (op_append hS43 rfl un_28 el_42 (hA45.ev rfl) (hA45.ev rfl) (i := 1) rfl (SlAt.of_row (hS43.ok_row 0 rfl)) rfl (by simp only [maxLen]; omega) (by omega)) rfl rfl (by decide) ?_
  intro a46 v49 w48 hS50 hA47
  have hS51 := hS50.row_say (i := 1) rfl (n' := ((R.take k) ++ [((R.getD k (0, 0)).1, (R.getD k (0, 0)).2)]).length) (xs' := (pairs ((R.take k) ++ [((R.getD k (0, 0)).1, (R.getD k (0, 0)).2)]))) (by simp) (by simp [pairs]); clear hS50 hA45 hS43 a37
  refine st hA47 (op_field rfl fd_33_0 (hA47.ev rfl)) rfl rfl (by decide) fun a52 hA53 => ?_; clear hA47 a46
  refine sts hA53 (op_store hS51 rfl ty_28 (hA53.ev rfl) (hA53.ev rfl) (i := 2) rfl (vs := [v49]) (isSl_cells (SlAt.isSl (SlAt.of_row (hS51.ok_row 1 rfl)))) rfl (all_c (SlAt.one (SlAt.of_row (hS51.ok_row 1 rfl))) all_n) (Nat.le_of_ble_eq_true rfl)) rfl rfl ?_
  intro _ w54 hS55 hA56; clear hA53
  have hS57 : Sep NoB w w54 [(row (vs36 8) 42 2 1 [(Value.int .i64 ((R.getD k (0, 0)).1)), (Value.int .i64 ((R.getD k (0, 0)).2))]), (row v49 42 2 (((R.take k) ++ [((R.getD k (0, 0)).1, (R.getD k (0, 0)).2)]).length) (pairs ((R.take k) ++ [((R.getD k (0, 0)).1, (R.getD k (0, 0)).2)]))), (blk b14 33 [v49]), (blk b9 33 [(Value.slice none 0 0)]), (blk b4 24 [vr]), (sl vr 2 R.length (pairs R))] := hS55; clear hS55 hS51
  refine wl_nil ?_
  refine blk_n ?_
  refine then_n ?_
  refine c_region ?_
  refine st hA56 (op_move rfl (hA56.ev rfl)) rfl rfl (by decide) fun a58 hA59 => ?_; clear hA56 a52
  refine st hA59 (op_add rfl (hA59.ev rfl) (evc _ _) (by omega) (by omega)) rfl rfl (by decide) fun a60 hA61 => ?_; clear hA59 a58
  refine st hA61 (op_assign rfl (hA61.ev rfl)) rfl rfl (by decide) fun a62 hA63 => ?_; clear hA61 a60
  refine wl_nil ?_
  have hS64 : Sep NoB w w54 [(row v49 42 2 (((R.take k) ++ [((R.getD k (0, 0)).1, (R.getD k (0, 0)).2)]).length) (pairs ((R.take k) ++ [((R.getD k (0, 0)).1, (R.getD k (0, 0)).2)]))), (blk b14 33 [v49]), (blk b9 33 [(Value.slice none 0 0)]), (blk b4 24 [vr]), (sl vr 2 R.length (pairs R))] := hS57.keep [1, 2, 3, 4, 5] (by decide) _ rfl rfl; clear hS57
  exact then_n ⟨k + 1, ⟨v49, hA63.as _ rfl, (hS64.row_say (i := 0) rfl (by rw [take_pair (by omega)]) (by rw [take_pair (by omega)])), by omega⟩, by omega⟩
 ·skip
  rw [decide_eq_false hb34] at hA33
  refine c_false hA33 rfl ?_
  refine c_exit ?_
  refine then_exit ?_
  refine then_exit ?_
  refine blk_hit ?_
  refine then_n ?_
  refine c_seq ?_
  have hA65 := hA33.as [(3, (bptr b14 0)), (2, (bptr b9 0))] rfl; clear hA33
  refine c_region ?_
  refine st hA65 (op_loadA rfl ty_33 (hA65.ev rfl) (hS23.bk 1 rfl) (l := [vo_]) rfl rfl) rfl rfl (by decide) fun a66 hA67 => ?_; clear hA65 a32
  refine sts hA67 (op_store hS23 rfl ty_33 (hA67.ev rfl) (hA67.ev rfl) (i := 2) rfl (vs := [vo_]) rfl rfl (all_c (SlAt.one (SlAt.of_row (hS23.ok_row 0 rfl))) all_n) (Nat.le_of_ble_eq_true rfl)) rfl rfl ?_
  intro _ w68 hS69 hA70; clear hA67
  have hS71 : Sep NoB w w68 [(row vo_ 42 2 ((R.take k).length) (pairs (R.take k))), (blk b14 33 [vo_]), (blk b9 33 [vo_]), (blk b4 24 [vr]), (sl vr 2 R.length (pairs R))] := hS69; clear hS69 hS23
  refine wl_nil ?_
  refine then_n ?_
  refine c_ret ?_
  refine fin_run hA70 (.inl rfl) (run_results1 hA70 rfl (.cellA rfl ty_33 (hS71.bk 2 rfl) (l := [vo_]) rfl rfl)) ?_
  exact ⟨_, rfl, (hS71.row_say (i := 0) rfl (n' := R.length) (xs' := pairs R) (by rw [show k = R.length by omega, List.take_length]) (by rw [show k = R.length by omega, List.take_length])).keep [0] (by decide) _ rfl rfl⟩
set_option maxHeartbeats 1000000 in
theorem Plan_ok (w : World) (plan : List Seg) (vp : Value) (hp : SlAt w vp 3 plan.length (trips plan)) (h12 : plan.length ≤ 12) :
  Calls Try.prog 29 #[vp] w (Ret fun v w' => Ext NoB w w' ∧ w'.ownsRow w.heap.size 67 3 v plan.length (trips plan)) := by
 refine calls_enter Try.func29 rfl fun a0 hA0 => ?_
 replace hA0 : Fr 27 [] [(0, vp)] a0 := hA0
 have hS0 : Sep NoB w w [(sl vp 3 plan.length (trips plan))] := sep_ro ⟨rfl, hp, trivial⟩
 refine c_seq ?_
 refine c_region ?_
 refine st hA0 (op_assign rfl (evc _ _)) rfl rfl (by decide) fun a1 hA2 => ?_; clear hA0 a0
 refine wl_nil ?_
 refine then_n ?_
 refine c_seq ?_
 refine c_region ?_
 refine st hA2 (op_assign rfl (evc _ _)) rfl rfl (by decide) fun a3 hA4 => ?_; clear hA2 a1
 have hS5 := hS0.nil_row 67 3; clear hS0
 refine wl_nil ?_
 refine then_n ?_
 refine c_seq ?_
 refine c_seq ?_
 refine c_region ?_
 refine st hA4 (op_assign rfl (evc _ _)) rfl rfl (by decide) fun a6 hA7 => ?_; clear hA4 a3
 refine wl_nil ?_
 refine then_n ?_
 refine c_block ?_
 have hA8 := hA7.as [(4, (Value.int .i64 0)), (3, (Value.slice none 0 0)), (0, vp)] rfl; clear hA7
 refine c_loop (G := Nat) (fun (k : Nat) a_ w_ => ∃ v3_ : Value, Fr 27 [] [(4, (Value.int .i64 (k : Int))), (3, v3_), (0, vp)] a_ ∧ Sep NoB w w_ [(row v3_ 67 3 ((plan.take k).length) (trips (plan.take k))), (sl vp 3 plan.length (trips plan))] ∧ (k ≤ plan.length)) (fun k => plan.length - k) 0 ⟨(Value.slice none 0 0), hA8.as _ rfl, hS5, by omega⟩ ?_
 clear hA8 hS5 a6
 rintro k a9 w11 ⟨v3_, hA10, hS12, hk⟩
 have hlt_ : (plan.take k).length ≤ 12 := by simp only [List.length_take]; omega
 refine c_seq ?_
 refine c_seq ?_
 refine c_region ?_
 refine st hA10 (op_move rfl (hA10.ev rfl)) rfl rfl (by decide) fun a13 hA14 => ?_; clear hA10 a9
 refine st hA14 (op_move rfl (hA14.ev rfl)) rfl rfl (by decide) fun a15 hA16 => ?_; clear hA14 a13
 refine st hA16 (op_lenS rfl un_51 (hA16.ev rfl) (hS12.sk 1 rfl)) rfl rfl (by decide) fun a17 hA18 => ?_; clear hA16 a15
 refine st hA18 (op_lss rfl (hA18.ev rfl) (hA18.ev rfl)) rfl rfl (by decide) fun a19 hA20 => ?_; clear hA18 a17
 refine wl_nil ?_
 refine then_n ?_
 by_cases hb21 : (k : Int) < (plan.length : Int)
 ·skip
  rw [decide_eq_true hb21] at hA20
  refine c_true hA20 rfl ?_
  refine c_skip ?_
  refine then_n ?_
  refine c_seq ?_
  refine c_block ?_
  have hA22 := hA20.as [(4, (Value.int .i64 (k : Int))), (3, v3_), (0, vp)] rfl; clear hA20
  refine c_drawV mixed hA22 hS12 14 [[], [], [], [1, 2], [3], [4], [], [], [6, 7], [8], [9], [10], [5, 11], [12]] [(fun (vs23 : Nat → Value) (v_ : Value) (rs_ : List Res) => v_ = v3_ ∧ rs_ = []), (fun (vs23 : Nat → Value) (v_ : Value) (rs_ : List Res) => v_ = vp ∧ rs_ = []), (fun (vs23 : Nat → Value) (v_ : Value) (rs_ : List Res) => v_ = (Value.int .i64 (k : Int)) ∧ rs_ = []), (fun (vs23 : Nat → Value) (v_ : Value) (rs_ : List Res) => v_ = (eptr vp (k * 3)) ∧ rs_ = []), (fun (vs23 : Nat → Value) (v_ : Value) (rs_ : List Res) => v_ = (eptr vp (k * 3 + 0)) ∧ rs_ = []), (fun (vs23 : Nat → Value) (v_ : Value) (rs_ : List Res) => v_ = (Value.int .i64 ((plan.getD k (0, 0, 0)).1)) ∧ rs_ = []), (fun (vs23 : Nat → Value) (v_ : Value) (rs_ : List Res) => v_ = vp ∧ rs_ = []), (fun (vs23 : Nat → Value) (v_ : Value) (rs_ : List Res) => v_ = (Value.int .i64 (k : Int)) ∧ rs_ = []), (fun (vs23 : Nat → Value) (v_ : Value) (rs_ : List Res) => v_ = (eptr vp (k * 3)) ∧ rs_ = []), (fun (vs23 : Nat → Value) (v_ : Value) (rs_ : List Res) => v_ = (eptr vp (k * 3 + 1)) ∧ rs_ = []), (fun (vs23 : Nat → Value) (v_ : Value) (rs_ : List Res) => v_ = (Value.agg #[(Value.int .i64 ((plan.getD k (0, 0, 0)).2.1)), (Value.int .i64 ((plan.getD k (0, 0, 0)).2.2))]) ∧ rs_ = []), (fun (vs23 : Nat → Value) (v_ : Value) (rs_ : List Res) => v_ = (Value.agg #[(Value.int .i64 ((plan.getD k (0, 0, 0)).2.1)), (Value.int .i64 ((plan.getD k (0, 0, 0)).2.2))]) ∧ rs_ = []), (fun (vs23 : Nat → Value) (v_ : Value) (rs_ : List Res) => v_ = (Value.agg #[(Value.int .i64 ((plan.getD k (0, 0, 0)).1)), (Value.int .i64 ((plan.getD k (0, 0, 0)).2.1)), (Value.int .i64 ((plan.getD k (0, 0, 0)).2.2))]) ∧ rs_ = []), (fun (vs23 : Nat → Value) (v_ : Value) (rs_ : List Res) => True ∧ rs_ = [(row v_ 67 3 1 [(Value.int .i64 ((plan.getD k (0, 0, 0)).1)), (Value.int .i64 ((plan.getD k (0, 0, 0)).2.1)), (Value.int .i64 ((plan.getD k (0, 0, 0)).2.2))])])] (by decide +kernel) (by decide +kernel) rfl rfl ⟨(fun _ _ _ _ _ h_ => h_), (fun _ _ _ _ _ h_ => h_), (fun _ _ _ _ _ h_ => h_), (fun _ _ _ _ _ h_ => h_), (fun _ _ _ _ _ h_ => h_), (fun _ _ _ _ _ h_ => h_), (fun _ _ _ _ _ h_ => h_), (fun _ _ _ _ _ h_ => h_), (fun _ _ _ _ _ h_ => h_), (fun _ _ _ _ _ h_ => h_), (fun _ _ _ _ _ h_ => h_), (fun _ _ _ _ _ h_ => h_), (fun _ _ _ _ _ h_ => h_), (fun _ _ _ _ _ h_ => h_), trivial⟩ ?_ ?_
  ·skip
   refine ⟨fun a w vs23 hA hS hd => ?_, ?_⟩
   ·skip
    exact opG_of rfl (vv (op_move rfl (hA.ev rfl)) (And.intro rfl rfl))
   refine ⟨fun a w vs23 hA hS hd => ?_, ?_⟩
   ·skip
    exact opG_of rfl (vv (op_move rfl (hA.ev rfl)) (And.intro rfl rfl))
   refine ⟨fun a w vs23 hA hS hd => ?_, ?_⟩
   ·skip
    exact opG_of rfl (vv (op_move rfl (hA.ev rfl)) (And.intro rfl rfl))
   refine ⟨fun a w vs23 hA hS hd => ?_, ?_⟩
   ·skip
    obtain ⟨e1, rs1, hy1, hp1⟩ := hd 1 (by decide)
    obtain ⟨hv1, hr1⟩ := hy1; subst hr1
    rw [hv1] at e1
    obtain ⟨e2, rs2, hy2, hp2⟩ := hd 2 (by decide)
    obtain ⟨hv2, hr2⟩ := hy2; subst hr2
    rw [hv2] at e2
    exact opG_of rfl (vv (op_indexS rfl un_51 ty_56 (tmp_ev (slot_ev e1 rfl)) (i := k) (tmp_ev (slot_ev e2 rfl)) (hS.sk 1 rfl) (by decide) (by omega)) (And.intro rfl rfl))
   refine ⟨fun a w vs23 hA hS hd => ?_, ?_⟩
   ·skip
    obtain ⟨e3, rs3, hy3, hp3⟩ := hd 3 (by decide)
    obtain ⟨hv3, hr3⟩ := hy3; subst hr3
    rw [hv3] at e3
    exact opG_of rfl (vv (op_fieldS rfl fd_56_0 (tmp_ev (slot_ev e3 rfl)) (hS.sk 1 rfl) (by rw [((hS.sk 1 rfl)).1]; omega)) (And.intro rfl rfl))
   refine ⟨fun a w vs23 hA hS hd => ?_, ?_⟩
   ·skip
    obtain ⟨e4, rs4, hy4, hp4⟩ := hd 4 (by decide)
    obtain ⟨hv4, hr4⟩ := hy4; subst hr4
    rw [hv4] at e4
    exact opG_of rfl (vv (op_load1E rfl ty_3 (tmp_ev (slot_ev e4 rfl)) (hS.sk 1 rfl) (trips_at0 (by omega))) (And.intro rfl rfl))
   refine ⟨fun a w vs23 hA hS hd => ?_, ?_⟩
   ·skip
    exact opG_of rfl (vv (op_move rfl (hA.ev rfl)) (And.intro rfl rfl))
   refine ⟨fun a w vs23 hA hS hd => ?_, ?_⟩
   ·skip
    exact opG_of rfl (vv (op_move rfl (hA.ev rfl)) (And.intro rfl rfl))
   refine ⟨fun a w vs23 hA hS hd => ?_, ?_⟩
   ·skip
    obtain ⟨e6, rs6, hy6, hp6⟩ := hd 6 (by decide)
    obtain ⟨hv6, hr6⟩ := hy6; subst hr6
    rw [hv6] at e6
    obtain ⟨e7, rs7, hy7, hp7⟩ := hd 7 (by decide)
    obtain ⟨hv7, hr7⟩ := hy7; subst hr7
    rw [hv7] at e7
    exact opG_of rfl (vv (op_indexS rfl un_51 ty_56 (tmp_ev (slot_ev e6 rfl)) (i := k) (tmp_ev (slot_ev e7 rfl)) (hS.sk 1 rfl) (by decide) (by omega)) (And.intro rfl rfl))
   refine ⟨fun a w vs23 hA hS hd => ?_, ?_⟩
   ·skip
    obtain ⟨e8, rs8, hy8, hp8⟩ := hd 8 (by decide)
    obtain ⟨hv8, hr8⟩ := hy8; subst hr8
    rw [hv8] at e8
    exact opG_of rfl (vv (op_fieldS rfl fd_56_1 (tmp_ev (slot_ev e8 rfl)) (hS.sk 1 rfl) (by rw [((hS.sk 1 rfl)).1]; omega)) (And.intro rfl rfl))
   refine ⟨fun a w vs23 hA hS hd => ?_, ?_⟩
   ·skip
    obtain ⟨e9, rs9, hy9, hp9⟩ := hd 9 (by decide)
    obtain ⟨hv9, hr9⟩ := hy9; subst hr9
    rw [hv9] at e9
    exact opG_of rfl (vv (op_loadAE rfl ty_48 (tmp_ev (slot_ev e9 rfl)) (hS.sk 1 rfl) (trips_sub (by omega)) rfl (by decide)) (And.intro rfl rfl))
   refine ⟨fun a w vs23 hA hS hd => ?_, ?_⟩
   ·skip
    obtain ⟨e10, rs10, hy10, hp10⟩ := hd 10 (by decide)
    obtain ⟨hv10, hr10⟩ := hy10; subst hr10
    rw [hv10] at e10
    exact opG_of rfl (vx (op_call rfl en_25 (ev1 (tmp_ev (slot_ev e10 rfl))) (to_ok _ _ _)) (And.intro rfl rfl))
   refine ⟨fun a w vs23 hA hS hd => ?_, ?_⟩
   ·skip
    obtain ⟨e5, rs5, hy5, hp5⟩ := hd 5 (by decide)
    obtain ⟨hv5, hr5⟩ := hy5; subst hr5
    rw [hv5] at e5
    obtain ⟨e11, rs11, hy11, hp11⟩ := hd 11 (by decide)
    obtain ⟨hv11, hr11⟩ := hy11; subst hr11
    rw [hv11] at e11
    exact opG_of rfl (vv (op_build rfl (pv2 (tmp_ev (slot_ev e5 rfl)) (tmp_ev (slot_ev e11 rfl))) (bd_67_0i_1iia _ _ _)) (And.intro rfl rfl))
   refine ⟨fun a w vs23 hA hS hd => ?_, ?_⟩
   ·skip
    obtain ⟨e12, rs12, hy12, hp12⟩ := hd 12 (by decide)
    obtain ⟨hv12, hr12⟩ := hy12; subst hr12
    rw [hv12] at e12
    exact opG_of rfl (vblt rfl (pv1 (tmp_ev (slot_ev e12 rfl))) un_58 ty_67 ze_67 (by decide) (cs := [(Value.int .i64 ((plan.getD k (0, 0, 0)).1)), (Value.int .i64 ((plan.getD k (0, 0, 0)).2.1)), (Value.int .i64 ((plan.getD k (0, 0, 0)).2.2))]) (bs_67_1_0iiia _ _ _) rfl (by decide) (fun _ => And.intro trivial rfl))
   trivial
  intro a24 w25 vs23 rsf29 hA26 hH28 hS27; clear hA22 hS12
  obtain ⟨hs_0, hy_0⟩ := hH28 0 (by decide)
  obtain ⟨hv_0, hr_0⟩ := hy_0
  obtain ⟨hs_1, hy_1⟩ := hH28 1 (by decide)
  obtain ⟨hv_1, hr_1⟩ := hy_1
  obtain ⟨hs_2, hy_2⟩ := hH28 2 (by decide)
  obtain ⟨hv_2, hr_2⟩ := hy_2
  obtain ⟨hs_3, hy_3⟩ := hH28 3 (by decide)
  obtain ⟨hv_3, hr_3⟩ := hy_3
  obtain ⟨hs_4, hy_4⟩ := hH28 4 (by decide)
  obtain ⟨hv_4, hr_4⟩ := hy_4
  obtain ⟨hs_5, hy_5⟩ := hH28 5 (by decide)
  obtain ⟨hv_5, hr_5⟩ := hy_5
  obtain ⟨hs_6, hy_6⟩ := hH28 6 (by decide)
  obtain ⟨hv_6, hr_6⟩ := hy_6
  obtain ⟨hs_7, hy_7⟩ := hH28 7 (by decide)
  obtain ⟨hv_7, hr_7⟩ := hy_7
  obtain ⟨hs_8, hy_8⟩ := hH28 8 (by decide)
  obtain ⟨hv_8, hr_8⟩ := hy_8
  obtain ⟨hs_9, hy_9⟩ := hH28 9 (by decide)
  obtain ⟨hv_9, hr_9⟩ := hy_9
  obtain ⟨hs_10, hy_10⟩ := hH28 10 (by decide)
  obtain ⟨hv_10, hr_10⟩ := hy_10
  obtain ⟨hs_11, hy_11⟩ := hH28 11 (by decide)
  obtain ⟨hv_11, hr_11⟩ := hy_11
  obtain ⟨hs_12, hy_12⟩ := hH28 12 (by decide)
  obtain ⟨hv_12, hr_12⟩ := hy_12
  obtain ⟨hs_13, hy_13⟩ := hH28 13 (by decide)
  obtain ⟨hv_13, hr_13⟩ := hy_13
  have hS30 : Sep NoB w w25 [(row (vs23 13) 67 3 1 [(Value.int .i64 ((plan.getD k (0, 0, 0)).1)), (Value.int .i64 ((plan.getD k (0, 0, 0)).2.1)), (Value.int .i64 ((plan.getD k (0, 0, 0)).2.2))]), (row v3_ 67 3 ((plan.take k).length) (trips (plan.take k))), (sl vp 3 plan.length (trips plan))] := by rw [show catR rsf29 0 14 = ([(row (vs23 13) 67 3 1 [(Value.int .i64 ((plan.getD k (0, 0, 0)).1)), (Value.int .i64 ((plan.getD k (0, 0, 0)).2.1)), (Value.int .i64 ((plan.getD k (0, 0, 0)).2.2))])] : List Res) by (try simp only [catR, hr_0, hr_1, hr_2, hr_3, hr_4, hr_5, hr_6, hr_7, hr_8, hr_9, hr_10, hr_11, hr_12, hr_13]); (try rfl)] at hS27; exact hS27
  rw [hv_0] at hs_0
  have hA31 : Fr 27 [] [(11, v3_), (4, (Value.int .i64 (k : Int))), (3, v3_), (0, vp)] a24 := hA26.add (slot_ev hs_0 rfl); clear hA26
  have hA32 : Fr 27 [] [(24, (vs23 13)), (11, v3_), (4, (Value.int .i64 (k : Int))), (3, v3_), (0, vp)] a24 := hA31.add (slot_ev hs_13 rfl); clear hA31
  clear hH28 hS27 hs_0 hs_1 hs_2 hs_3 hs_4 hs_5 hs_6 hs_7 hs_8 hs_9 hs_10 hs_11 hs_12 hs_13
  clear hr_0
  clear hv_0
  clear hr_1
  clear hv_1
  clear hr_2
  clear hv_2
  clear hr_3
  clear hv_3
  clear hr_4
  clear hv_4
  clear hr_5
  clear hv_5
  clear hr_6
  clear hv_6
  clear hr_7
  clear hv_7
  clear hr_8
  clear hv_8
  clear hr_9
  clear hv_9
  clear hr_10
  clear hv_10
  clear hr_11
  clear hv_11
  clear hr_12
  clear hv_12
  clear hr_13
  clear hv_13
  refine stw hA32 (op_append hS30 rfl un_58 el_67 (hA32.ev rfl) (hA32.ev rfl) (i := 1) rfl (SlAt.of_row (hS30.ok_row 0 rfl)) rfl (by simp only [maxLen]; omega) (by omega)) rfl rfl (by decide) ?_
  intro a33 v36 w35 hS37 hA34
  have hS38 := hS37.row_say (i := 1) rfl (n' := ((plan.take k) ++ [((plan.getD k (0, 0, 0)).1, (plan.getD k (0, 0, 0)).2.1, (plan.getD k (0, 0, 0)).2.2)]).length) (xs' := (trips ((plan.take k) ++ [((plan.getD k (0, 0, 0)).1, (plan.getD k (0, 0, 0)).2.1, (plan.getD k (0, 0, 0)).2.2)]))) (by simp) (by simp [trips]); clear hS37 hA32 hS30 a24
  refine st hA34 (op_assign rfl (hA34.ev rfl)) rfl rfl (by decide) fun a39 hA40 => ?_; clear hA34 a33
  refine wl_nil ?_
  refine blk_n ?_
  refine then_n ?_
  refine c_region ?_
  refine st hA40 (op_move rfl (hA40.ev rfl)) rfl rfl (by decide) fun a41 hA42 => ?_; clear hA40 a39
  refine st hA42 (op_add rfl (hA42.ev rfl) (evc _ _) (by omega) (by omega)) rfl rfl (by decide) fun a43 hA44 => ?_; clear hA42 a41
  refine st hA44 (op_assign rfl (hA44.ev rfl)) rfl rfl (by decide) fun a45 hA46 => ?_; clear hA44 a43
  refine wl_nil ?_
  have hS47 : Sep NoB w w35 [(row v36 67 3 (((plan.take k) ++ [((plan.getD k (0, 0, 0)).1, (plan.getD k (0, 0, 0)).2.1, (plan.getD k (0, 0, 0)).2.2)]).length) (trips ((plan.take k) ++ [((plan.getD k (0, 0, 0)).1, (plan.getD k (0, 0, 0)).2.1, (plan.getD k (0, 0, 0)).2.2)]))), (sl vp 3 plan.length (trips plan))] := hS38.keep [1, 2] (by decide) _ rfl rfl; clear hS38
  exact then_n ⟨k + 1, ⟨v36, hA46.as _ rfl, (hS47.row_say (i := 0) rfl (by rw [take_trip (by omega)]) (by rw [take_trip (by omega)])), by omega⟩, by omega⟩
 ·skip
  rw [decide_eq_false hb21] at hA20
  refine c_false hA20 rfl ?_
  refine c_exit ?_
  refine then_exit ?_
  refine then_exit ?_
  refine blk_hit ?_
  refine then_n ?_
  refine c_seq ?_
  have hA48 := hA20.as [(3, v3_)] rfl; clear hA20
  refine c_region ?_
  refine st hA48 (op_move rfl (hA48.ev rfl)) rfl rfl (by decide) fun a49 hA50 => ?_; clear hA48 a19
  refine st hA50 (op_assign rfl (hA50.ev rfl)) rfl rfl (by decide) fun a51 hA52 => ?_; clear hA50 a49
  refine wl_nil ?_
  refine then_n ?_
  refine c_ret ?_
  refine fin_run hA52 (.inl rfl) (run_results1 hA52 rfl (.tmp rfl)) ?_
  have hz := hS12.row_say (i := 0) rfl (n' := plan.length) (xs' := trips plan) (by rw [show k = plan.length by omega, List.take_length]) (by rw [show k = plan.length by omega, List.take_length])
  exact ⟨hz.ext, hz.row_new (i := 0) rfl⟩
end Go.Proofs.Ytkkglkdnnfegkaa

namespace Go.Proofs.Ytkkglkdnnfegkaa
open Go.RowKit Go.Shelf Go.Eng
theorem bd_96_0s_1iia (x0_0 : Value) (hx0_0 : IsSl x0_0) (x1_0 : Int) (x1_1 : Int) (w : World) : (Instr.build 96 #[(0, x0_0), (1, .agg #[(.int .i64 x1_0), (.int .i64 x1_1)])]).run Try.prog w = .ok (.agg #[x0_0, (.int .i64 x1_0), (.int .i64 x1_1)]) w := by obtain ⟨Ax0_0, Bx0_0, Cx0_0, rfl⟩ := hx0_0; kernel_rfl
theorem en_29 : ∀ args w, (callFunc 29 args).run Try.prog w = .ok (.enter 29 args) w := enters_of Try.func29 (by kernel_rfl) rfl
theorem bs_96_1_0viia (x0_0 : Value) (x0_1 : Int) (x0_2 : Int) : Instr.fill (fun i => some (i * 3, 3)) ((Array.range (1 * 3)).map ((Value.agg #[(Value.slice none 0 0), (Value.int .i64 0), (Value.int .i64 0)]).cells[· % (Value.agg #[(Value.slice none 0 0), (Value.int .i64 0), (Value.int .i64 0)]).cells.size]!)) [(0, .agg #[x0_0, (.int .i64 x0_1), (.int .i64 x0_2)])] = some (([x0_0, (.int .i64 x0_1), (.int .i64 x0_2)] : List Value).toArray) := by kernel_rfl
theorem el_96 : elK Try.prog 96 = some ((Value.agg #[(Value.slice none 0 0), (Value.int .i64 0), (Value.int .i64 0)]), 3, 40) := by kernel_rfl
set_option maxHeartbeats 4000000 in
theorem Runs_ok (w : World) (rs : List RunD) (lv : List Value) (vu : Value) (hx : RunsAt w vu lv rs) (h9 : rs.length ≤ 9) (hsg : ∀ i, i < rs.length → (rs.getD i run0).segs.length ≤ 12) :
  Calls Try.prog 20 #[vu] w (Ret fun v w' => ∃ lv2, Sep NoB w w' [runsR true v lv2 rs]) := by
 refine calls_enter Try.func20 rfl fun a0 hA0 => ?_
 replace hA0 : Fr 28 [] [(0, vu)] a0 := hA0
 have hS0 : Sep NoB w w [(runsR false vu lv rs)] := sep_ro ⟨rfl, hx, trivial⟩
 refine c_seq ?_
 refine c_region ?_
 refine st hA0 (op_assign rfl (evc _ _)) rfl rfl (by decide) fun a1 hA2 => ?_; clear hA0 a0
 refine wl_nil ?_
 refine then_n ?_
 refine c_seq ?_
 refine c_region ?_
 refine st hA2 (op_assign rfl (evc _ _)) rfl rfl (by decide) fun a3 hA4 => ?_; clear hA2 a1
 have hS5 := hS0.nil_row 96 3; clear hS0
 refine wl_nil ?_
 refine then_n ?_
 refine c_seq ?_
 refine c_seq ?_
 refine c_region ?_
 refine st hA4 (op_assign rfl (evc _ _)) rfl rfl (by decide) fun a6 hA7 => ?_; clear hA4 a3
 refine wl_nil ?_
 refine then_n ?_
 refine c_block ?_
 have hS8 := hS5.segs_nil; clear hS5
 have hA9 := hA7.as [(4, (Value.int .i64 0)), (3, (Value.slice none 0 0)), (0, vu)] rfl; clear hA7
 refine c_loop (G := Nat) (fun (k : Nat) a_ w_ => ∃ lv_ : List Value, ∃ v3_ : Value, Fr 28 [] [(4, (Value.int .i64 (k : Int))), (3, v3_), (0, vu)] a_ ∧ Sep NoB w w_ [(segsR true lv_ (rs.take k)), (row v3_ 96 3 ((rs.take k).length) (vtrips (runV lv_ (rs.take k)))), (runsR false vu lv rs)] ∧ (k ≤ rs.length)) (fun k => rs.length - k) 0 ⟨[], (Value.slice none 0 0), hA9.as _ rfl, hS8, by omega⟩ ?_
 clear hA9 hS8 a6
 rintro k a10 w12 ⟨lv_, v3_, hA11, hS13, hk⟩
 have hol := segs_len hS13 0 rfl; have htk : (rs.take k).length ≤ 9 := by simp only [List.length_take]; omega
 refine c_seq ?_
 refine c_seq ?_
 refine c_region ?_
 refine st hA11 (op_move rfl (hA11.ev rfl)) rfl rfl (by decide) fun a14 hA15 => ?_; clear hA11 a10
 refine st hA15 (op_move rfl (hA15.ev rfl)) rfl rfl (by decide) fun a16 hA17 => ?_; clear hA15 a14
 refine st hA17 (op_lenS rfl un_25 (hA17.ev rfl) (runs_at (hS13.ok 2 _ rfl)).runs) rfl rfl (by decide) fun a18 hA19 => ?_; clear hA17 a16
 refine st hA19 (op_lss rfl (hA19.ev rfl) (hA19.ev rfl)) rfl rfl (by decide) fun a20 hA21 => ?_; clear hA19 a18
 refine wl_nil ?_
 refine then_n ?_
 by_cases hb22 : (k : Int) < (rs.length : Int)
 ·skip
  rw [decide_eq_true hb22] at hA21
  refine c_true hA21 rfl ?_
  refine c_skip ?_
  refine then_n ?_
  refine c_seq ?_
  refine c_block ?_
  have hA23 := hA21.as [(4, (Value.int .i64 (k : Int))), (3, v3_), (0, vu)] rfl; clear hA21
  refine c_drawV mixed hA23 hS13 15 [[], [], [], [1, 2], [3], [4], [5], [], [], [7, 8], [9], [10], [11], [6, 12], [6, 13]] [(fun (vs24 : Nat → Value) (v_ : Value) (rs_ : List Res) => v_ = v3_ ∧ rs_ = []), (fun (vs24 : Nat → Value) (v_ : Value) (rs_ : List Res) => v_ = vu ∧ rs_ = []), (fun (vs24 : Nat → Value) (v_ : Value) (rs_ : List Res) => v_ = (Value.int .i64 (k : Int)) ∧ rs_ = []), (fun (vs24 : Nat → Value) (v_ : Value) (rs_ : List Res) => v_ = (eptr vu (k * 3)) ∧ rs_ = []), (fun (vs24 : Nat → Value) (v_ : Value) (rs_ : List Res) => v_ = (eptr vu (k * 3 + 0)) ∧ rs_ = []), (fun (vs24 : Nat → Value) (v_ : Value) (rs_ : List Res) => v_ = (lv.getD k nilS) ∧ rs_ = []), (fun (vs24 : Nat → Value) (v_ : Value) (rs_ : List Res) => True ∧ rs_ = [(row v_ 67 3 ((rs.getD k run0).segs.length) (trips ((rs.getD k run0).segs)))]), (fun (vs24 : Nat → Value) (v_ : Value) (rs_ : List Res) => v_ = vu ∧ rs_ = []), (fun (vs24 : Nat → Value) (v_ : Value) (rs_ : List Res) => v_ = (Value.int .i64 (k : Int)) ∧ rs_ = []), (fun (vs24 : Nat → Value) (v_ : Value) (rs_ : List Res) => v_ = (eptr vu (k * 3)) ∧ rs_ = []), (fun (vs24 : Nat → Value) (v_ : Value) (rs_ : List Res) => v_ = (eptr vu (k * 3 + 1)) ∧ rs_ = []), (fun (vs24 : Nat → Value) (v_ : Value) (rs_ : List Res) => v_ = (Value.agg #[(Value.int .i64 ((rs.getD k run0).lo)), (Value.int .i64 ((rs.getD k run0).hi))]) ∧ rs_ = []), (fun (vs24 : Nat → Value) (v_ : Value) (rs_ : List Res) => v_ = (Value.agg #[(Value.int .i64 ((rs.getD k run0).lo)), (Value.int .i64 ((rs.getD k run0).hi))]) ∧ rs_ = []), (fun (vs24 : Nat → Value) (v_ : Value) (rs_ : List Res) => v_ = (Value.agg #[(vs24 6), (Value.int .i64 ((rs.getD k run0).lo)), (Value.int .i64 ((rs.getD k run0).hi))]) ∧ rs_ = []), (fun (vs24 : Nat → Value) (v_ : Value) (rs_ : List Res) => True ∧ rs_ = [(row v_ 96 3 1 [(vs24 6), (Value.int .i64 ((rs.getD k run0).lo)), (Value.int .i64 ((rs.getD k run0).hi))])])] (by decide +kernel) (by decide +kernel) rfl rfl ⟨(fun _ _ _ _ _ h_ => h_), (fun _ _ _ _ _ h_ => h_), (fun _ _ _ _ _ h_ => h_), (fun _ _ _ _ _ h_ => h_), (fun _ _ _ _ _ h_ => h_), (fun _ _ _ _ _ h_ => h_), (fun _ _ _ _ _ h_ => h_), (fun _ _ _ _ _ h_ => h_), (fun _ _ _ _ _ h_ => h_), (fun _ _ _ _ _ h_ => h_), (fun _ _ _ _ _ h_ => h_), (fun _ _ _ _ _ h_ => h_), (fun _ _ _ _ _ h_ => h_), (fun _ _ _ _ he_ h_ => by dsimp only at h_ ⊢; rw [← he_ 6 (by decide)]; exact h_), (fun _ _ _ _ he_ h_ => by dsimp only at h_ ⊢; rw [← he_ 6 (by decide)]; exact h_), trivial⟩ ?_ ?_
  ·skip
   refine ⟨fun a w vs24 hA hS hd => ?_, ?_⟩
   ·skip
    exact opG_of rfl (vv (op_move rfl (hA.ev rfl)) (And.intro rfl rfl))
   refine ⟨fun a w vs24 hA hS hd => ?_, ?_⟩
   ·skip
    exact opG_of rfl (vv (op_move rfl (hA.ev rfl)) (And.intro rfl rfl))
   refine ⟨fun a w vs24 hA hS hd => ?_, ?_⟩
   ·skip
    exact opG_of rfl (vv (op_move rfl (hA.ev rfl)) (And.intro rfl rfl))
   refine ⟨fun a w vs24 hA hS hd => ?_, ?_⟩
   ·skip
    obtain ⟨e1, rs1, hy1, hp1⟩ := hd 1 (by decide)
    obtain ⟨hv1, hr1⟩ := hy1; subst hr1
    rw [hv1] at e1
    obtain ⟨e2, rs2, hy2, hp2⟩ := hd 2 (by decide)
    obtain ⟨hv2, hr2⟩ := hy2; subst hr2
    rw [hv2] at e2
    exact opG_of rfl (vv (op_indexS rfl un_25 ty_54 (tmp_ev (slot_ev e1 rfl)) (i := k) (tmp_ev (slot_ev e2 rfl)) (runs_at (hS.ok 2 _ rfl)).runs (by decide) (by omega)) (And.intro rfl rfl))
   refine ⟨fun a w vs24 hA hS hd => ?_, ?_⟩
   ·skip
    obtain ⟨e3, rs3, hy3, hp3⟩ := hd 3 (by decide)
    obtain ⟨hv3, hr3⟩ := hy3; subst hr3
    rw [hv3] at e3
    exact opG_of rfl (vv (op_fieldS rfl fd_54_0 (tmp_ev (slot_ev e3 rfl)) (runs_at (hS.ok 2 _ rfl)).runs (by rw [((runs_at (hS.ok 2 _ rfl)).runs).1]; omega)) (And.intro rfl rfl))
   refine ⟨fun a w vs24 hA hS hd => ?_, ?_⟩
   ·skip
    obtain ⟨e4, rs4, hy4, hp4⟩ := hd 4 (by decide)
    obtain ⟨hv4, hr4⟩ := hy4; subst hr4
    rw [hv4] at e4
    exact opG_of rfl (vv (op_load1E rfl ty_51 (tmp_ev (slot_ev e4 rfl)) (runs_at (hS.ok 2 _ rfl)).runs (runs_at0 (runs_at (hS.ok 2 _ rfl)).len (by omega))) (And.intro rfl rfl))
   refine ⟨fun a w vs24 hA hS hd => ?_, ?_⟩
   ·skip
    obtain ⟨e5, rs5, hy5, hp5⟩ := hd 5 (by decide)
    obtain ⟨hv5, hr5⟩ := hy5; subst hr5
    rw [hv5] at e5
    exact opG_of rfl (vn (op_call rfl en_29 (ev1 (tmp_ev (slot_ev e5 rfl))) (Plan_ok _ ((rs.getD k run0).segs) _ ((runs_at (hS.ok 2 _ rfl)).segs k (by omega)) (hsg k (by omega)))) (fun v w' h => ⟨_, And.intro trivial rfl, (Sep.start NoB _).new_row h.1 h.2, rfl⟩))
   refine ⟨fun a w vs24 hA hS hd => ?_, ?_⟩
   ·skip
    exact opG_of rfl (vv (op_move rfl (hA.ev rfl)) (And.intro rfl rfl))
   refine ⟨fun a w vs24 hA hS hd => ?_, ?_⟩
   ·skip
    exact opG_of rfl (vv (op_move rfl (hA.ev rfl)) (And.intro rfl rfl))
   refine ⟨fun a w vs24 hA hS hd => ?_, ?_⟩
   ·skip
    obtain ⟨e7, rs7, hy7, hp7⟩ := hd 7 (by decide)
    obtain ⟨hv7, hr7⟩ := hy7; subst hr7
    rw [hv7] at e7
    obtain ⟨e8, rs8, hy8, hp8⟩ := hd 8 (by decide)
    obtain ⟨hv8, hr8⟩ := hy8; subst hr8
    rw [hv8] at e8
    exact opG_of rfl (vv (op_indexS rfl un_25 ty_54 (tmp_ev (slot_ev e7 rfl)) (i := k) (tmp_ev (slot_ev e8 rfl)) (runs_at (hS.ok 2 _ rfl)).runs (by decide) (by omega)) (And.intro rfl rfl))
   refine ⟨fun a w vs24 hA hS hd => ?_, ?_⟩
   ·skip
    obtain ⟨e9, rs9, hy9, hp9⟩ := hd 9 (by decide)
    obtain ⟨hv9, hr9⟩ := hy9; subst hr9
    rw [hv9] at e9
    exact opG_of rfl (vv (op_fieldS rfl fd_54_1 (tmp_ev (slot_ev e9 rfl)) (runs_at (hS.ok 2 _ rfl)).runs (by rw [((runs_at (hS.ok 2 _ rfl)).runs).1]; omega)) (And.intro rfl rfl))
   refine ⟨fun a w vs24 hA hS hd => ?_, ?_⟩
   ·skip
    obtain ⟨e10, rs10, hy10, hp10⟩ := hd 10 (by decide)
    obtain ⟨hv10, hr10⟩ := hy10; subst hr10
    rw [hv10] at e10
    exact opG_of rfl (vv (op_loadAE rfl ty_48 (tmp_ev (slot_ev e10 rfl)) (runs_at (hS.ok 2 _ rfl)).runs (runs_sub (runs_at (hS.ok 2 _ rfl)).len (by omega)) rfl (by decide)) (And.intro rfl rfl))
   refine ⟨fun a w vs24 hA hS hd => ?_, ?_⟩
   ·skip
    obtain ⟨e11, rs11, hy11, hp11⟩ := hd 11 (by decide)
    obtain ⟨hv11, hr11⟩ := hy11; subst hr11
    rw [hv11] at e11
    exact opG_of rfl (vx (op_call rfl en_25 (ev1 (tmp_ev (slot_ev e11 rfl))) (to_ok _ _ _)) (And.intro rfl rfl))
   refine ⟨fun a w vs24 hA hS hd => ?_, ?_⟩
   ·skip
    obtain ⟨e6, rs6, hy6, hp6⟩ := hd 6 (by decide)
    obtain ⟨hv6, hr6⟩ := hy6; subst hr6
    have hp6_0 := hp6 _ (List.mem_of_getElem? (i := 0) rfl)
    obtain ⟨e12, rs12, hy12, hp12⟩ := hd 12 (by decide)
    obtain ⟨hv12, hr12⟩ := hy12; subst hr12
    rw [hv12] at e12
    exact opG_of rfl (vv (op_build rfl (pv2 (tmp_ev (slot_ev e6 rfl)) (tmp_ev (slot_ev e12 rfl))) (bd_96_0s_1iia _ (SlAt.isSl (SlAt.of_row hp6_0)) _ _)) (And.intro rfl rfl))
   refine ⟨fun a w vs24 hA hS hd => ?_, ?_⟩
   ·skip
    obtain ⟨e6, rs6, hy6, hp6⟩ := hd 6 (by decide)
    obtain ⟨hv6, hr6⟩ := hy6; subst hr6
    have hp6_0 := hp6 _ (List.mem_of_getElem? (i := 0) rfl)
    obtain ⟨e13, rs13, hy13, hp13⟩ := hd 13 (by decide)
    obtain ⟨hv13, hr13⟩ := hy13; subst hr13
    rw [hv13] at e13
    exact opG_of rfl (vblt rfl (pv1 (tmp_ev (slot_ev e13 rfl))) un_35 ty_96 ze_96 (by decide) (cs := [(vs24 6), (Value.int .i64 ((rs.getD k run0).lo)), (Value.int .i64 ((rs.getD k run0).hi))]) (bs_96_1_0viia _ _ _) rfl (by decide) (fun _ => And.intro trivial rfl))
   trivial
  intro a25 w26 vs24 rsf30 hA27 hH29 hS28; clear hA23 hS13
  obtain ⟨hs_0, hy_0⟩ := hH29 0 (by decide)
  obtain ⟨hv_0, hr_0⟩ := hy_0
  obtain ⟨hs_1, hy_1⟩ := hH29 1 (by decide)
  obtain ⟨hv_1, hr_1⟩ := hy_1
  obtain ⟨hs_2, hy_2⟩ := hH29 2 (by decide)
  obtain ⟨hv_2, hr_2⟩ := hy_2
  obtain ⟨hs_3, hy_3⟩ := hH29 3 (by decide)
  obtain ⟨hv_3, hr_3⟩ := hy_3
  obtain ⟨hs_4, hy_4⟩ := hH29 4 (by decide)
  obtain ⟨hv_4, hr_4⟩ := hy_4
  obtain ⟨hs_5, hy_5⟩ := hH29 5 (by decide)
  obtain ⟨hv_5, hr_5⟩ := hy_5
  obtain ⟨hs_6, hy_6⟩ := hH29 6 (by decide)
  obtain ⟨hv_6, hr_6⟩ := hy_6
  obtain ⟨hs_7, hy_7⟩ := hH29 7 (by decide)
  obtain ⟨hv_7, hr_7⟩ := hy_7
  obtain ⟨hs_8, hy_8⟩ := hH29 8 (by decide)
  obtain ⟨hv_8, hr_8⟩ := hy_8
  obtain ⟨hs_9, hy_9⟩ := hH29 9 (by decide)
  obtain ⟨hv_9, hr_9⟩ := hy_9
  obtain ⟨hs_10, hy_10⟩ := hH29 10 (by decide)
  obtain ⟨hv_10, hr_10⟩ := hy_10
  obtain ⟨hs_11, hy_11⟩ := hH29 11 (by decide)
  obtain ⟨hv_11, hr_11⟩ := hy_11
  obtain ⟨hs_12, hy_12⟩ := hH29 12 (by decide)
  obtain ⟨hv_12, hr_12⟩ := hy_12
  obtain ⟨hs_13, hy_13⟩ := hH29 13 (by decide)
  obtain ⟨hv_13, hr_13⟩ := hy_13
  obtain ⟨hs_14, hy_14⟩ := hH29 14 (by decide)
  obtain ⟨hv_14, hr_14⟩ := hy_14
  have hS31 : Sep NoB w w26 [(row (vs24 6) 67 3 ((rs.getD k run0).segs.length) (trips ((rs.getD k run0).segs))), (row (vs24 14) 96 3 1 [(vs24 6), (Value.int .i64 ((rs.getD k run0).lo)), (Value.int .i64 ((rs.getD k run0).hi))]), (segsR true lv_ (rs.take k)), (row v3_ 96 3 ((rs.take k).length) (vtrips (runV lv_ (rs.take k)))), (runsR false vu lv rs)] := by rw [show catR rsf30 0 15 = ([(row (vs24 6) 67 3 ((rs.getD k run0).segs.length) (trips ((rs.getD k run0).segs))), (row (vs24 14) 96 3 1 [(vs24 6), (Value.int .i64 ((rs.getD k run0).lo)), (Value.int .i64 ((rs.getD k run0).hi))])] : List Res) by (try simp only [catR, hr_0, hr_1, hr_2, hr_3, hr_4, hr_5, hr_6, hr_7, hr_8, hr_9, hr_10, hr_11, hr_12, hr_13, hr_14]); (try rfl)] at hS28; exact hS28
  rw [hv_0] at hs_0
  have hA32 : Fr 28 [] [(11, v3_), (4, (Value.int .i64 (k : Int))), (3, v3_), (0, vu)] a25 := hA27.add (slot_ev hs_0 rfl); clear hA27
  have hA33 : Fr 28 [] [(25, (vs24 14)), (11, v3_), (4, (Value.int .i64 (k : Int))), (3, v3_), (0, vu)] a25 := hA32.add (slot_ev hs_14 rfl); clear hA32
  clear hH29 hS28 hs_0 hs_1 hs_2 hs_3 hs_4 hs_5 hs_6 hs_7 hs_8 hs_9 hs_10 hs_11 hs_12 hs_13 hs_14
  clear hr_0
  clear hv_0
  clear hr_1
  clear hv_1
  clear hr_2
  clear hv_2
  clear hr_3
  clear hv_3
  clear hr_4
  clear hv_4
  clear hr_5
  clear hv_5
  clear hr_6
  clear hv_6
  clear hr_7
  clear hv_7
  clear hr_8
  clear hv_8
  clear hr_9
  clear hv_9
  clear hr_10
  clear hv_10
  clear hr_11
  clear hv_11
  clear hr_12
  clear hv_12
  clear hr_13
  clear hv_13
  clear hr_14
  clear hv_14
  refine stw hA33 (op_append hS31 rfl un_35 el_96 (hA33.ev rfl) (hA33.ev rfl) (i := 3) rfl (SlAt.of_row (hS31.ok_row 1 rfl)) (all_c (SlAt.one (SlAt.of_row (hS31.ok_row 0 rfl))) (all_c rfl (all_c rfl all_n))) (by simp only [maxLen]; omega) (by omega)) rfl rfl (by decide) ?_
  intro a34 v37 w36 hS38 hA35
  have hS39 := hS38.row_say (i := 3) rfl (n' := ((rs.take k) ++ [(rs.getD k run0)]).length) (xs' := (vtrips (runV (lv_ ++ [(vs24 6)]) ((rs.take k) ++ [(rs.getD k run0)])))) (by simp) (runs_snoc hol (vs24 6) (rs.getD k run0)); clear hS38 hA33 hS31 a25
  refine st hA35 (op_assign rfl (hA35.ev rfl)) rfl rfl (by decide) fun a40 hA41 => ?_; clear hA35 a34
  refine wl_nil ?_
  refine blk_n ?_
  refine then_n ?_
  refine c_region ?_
  refine st hA41 (op_move rfl (hA41.ev rfl)) rfl rfl (by decide) fun a42 hA43 => ?_; clear hA41 a40
  refine st hA43 (op_add rfl (hA43.ev rfl) (evc _ _) (by omega) (by omega)) rfl rfl (by decide) fun a44 hA45 => ?_; clear hA43 a42
  refine st hA45 (op_assign rfl (hA45.ev rfl)) rfl rfl (by decide) fun a46 hA47 => ?_; clear hA45 a44
  refine wl_nil ?_
  have hS48 : Sep NoB w w36 [(row (vs24 6) 67 3 ((rs.getD k run0).segs.length) (trips ((rs.getD k run0).segs))), (segsR true lv_ (rs.take k)), (row (vs24 14) 96 3 1 [(vs24 6), (Value.int .i64 ((rs.getD k run0).lo)), (Value.int .i64 ((rs.getD k run0).hi))]), (row v37 96 3 (((rs.take k) ++ [(rs.getD k run0)]).length) (vtrips (runV (lv_ ++ [(vs24 6)]) ((rs.take k) ++ [(rs.getD k run0)])))), (runsR false vu lv rs)] := hS39.keep [0, 2, 1, 3, 4] (by decide) _ rfl rfl; clear hS39
  have hS49 := hS48.segs_snoc (x := rs.getD k run0); clear hS48
  have hS50 : Sep NoB w w36 [(segsR true (lv_ ++ [(vs24 6)]) (rs.take k ++ [rs.getD k run0])), (row v37 96 3 (((rs.take k) ++ [(rs.getD k run0)]).length) (vtrips (runV (lv_ ++ [(vs24 6)]) ((rs.take k) ++ [(rs.getD k run0)])))), (runsR false vu lv rs)] := hS49.keep [0, 2, 3] (by decide) _ rfl rfl; clear hS49
  exact then_n ⟨k + 1, ⟨(lv_ ++ [(vs24 6)]), v37, hA47.as _ rfl, ((hS50.row_say (i := 1) rfl (by rw [take_run (by omega)]) (by rw [take_run (by omega)])).segs_say (i := 0) rfl (by rw [take_run (by omega)])), by omega⟩, by omega⟩
 ·skip
  rw [decide_eq_false hb22] at hA21
  refine c_false hA21 rfl ?_
  refine c_exit ?_
  refine then_exit ?_
  refine then_exit ?_
  refine blk_hit ?_
  refine then_n ?_
  refine c_seq ?_
  have hA51 := hA21.as [(3, v3_)] rfl; clear hA21
  refine c_region ?_
  refine st hA51 (op_move rfl (hA51.ev rfl)) rfl rfl (by decide) fun a52 hA53 => ?_; clear hA51 a20
  refine st hA53 (op_assign rfl (hA53.ev rfl)) rfl rfl (by decide) fun a54 hA55 => ?_; clear hA53 a52
  refine wl_nil ?_
  refine then_n ?_
  refine c_ret ?_
  refine fin_run hA55 (.inl rfl) (run_results1 hA55 rfl (.tmp rfl)) ?_
  have hz := hS13.keep [1, 0] (by decide) [_, _] rfl rfl
  rw [show k = rs.length by omega, List.take_length] at hz
  exact ⟨_, hz.runs_join rfl⟩
end Go.Proofs.Ytkkglkdnnfegkaa

namespace Go.Proofs.Ytkkglkdnnfegkaa
open Go.RowKit Go.Eng
theorem take_set {arr l : List Int} {x : Int} (h : arr.take l.length = l) (hl : l.length < arr.length) : (arr.set l.length x).take (l ++ [x]).length = l ++ [x] := by
  simp only [List.length_append, List.length_cons, List.length_nil, Nat.zero_add]
  rw [List.take_add_one, List.take_set_of_le (Nat.le_refl _), h]
  simp [hl]
end Go.Proofs.Ytkkglkdnnfegkaa

namespace Go.Proofs.Ytkkglkdnnfegkaa
open Go.RowKit Go.Shelf Go.Eng
end Go.Proofs.Ytkkglkdnnfegkaa

namespace Go.Proofs.Ytkkglkdnnfegkaa
open Go.RowKit Go.Eng
end Go.Proofs.Ytkkglkdnnfegkaa

namespace Go.Proofs.Ytkkglkdnnfegkaa
open Go.RowKit Go.Shelf Go.Eng
theorem en_41 : ∀ args w, (callFunc 41 args).run Try.prog w = .ok (.enter 41 args) w := enters_of Try.func41 (by kernel_rfl) rfl
end Go.Proofs.Ytkkglkdnnfegkaa

namespace Go.Proofs.Ytkkglkdnnfegkaa
open Go.RowKit Go.Eng
def hotR : List (Int × Int) := [(1, 3), (2, 8)]
def madeR : List RunD := [⟨[(0, 100, 100), (1, 10, 10)], 220, 250⟩, ⟨[(1, 20, 30)], 90, 100⟩]
def hotP : List Seg := [(0, 1000, 1000), (1, 10, 20)]
theorem poss_hot : possF hotR madeR = 0 := by decide +kernel
theorem plan_hot : planF hotR madeR hotP = 0 := by decide +kernel
theorem rates_hot : ratesF hotR madeR = [(2, 2), (3, 5)] := by decide +kernel
theorem many_hot : (allowedF hotR madeR).length = 3 := by decide +kernel
theorem low_hot : stLo hotP (leastR hotR madeR hotP) = 2030 := by decide +kernel
theorem high_hot : stHi hotP (mostR hotR madeR hotP) = 2100 := by decide +kernel
theorem life_hot : lifeE hotR madeR 1 1000 = 0 := by decide +kernel
theorem life_hot1 : (lifeR (allowedF hotR madeR) (1 : Int).toNat 1000).1 = 200 := by decide +kernel
theorem life_hot2 : (lifeR (allowedF hotR madeR) (1 : Int).toNat 1000).2 = 334 := by decide +kernel
end Go.Proofs.Ytkkglkdnnfegkaa

namespace Go.Proofs.Ytkkglkdnnfegkaa
open Go.RowKit Go.Shelf Go.Eng
theorem en_31 : ∀ args w, (callFunc 31 args).run Try.prog w = .ok (.enter 31 args) w := enters_of Try.func31 (by kernel_rfl) rfl
theorem bs_42_2_0iia_1iia (x0_0 : Int) (x0_1 : Int) (x1_0 : Int) (x1_1 : Int) : Instr.fill (fun i => some (i * 2, 2)) ((Array.range (2 * 2)).map ((Value.agg #[(Value.int .i64 0), (Value.int .i64 0)]).cells[· % (Value.agg #[(Value.int .i64 0), (Value.int .i64 0)]).cells.size]!)) [(0, .agg #[(.int .i64 x0_0), (.int .i64 x0_1)]), (1, .agg #[(.int .i64 x1_0), (.int .i64 x1_1)])] = some (([(.int .i64 x0_0), (.int .i64 x0_1), (.int .i64 x1_0), (.int .i64 x1_1)] : List Value).toArray) := by kernel_rfl
theorem bd_33_0s (x0_0 : Value) (hx0_0 : IsSl x0_0) (w : World) : (Instr.build 33 #[(0, x0_0)]).run Try.prog w = .ok (.agg #[x0_0]) w := by obtain ⟨Ax0_0, Bx0_0, Cx0_0, rfl⟩ := hx0_0; kernel_rfl
theorem bs_67_2_0iiia_1iiia (x0_0 : Int) (x0_1 : Int) (x0_2 : Int) (x1_0 : Int) (x1_1 : Int) (x1_2 : Int) : Instr.fill (fun i => some (i * 3, 3)) ((Array.range (2 * 3)).map ((Value.agg #[(Value.int .i64 0), (Value.int .i64 0), (Value.int .i64 0)]).cells[· % (Value.agg #[(Value.int .i64 0), (Value.int .i64 0), (Value.int .i64 0)]).cells.size]!)) [(0, .agg #[(.int .i64 x0_0), (.int .i64 x0_1), (.int .i64 x0_2)]), (1, .agg #[(.int .i64 x1_0), (.int .i64 x1_1), (.int .i64 x1_2)])] = some (([(.int .i64 x0_0), (.int .i64 x0_1), (.int .i64 x0_2), (.int .i64 x1_0), (.int .i64 x1_1), (.int .i64 x1_2)] : List Value).toArray) := by kernel_rfl
theorem bs_96_2_0viia_1viia (x0_0 : Value) (x0_1 : Int) (x0_2 : Int) (x1_0 : Value) (x1_1 : Int) (x1_2 : Int) : Instr.fill (fun i => some (i * 3, 3)) ((Array.range (2 * 3)).map ((Value.agg #[(Value.slice none 0 0), (Value.int .i64 0), (Value.int .i64 0)]).cells[· % (Value.agg #[(Value.slice none 0 0), (Value.int .i64 0), (Value.int .i64 0)]).cells.size]!)) [(0, .agg #[x0_0, (.int .i64 x0_1), (.int .i64 x0_2)]), (1, .agg #[x1_0, (.int .i64 x1_1), (.int .i64 x1_2)])] = some (([x0_0, (.int .i64 x0_1), (.int .i64 x0_2), x1_0, (.int .i64 x1_1), (.int .i64 x1_2)] : List Value).toArray) := by kernel_rfl
theorem hot_ok (w : World) :
  Calls Try.prog 51 #[] w (Ret fun v w' => ∃ u, v = .agg #[u] ∧ Sep NoB w w' [row u 42 2 2 (pairs hotR)]) := by
 refine calls_enter Try.func51 rfl fun a0 hA0 => ?_
 replace hA0 : Fr 5 [] [] a0 := hA0
 have hS0 : Sep NoB w w [] := Sep.start _ _
 refine c_seq ?_
 refine c_region ?_
 refine stw hA0 (op_alloc hS0 rfl ze_33 (cs := [(Value.slice none 0 0)]) rfl) rfl rfl (by decide) ?_
 rintro a1 _ w3 ⟨b4, rfl, hS5⟩ hA2; clear hA0 hS0 a0
 refine wl_nil ?_
 refine then_n ?_
 refine c_seq ?_
 refine c_region ?_
 refine stw hA2 (op_call rfl en_31 (ev2 (evc _ _) (evc _ _)) (between_ok _ _ _)) rfl rfl (by decide) ?_
 rintro a6 _ w8 ⟨rfl, hE9⟩ hA7; have hS10 := hS5.step hE9; clear hE9 hA2 hS5 a1
 refine stw hA7 (op_call rfl en_31 (ev2 (evc _ _) (evc _ _)) (between_ok _ _ _)) rfl rfl (by decide) ?_
 rintro a11 _ w13 ⟨rfl, hE14⟩ hA12; have hS15 := hS10.step hE14; clear hE14 hA7 hS10 a6
 refine stw hA12 (op_buildSlice hS15 rfl (pv2 (hA12.ev rfl) (hA12.ev rfl)) un_28 ty_42 ze_42 (by decide) (cs := [(Value.int .i64 1), (Value.int .i64 3), (Value.int .i64 2), (Value.int .i64 8)]) (bs_42_2_0iia_1iia _ _ _ _)) rfl rfl (by decide) ?_
 rintro a16 _ w18 ⟨b19, rfl, hS20⟩ hA17; clear hA12 hS15 a11
 refine st hA17 (op_build rfl (pv1 (hA17.ev rfl)) (bd_33_0s _ ⟨_, _, _, rfl⟩)) rfl rfl (by decide) fun a21 hA22 => ?_; clear hA17 a16
 refine sts hA22 (op_store hS20 rfl ty_33 (hA22.ev rfl) (hA22.ev rfl) (i := 1) rfl (vs := [(Value.slice (some ⟨b19, 0, none⟩) 2 2)]) rfl rfl (all_c rfl all_n) (Nat.le_of_ble_eq_true rfl)) rfl rfl ?_
 intro _ w23 hS24 hA25; clear hA22
 have hS26 : Sep NoB w w23 [(blk b19 42 [(Value.int .i64 1), (Value.int .i64 3), (Value.int .i64 2), (Value.int .i64 8)]), (blk b4 33 [(Value.slice (some ⟨b19, 0, none⟩) 2 2)])] := hS24; clear hS24 hS20
 refine wl_nil ?_
 refine then_n ?_
 refine c_ret ?_
 refine fin_run hA25 (.inl rfl) (run_results1 hA25 rfl (.cellA rfl ty_33 (hS26.bk 1 rfl) (l := [(Value.slice (some ⟨b19, 0, none⟩) 2 2)]) rfl rfl)) ?_
 have hz : Sep NoB w w23 [blk b19 42 _] := hS26.keep [0] (by decide) _ rfl rfl
 exact ⟨_, rfl, (hz.blk_row (i := 0) (sz := 2) (n := 2) rfl rfl (by decide)).keep [0] (by decide) [row _ 42 2 2 (pairs hotR)] rfl rfl⟩
set_option maxHeartbeats 1000000 in
theorem made_ok (w : World) :
  Calls Try.prog 52 #[] w (Ret fun v w' => ∃ lv, Sep NoB w w' [runsR true v lv madeR]) := by
 refine calls_enter Try.func52 rfl fun a0 hA0 => ?_
 replace hA0 : Fr 14 [] [] a0 := hA0
 have hS0 : Sep NoB w w [] := Sep.start _ _
 refine c_seq ?_
 refine c_region ?_
 refine st hA0 (op_assign rfl (evc _ _)) rfl rfl (by decide) fun a1 hA2 => ?_; clear hA0 a0
 refine wl_nil ?_
 refine then_n ?_
 refine c_seq ?_
 refine c_region ?_
 refine stw hA2 (op_call rfl en_31 (ev2 (evc _ _) (evc _ _)) (between_ok _ _ _)) rfl rfl (by decide) ?_
 rintro a3 _ w5 ⟨rfl, hE6⟩ hA4; have hS7 := hS0.step hE6; clear hE6 hA2 hS0 a1
 refine st hA4 (op_build rfl (pv2 (evc _ _) (hA4.ev rfl)) (bd_67_0i_1iia _ _ _)) rfl rfl (by decide) fun a8 hA9 => ?_; clear hA4 a3
 refine stw hA9 (op_call rfl en_31 (ev2 (evc _ _) (evc _ _)) (between_ok _ _ _)) rfl rfl (by decide) ?_
 rintro a10 _ w12 ⟨rfl, hE13⟩ hA11; have hS14 := hS7.step hE13; clear hE13 hA9 hS7 a8
 refine st hA11 (op_build rfl (pv2 (evc _ _) (hA11.ev rfl)) (bd_67_0i_1iia _ _ _)) rfl rfl (by decide) fun a15 hA16 => ?_; clear hA11 a10
 refine stw hA16 (op_buildSlice hS14 rfl (pv2 (hA16.ev rfl) (hA16.ev rfl)) un_58 ty_67 ze_67 (by decide) (cs := [(Value.int .i64 0), (Value.int .i64 100), (Value.int .i64 100), (Value.int .i64 1), (Value.int .i64 10), (Value.int .i64 10)]) (bs_67_2_0iiia_1iiia _ _ _ _ _ _)) rfl rfl (by decide) ?_
 rintro a17 _ w19 ⟨b20, rfl, hS21⟩ hA18; clear hA16 hS14 a15
 refine stw hA18 (op_call rfl en_31 (ev2 (evc _ _) (evc _ _)) (between_ok _ _ _)) rfl rfl (by decide) ?_
 rintro a22 _ w24 ⟨rfl, hE25⟩ hA23; have hS26 := hS21.step hE25; clear hE25 hA18 hS21 a17
 refine st hA23 (op_build rfl (pv2 (hA23.ev rfl) (hA23.ev rfl)) (bd_96_0s_1iia _ ⟨_, _, _, rfl⟩ _ _)) rfl rfl (by decide) fun a27 hA28 => ?_; clear hA23 a22
 refine stw hA28 (op_call rfl en_31 (ev2 (evc _ _) (evc _ _)) (between_ok _ _ _)) rfl rfl (by decide) ?_
 rintro a29 _ w31 ⟨rfl, hE32⟩ hA30; have hS33 := hS26.step hE32; clear hE32 hA28 hS26 a27
 refine st hA30 (op_build rfl (pv2 (evc _ _) (hA30.ev rfl)) (bd_67_0i_1iia _ _ _)) rfl rfl (by decide) fun a34 hA35 => ?_; clear hA30 a29
 refine stw hA35 (op_buildSlice hS33 rfl (pv1 (hA35.ev rfl)) un_58 ty_67 ze_67 (by decide) (cs := [(Value.int .i64 1), (Value.int .i64 20), (Value.int .i64 30)]) (bs_67_1_0iiia _ _ _)) rfl rfl (by decide) ?_
 rintro a36 _ w38 ⟨b39, rfl, hS40⟩ hA37; clear hA35 hS33 a34
 refine stw hA37 (op_call rfl en_31 (ev2 (evc _ _) (evc _ _)) (between_ok _ _ _)) rfl rfl (by decide) ?_
 rintro a41 _ w43 ⟨rfl, hE44⟩ hA42; have hS45 := hS40.step hE44; clear hE44 hA37 hS40 a36
 refine st hA42 (op_build rfl (pv2 (hA42.ev rfl) (hA42.ev rfl)) (bd_96_0s_1iia _ ⟨_, _, _, rfl⟩ _ _)) rfl rfl (by decide) fun a46 hA47 => ?_; clear hA42 a41
 refine stw hA47 (op_buildSlice hS45 rfl (pv2 (hA47.ev rfl) (hA47.ev rfl)) un_35 ty_96 ze_96 (by decide) (cs := [(Value.slice (some ⟨b20, 0, none⟩) 2 2), (Value.int .i64 220), (Value.int .i64 250), (Value.slice (some ⟨b39, 0, none⟩) 1 1), (Value.int .i64 90), (Value.int .i64 100)]) (bs_96_2_0viia_1viia _ _ _ _ _ _)) rfl rfl (by decide) ?_
 rintro a48 _ w50 ⟨b51, rfl, hS52⟩ hA49; clear hA47 hS45 a46
 refine st hA49 (op_assign rfl (hA49.ev rfl)) rfl rfl (by decide) fun a53 hA54 => ?_; clear hA49 a48
 refine wl_nil ?_
 refine then_n ?_
 refine c_ret ?_
 refine fin_run hA54 (.inl rfl) (run_results1 hA54 rfl (.tmp rfl)) ?_
 have h0 := hS52.keep [0, 2, 1] (by decide) _ rfl rfl
 have h1 := ((h0.blk_row (i := 0) (sz := 3) (n := 2) rfl rfl (by decide)).blk_row (i := 1) (sz := 3) (n := 2) rfl rfl (by decide)).blk_row (i := 2) (sz := 3) (n := 1) rfl rfl (by decide)
 have h2 := (h1.keep [1, 2, 0] (by decide) [row (Value.slice (some ⟨b20, 0, none⟩) 2 2) 67 3 2 (trips [(0, 100, 100), (1, 10, 10)]), row (Value.slice (some ⟨b39, 0, none⟩) 1 1) 67 3 1 (trips [(1, 20, 30)]), row (Value.slice (some ⟨b51, 0, none⟩) 2 2) 96 3 2 (vtrips (runV [(Value.slice (some ⟨b20, 0, none⟩) 2 2), (Value.slice (some ⟨b39, 0, none⟩) 1 1)] madeR))] rfl rfl).segs_nil
 have h3 := (h2.keep [1, 0, 2, 3] (by decide) _ rfl rfl).segs_snoc (x := ⟨[(0, 100, 100), (1, 10, 10)], 220, 250⟩)
 have h4 := (h3.keep [1, 0, 2] (by decide) _ rfl rfl).segs_snoc (x := ⟨[(1, 20, 30)], 90, 100⟩)
 have h5 := (h4.keep [1, 0] (by decide) [row (Value.slice (some ⟨b51, 0, none⟩) 2 2) 96 3 2 (vtrips (runV [(Value.slice (some ⟨b20, 0, none⟩) 2 2), (Value.slice (some ⟨b39, 0, none⟩) 1 1)] madeR)), segsR true [(Value.slice (some ⟨b20, 0, none⟩) 2 2), (Value.slice (some ⟨b39, 0, none⟩) 1 1)] madeR] rfl rfl).runs_join rfl
 exact ⟨_, h5⟩
end Go.Proofs.Ytkkglkdnnfegkaa

namespace Go.Proofs.Ytkkglkdnnfegkaa
open Go.RowKit Go.Shelf Go.Eng
theorem en_51 : ∀ args w, (callFunc 51 args).run Try.prog w = .ok (.enter 51 args) w := enters_of Try.func51 (by kernel_rfl) rfl
theorem en_52 : ∀ args w, (callFunc 52 args).run Try.prog w = .ok (.enter 52 args) w := enters_of Try.func52 (by kernel_rfl) rfl
theorem en_18 : ∀ args w, (callFunc 18 args).run Try.prog w = .ok (.enter 18 args) w := enters_of Try.func18 (by kernel_rfl) rfl
theorem en_28 : ∀ args w, (callFunc 28 args).run Try.prog w = .ok (.enter 28 args) w := enters_of Try.func28 (by kernel_rfl) rfl
theorem en_23 : ∀ args w, (callFunc 23 args).run Try.prog w = .ok (.enter 23 args) w := enters_of Try.func23 (by kernel_rfl) rfl
theorem life_fine (R : List (Int × Int)) (rs : List RunD) (lv : List Value) (vr vu : Value) (w : World) (hm : SlAt w vr 2 R.length (pairs R)) (hx : RunsAt w vu lv rs) (hlen : R.length ≤ 1000000) (hrl : rs.length ≤ 1000000) (band s : Int) (he : lifeE R rs band s = 0) : Calls Try.prog 23 #[.agg #[vr], vu, .int .i64 band, .int .i64 s] w (Ret fun v w' => v = .tuple #[.agg #[.int .i64 (lifeR (allowedF R rs) band.toNat s).1, .int .i64 (lifeR (allowedF R rs) band.toNat s).2], .int .i64 0] ∧ Ext NoB w w') := by
 have hp : possF R rs = 0 := by
  by_cases h : possF R rs = 0
  ·exact h
  ·rw [life_p h] at he; exact absurd he h
 refine (life_any R rs lv vr vu w hm hx hlen hrl band s hp).mono (Ret.mono fun v w' h => ?_)
 rcases h with ⟨h, _⟩ | ⟨_, h⟩
 ·rw [he] at h; exact absurd h (by decide)
 ·exact h
set_option maxHeartbeats 4000000 in
theorem awake_ok (w : World) :
  Calls Try.prog 17 #[] w (Ret fun v w' => v = .bool true ∧ Ext NoB w w') := by
 refine calls_enter Try.func17 rfl fun a0 hA0 => ?_
 replace hA0 : Fr 75 [] [] a0 := hA0
 have hS0 : Sep NoB w w [] := Sep.start _ _
 refine c_seq ?_
 refine c_region ?_
 refine st hA0 (op_assign rfl (evc _ _)) rfl rfl (by decide) fun a1 hA2 => ?_; clear hA0 a0
 refine wl_nil ?_
 refine then_n ?_
 refine c_seq ?_
 refine c_region ?_
 refine stw hA2 (op_call rfl en_51 ev0 (hot_ok _)) rfl rfl (by decide) ?_
 rintro a3 _ w5 ⟨u8, rfl, hT6⟩ hA4; have hS7 := hS0.callS hT6 rfl; clear hT6 hA2 hS0 a1
 refine stw hA4 (op_call rfl en_52 ev0 (made_ok _)) rfl rfl (by decide) ?_
 rintro a9 v14 w11 ⟨lv15, hT12⟩ hA10; have hS13 := hS7.callS hT12 rfl; clear hT12 hA4 hS7 a3
 refine stw hA10 (op_call rfl en_18 (ev2 (hA10.ev rfl) (hA10.ev rfl)) (rates_ok hotR madeR lv15 u8 v14 _ (SlAt.of_row (hS13.ok_row 1 rfl)) (runs_at (hS13.ok 0 _ rfl)) (by decide) (by decide) poss_hot)) rfl rfl (by decide) ?_
 rintro a16 _ w18 ⟨u21, rfl, hT19⟩ hA17
 rw [rates_hot] at hT19; rw [many_hot] at hA17
 have hS20 : Sep NoB w w18 [(row u21 42 2 2 (pairs ([(2, 2), (3, 5)]))), (runsR true v14 lv15 madeR), (row u8 42 2 2 (pairs hotR))] := hS13.callS hT19 rfl; clear hT19 hA10 hS13 a9
 refine st hA17 (op_move rfl (hA17.ev rfl)) rfl rfl (by decide) fun a22 hA23 => ?_; clear hA17 a16
 refine st hA23 (op_extract rfl (hA23.ev rfl) rfl) rfl rfl (by decide) fun a24 hA25 => ?_; clear hA23 a22
 refine st hA25 (op_extract rfl (hA25.ev rfl) rfl) rfl rfl (by decide) fun a26 hA27 => ?_; clear hA25 a24
 refine st hA27 (op_extract rfl (hA27.ev rfl) rfl) rfl rfl (by decide) fun a28 hA29 => ?_; clear hA27 a26
 refine st hA29 (op_assign rfl (hA29.ev rfl)) rfl rfl (by decide) fun a30 hA31 => ?_; clear hA29 a28
 refine st hA31 (op_assign rfl (hA31.ev rfl)) rfl rfl (by decide) fun a32 hA33 => ?_; clear hA31 a30
 refine st hA33 (op_assign rfl (hA33.ev rfl)) rfl rfl (by decide) fun a34 hA35 => ?_; clear hA33 a32
 refine wl_nil ?_
 refine then_n ?_
 refine c_seq ?_
 have hA36 := hA35.as [(3, (Value.int .i64 0)), (2, (Value.int .i64 ((3 : Nat) : Int))), (1, u21)] rfl; clear hA35
 refine c_region ?_
 refine stw hA36 (op_call rfl en_51 ev0 (hot_ok _)) rfl rfl (by decide) ?_
 rintro a37 _ w39 ⟨u42, rfl, hT40⟩ hA38; have hS41 := hS20.callS hT40 rfl; clear hT40 hA36 hS20 a34
 refine stw hA38 (op_call rfl en_52 ev0 (made_ok _)) rfl rfl (by decide) ?_
 rintro a43 v48 w45 ⟨lv49, hT46⟩ hA44; have hS47 := hS41.callS hT46 rfl; clear hT46 hA38 hS41 a37
 refine stw hA44 (op_call rfl en_31 (ev2 (evc _ _) (evc _ _)) (between_ok _ _ _)) rfl rfl (by decide) ?_
 rintro a50 _ w52 ⟨rfl, hE53⟩ hA51; have hS54 := hS47.step hE53; clear hE53 hA44 hS47 a43
 refine st hA51 (op_build rfl (pv2 (evc _ _) (hA51.ev rfl)) (bd_67_0i_1iia _ _ _)) rfl rfl (by decide) fun a55 hA56 => ?_; clear hA51 a50
 refine stw hA56 (op_call rfl en_31 (ev2 (evc _ _) (evc _ _)) (between_ok _ _ _)) rfl rfl (by decide) ?_
 rintro a57 _ w59 ⟨rfl, hE60⟩ hA58; have hS61 := hS54.step hE60; clear hE60 hA56 hS54 a55
 refine st hA58 (op_build rfl (pv2 (evc _ _) (hA58.ev rfl)) (bd_67_0i_1iia _ _ _)) rfl rfl (by decide) fun a62 hA63 => ?_; clear hA58 a57
 refine stw hA63 (op_buildSlice hS61 rfl (pv2 (hA63.ev rfl) (hA63.ev rfl)) un_58 ty_67 ze_67 (by decide) (cs := [(Value.int .i64 0), (Value.int .i64 1000), (Value.int .i64 1000), (Value.int .i64 1), (Value.int .i64 10), (Value.int .i64 20)]) (bs_67_2_0iiia_1iiia _ _ _ _ _ _)) rfl rfl (by decide) ?_
 rintro a64 _ w66 ⟨b67, rfl, hS68⟩ hA65; clear hA63 hS61 a62
 refine stw hA65 (op_call rfl en_28 (ev3 (hA65.ev rfl) (hA65.ev rfl) (hA65.ev rfl)) (stretch_fine hotR madeR lv49 u42 v48 _ (SlAt.of_row (hS68.ok_row 2 rfl)) (runs_at (hS68.ok 1 _ rfl)) (by decide) (by decide) hotP (Value.slice (some ⟨b67, 0, none⟩) 2 2) (SlAt.of_blk (hS68.bk 0 rfl) rfl (Nat.le_of_ble_eq_true rfl)) (by decide) plan_hot)) rfl rfl (by decide) ?_
 rintro a69 _ w71 ⟨rfl, hE72⟩ hA70; have hS73 := hS68.step hE72; clear hE72 hA65 hS68 a64
 refine st hA70 (op_move rfl (hA70.ev rfl)) rfl rfl (by decide) fun a74 hA75 => ?_; clear hA70 a69
 refine st hA75 (op_extract rfl (hA75.ev rfl) rfl) rfl rfl (by decide) fun a76 hA77 => ?_; clear hA75 a74
 refine st hA77 (op_extract rfl (hA77.ev rfl) rfl) rfl rfl (by decide) fun a78 hA79 => ?_; clear hA77 a76
 refine stw hA79 (op_alloc hS73 rfl ze_42 (cs := [(Value.int .i64 0), (Value.int .i64 0)]) rfl) rfl rfl (by decide) ?_
 rintro a80 _ w82 ⟨b83, rfl, hS84⟩ hA81; clear hA79 hS73 a78
 refine sts hA81 (op_store hS84 rfl ty_42 (hA81.ev rfl) (hA81.ev rfl) (i := 0) rfl (vs := [(Value.int .i64 (stLo hotP (leastR hotR madeR hotP))), (Value.int .i64 (stHi hotP (mostR hotR madeR hotP)))]) rfl rfl rfl (Nat.le_of_ble_eq_true rfl)) rfl rfl ?_
 intro _ w85 hS86 hA87; clear hA81
 have hS88 : Sep NoB w w85 [(blk b83 42 [(Value.int .i64 (stLo hotP (leastR hotR madeR hotP))), (Value.int .i64 (stHi hotP (mostR hotR madeR hotP)))]), (blk b67 67 [(Value.int .i64 0), (Value.int .i64 1000), (Value.int .i64 1000), (Value.int .i64 1), (Value.int .i64 10), (Value.int .i64 20)]), (runsR true v48 lv49 madeR), (row u42 42 2 2 (pairs hotR)), (row u21 42 2 2 (pairs ([(2, 2), (3, 5)]))), (runsR true v14 lv15 madeR), (row u8 42 2 2 (pairs hotR))] := hS86; clear hS86 hS84
 refine st hA87 (op_assign rfl (hA87.ev rfl)) rfl rfl (by decide) fun a89 hA90 => ?_; clear hA87 a80
 refine wl_nil ?_
 refine then_n ?_
 refine c_seq ?_
 have hA91 := hA90.as [(5, (Value.int .i64 0)), (4, (bptr b83 0)), (3, (Value.int .i64 0)), (2, (Value.int .i64 ((3 : Nat) : Int))), (1, u21)] rfl; clear hA90
 refine c_region ?_
 refine stw hA91 (op_call rfl en_51 ev0 (hot_ok _)) rfl rfl (by decide) ?_
 rintro a92 _ w94 ⟨u97, rfl, hT95⟩ hA93; have hS96 := hS88.callS hT95 rfl; clear hT95 hA91 hS88 a89
 refine stw hA93 (op_call rfl en_52 ev0 (made_ok _)) rfl rfl (by decide) ?_
 rintro a98 v103 w100 ⟨lv104, hT101⟩ hA99; have hS102 := hS96.callS hT101 rfl; clear hT101 hA93 hS96 a92
 refine stw hA99 (op_call rfl en_23 (ev4 (hA99.ev rfl) (hA99.ev rfl) (evc _ _) (evc _ _)) (life_fine hotR madeR lv104 u97 v103 _ (SlAt.of_row (hS102.ok_row 1 rfl)) (runs_at (hS102.ok 0 _ rfl)) (by decide) (by decide) 1 1000 life_hot)) rfl rfl (by decide) ?_
 rintro a105 _ w107 ⟨rfl, hE108⟩ hA106; have hS109 := hS102.step hE108; clear hE108 hA99 hS102 a98
 refine st hA106 (op_move rfl (hA106.ev rfl)) rfl rfl (by decide) fun a110 hA111 => ?_; clear hA106 a105
 refine st hA111 (op_extract rfl (hA111.ev rfl) rfl) rfl rfl (by decide) fun a112 hA113 => ?_; clear hA111 a110
 refine st hA113 (op_extract rfl (hA113.ev rfl) rfl) rfl rfl (by decide) fun a114 hA115 => ?_; clear hA113 a112
 refine stw hA115 (op_alloc hS109 rfl ze_42 (cs := [(Value.int .i64 0), (Value.int .i64 0)]) rfl) rfl rfl (by decide) ?_
 rintro a116 _ w118 ⟨b119, rfl, hS120⟩ hA117; clear hA115 hS109 a114
 refine sts hA117 (op_store hS120 rfl ty_42 (hA117.ev rfl) (hA117.ev rfl) (i := 0) rfl (vs := [(Value.int .i64 ((lifeR (allowedF hotR madeR) (1 : Int).toNat 1000).1)), (Value.int .i64 ((lifeR (allowedF hotR madeR) (1 : Int).toNat 1000).2))]) rfl rfl rfl (Nat.le_of_ble_eq_true rfl)) rfl rfl ?_
 intro _ w121 hS122 hA123; clear hA117
 have hS124 : Sep NoB w w121 [(blk b119 42 [(Value.int .i64 ((lifeR (allowedF hotR madeR) (1 : Int).toNat 1000).1)), (Value.int .i64 ((lifeR (allowedF hotR madeR) (1 : Int).toNat 1000).2))]), (runsR true v103 lv104 madeR), (row u97 42 2 2 (pairs hotR)), (blk b83 42 [(Value.int .i64 (stLo hotP (leastR hotR madeR hotP))), (Value.int .i64 (stHi hotP (mostR hotR madeR hotP)))]), (blk b67 67 [(Value.int .i64 0), (Value.int .i64 1000), (Value.int .i64 1000), (Value.int .i64 1), (Value.int .i64 10), (Value.int .i64 20)]), (runsR true v48 lv49 madeR), (row u42 42 2 2 (pairs hotR)), (row u21 42 2 2 (pairs ([(2, 2), (3, 5)]))), (runsR true v14 lv15 madeR), (row u8 42 2 2 (pairs hotR))] := hS122; clear hS122 hS120
 refine st hA123 (op_assign rfl (hA123.ev rfl)) rfl rfl (by decide) fun a125 hA126 => ?_; clear hA123 a116
 refine wl_nil ?_
 refine then_n ?_
 refine c_seq ?_
 have hA127 := hA126.as [(7, (Value.int .i64 0)), (6, (bptr b119 0)), (5, (Value.int .i64 0)), (4, (bptr b83 0)), (3, (Value.int .i64 0)), (2, (Value.int .i64 ((3 : Nat) : Int))), (1, u21)] rfl; clear hA126
 have hA128 := hA127.as [(7, (Value.int .i64 0)), (6, (bptr b119 0)), (5, (Value.int .i64 0)), (4, (bptr b83 0)), (3, (Value.int .i64 0)), (2, (Value.int .i64 ((3 : Nat) : Int))), (1, u21)] rfl; clear hA127
 refine c_drawn mixed hA128 hS124 41 [[], [0], [1], [2], [2, 3], [2, 4], [5], [6], [6, 7], [6, 8], [6, 9], [10], [11], [11, 12], [11, 13], [11], [11, 14, 15], [11, 16], [17], [18], [18, 19], [18, 20], [18], [18, 21, 22], [18, 23], [24], [25], [25, 26], [25, 27], [28], [29], [29], [29, 30, 31], [29, 32], [33], [34], [34, 35], [34, 36], [37], [38], [38]] [(Yd.val (Value.int .i64 0)), (Yd.val (Value.bool true)), (Yd.val (Value.bool true)), (Yd.val (Value.int .i64 ((3 : Nat) : Int))), (Yd.val (Value.bool true)), (Yd.val (Value.bool true)), (Yd.val (Value.bool true)), (Yd.val u21), (Yd.val (Value.int .i64 ((2 : Nat) : Int))), (Yd.val (Value.bool true)), (Yd.val (Value.bool true)), (Yd.val (Value.bool true)), (Yd.val u21), (Yd.val (eptr u21 (0 * 2))), (Yd.val (Value.agg #[(Value.int .i64 ((([(2, 2), (3, 5)]).getD 0 (0, 0)).1)), (Value.int .i64 ((([(2, 2), (3, 5)]).getD 0 (0, 0)).2))])), (Yd.val (Value.agg #[(Value.int .i64 2), (Value.int .i64 2)])), (Yd.val (Value.bool true)), (Yd.val (Value.bool true)), (Yd.val (Value.bool true)), (Yd.val u21), (Yd.val (eptr u21 (1 * 2))), (Yd.val (Value.agg #[(Value.int .i64 ((([(2, 2), (3, 5)]).getD 1 (0, 0)).1)), (Value.int .i64 ((([(2, 2), (3, 5)]).getD 1 (0, 0)).2))])), (Yd.val (Value.agg #[(Value.int .i64 3), (Value.int .i64 5)])), (Yd.val (Value.bool true)), (Yd.val (Value.bool true)), (Yd.val (Value.bool true)), (Yd.val (Value.int .i64 0)), (Yd.val (Value.bool true)), (Yd.val (Value.bool true)), (Yd.val (Value.bool true)), (Yd.val (Value.agg #[(Value.int .i64 (stLo hotP (leastR hotR madeR hotP))), (Value.int .i64 (stHi hotP (mostR hotR madeR hotP)))])), (Yd.val (Value.agg #[(Value.int .i64 2030), (Value.int .i64 2100)])), (Yd.val (Value.bool true)), (Yd.val (Value.bool true)), (Yd.val (Value.bool true)), (Yd.val (Value.int .i64 0)), (Yd.val (Value.bool true)), (Yd.val (Value.bool true)), (Yd.val (Value.bool true)), (Yd.val (Value.agg #[(Value.int .i64 ((lifeR (allowedF hotR madeR) (1 : Int).toNat 1000).1)), (Value.int .i64 ((lifeR (allowedF hotR madeR) (1 : Int).toNat 1000).2))])), (Yd.val (Value.agg #[(Value.int .i64 200), (Value.int .i64 334)]))] (by decide +kernel) rfl rfl ?_ ?_
 ·skip
  refine ⟨fun a w hA hS hd => by exact opG_of rfl (dv (op_move rfl (hA.ev rfl)) hS rfl), ?_⟩
  refine ⟨fun a w hA hS hd => by have e0 := has_ev (hd 0 (by decide)) rfl (fun _ h => h); exact opG_of rfl (dv (op_eql rfl (tmp_ev e0) (evc _ _)) hS rfl), ?_⟩
  refine ⟨fun a w hA hS hd => by have e1 := has_ev (hd 1 (by decide)) rfl (fun _ h => h); exact opG_of rfl (dv (op_move rfl (tmp_ev e1)) hS rfl), ?_⟩
  refine ⟨fun a w hA hS hd => by have e2 := has_ev (hd 2 (by decide)) rfl (fun _ h => h); exact opG_yes rfl rfl e2 (dv (op_move rfl (hA.ev rfl)) hS rfl), ?_⟩
  refine ⟨fun a w hA hS hd => by have e2 := has_ev (hd 2 (by decide)) rfl (fun _ h => h); have e3 := has_ev (hd 3 (by decide)) rfl (fun _ h => h); exact opG_yes rfl rfl e2 (dv (op_eql rfl (tmp_ev e3) (evc _ _)) hS (by show Value.bool _ = _; simp only [decide_eq_true (show ((3 : Nat) : Int) = 3 from (by decide)), decide_true, decide_false, Bool.not_true, Bool.not_false])), ?_⟩
  refine ⟨fun a w hA hS hd => by have e2 := has_ev (hd 2 (by decide)) rfl (fun _ h => h); have e4 := has_ev (hd 4 (by decide)) rfl (fun _ h => h); exact opG_of rfl (dv (op_pick_t rfl (tmp_ev e2) (tmp_ev e4)) hS rfl), ?_⟩
  refine ⟨fun a w hA hS hd => by have e5 := has_ev (hd 5 (by decide)) rfl (fun _ h => h); exact opG_of rfl (dv (op_move rfl (tmp_ev e5)) hS rfl), ?_⟩
  refine ⟨fun a w hA hS hd => by have e6 := has_ev (hd 6 (by decide)) rfl (fun _ h => h); exact opG_yes rfl rfl e6 (dv (op_move rfl (hA.ev rfl)) hS rfl), ?_⟩
  refine ⟨fun a w hA hS hd => by have e6 := has_ev (hd 6 (by decide)) rfl (fun _ h => h); have e7 := has_ev (hd 7 (by decide)) rfl (fun _ h => h); exact opG_yes rfl rfl e6 (dv (op_lenS rfl un_28 (tmp_ev e7) (SlAt.of_row (hS.ok_row 7 rfl))) hS rfl), ?_⟩
  refine ⟨fun a w hA hS hd => by have e6 := has_ev (hd 6 (by decide)) rfl (fun _ h => h); have e8 := has_ev (hd 8 (by decide)) rfl (fun _ h => h); exact opG_yes rfl rfl e6 (dv (op_eql rfl (tmp_ev e8) (evc _ _)) hS (by show Value.bool _ = _; simp only [decide_eq_true (show ((2 : Nat) : Int) = 2 from (by decide)), decide_true, decide_false, Bool.not_true, Bool.not_false])), ?_⟩
  refine ⟨fun a w hA hS hd => by have e6 := has_ev (hd 6 (by decide)) rfl (fun _ h => h); have e9 := has_ev (hd 9 (by decide)) rfl (fun _ h => h); exact opG_of rfl (dv (op_pick_t rfl (tmp_ev e6) (tmp_ev e9)) hS rfl), ?_⟩
  refine ⟨fun a w hA hS hd => by have e10 := has_ev (hd 10 (by decide)) rfl (fun _ h => h); exact opG_of rfl (dv (op_move rfl (tmp_ev e10)) hS rfl), ?_⟩
  refine ⟨fun a w hA hS hd => by have e11 := has_ev (hd 11 (by decide)) rfl (fun _ h => h); exact opG_yes rfl rfl e11 (dv (op_move rfl (hA.ev rfl)) hS rfl), ?_⟩
  refine ⟨fun a w hA hS hd => by have e11 := has_ev (hd 11 (by decide)) rfl (fun _ h => h); have e12 := has_ev (hd 12 (by decide)) rfl (fun _ h => h); exact opG_yes rfl rfl e11 (dv (op_indexS rfl un_28 ty_42 (tmp_ev e12) (i := 0) (show _ = Value.int .i64 ((0 : Nat) : Int) from (evc _ _)) (SlAt.of_row (hS.ok_row 7 rfl)) (by decide) (by decide)) hS rfl), ?_⟩
  refine ⟨fun a w hA hS hd => by have e11 := has_ev (hd 11 (by decide)) rfl (fun _ h => h); have e13 := has_ev (hd 13 (by decide)) rfl (fun _ h => h); exact opG_yes rfl rfl e11 (dv (op_loadAE rfl ty_42 (tmp_ev e13) (SlAt.of_row (hS.ok_row 7 rfl)) (pairs_all (by decide)) rfl (by decide)) hS rfl), ?_⟩
  refine ⟨fun a w hA hS hd => by have e11 := has_ev (hd 11 (by decide)) rfl (fun _ h => h); exact opG_yes rfl rfl e11 (dx (op_call rfl en_31 (ev2 (evc _ _) (evc _ _)) (between_ok _ _ _)) hS (fun _ => rfl)), ?_⟩
  refine ⟨fun a w hA hS hd => by have e11 := has_ev (hd 11 (by decide)) rfl (fun _ h => h); have e14 := has_ev (hd 14 (by decide)) rfl (fun _ h => h); have e15 := has_ev (hd 15 (by decide)) rfl (fun _ h => h); exact opG_yes rfl rfl e11 (dv (op_eqlP tw_42 rfl (tmp_ev e14) (tmp_ev e15)) hS (by show Value.bool _ = _; simp only [(show (decide ((((([(2, 2), (3, 5)]).getD 0 (0, 0)).1) : Int) = 2) && decide ((((([(2, 2), (3, 5)]).getD 0 (0, 0)).2) : Int) = 2)) = true from (by first | decide | (rw [low_hot, high_hot]; decide) | (rw [life_hot1, life_hot2]; decide))), decide_true, decide_false, Bool.not_true, Bool.not_false])), ?_⟩
  refine ⟨fun a w hA hS hd => by have e11 := has_ev (hd 11 (by decide)) rfl (fun _ h => h); have e16 := has_ev (hd 16 (by decide)) rfl (fun _ h => h); exact opG_of rfl (dv (op_pick_t rfl (tmp_ev e11) (tmp_ev e16)) hS rfl), ?_⟩
  refine ⟨fun a w hA hS hd => by have e17 := has_ev (hd 17 (by decide)) rfl (fun _ h => h); exact opG_of rfl (dv (op_move rfl (tmp_ev e17)) hS rfl), ?_⟩
  refine ⟨fun a w hA hS hd => by have e18 := has_ev (hd 18 (by decide)) rfl (fun _ h => h); exact opG_yes rfl rfl e18 (dv (op_move rfl (hA.ev rfl)) hS rfl), ?_⟩
  refine ⟨fun a w hA hS hd => by have e18 := has_ev (hd 18 (by decide)) rfl (fun _ h => h); have e19 := has_ev (hd 19 (by decide)) rfl (fun _ h => h); exact opG_yes rfl rfl e18 (dv (op_indexS rfl un_28 ty_42 (tmp_ev e19) (i := 1) (show _ = Value.int .i64 ((1 : Nat) : Int) from (evc _ _)) (SlAt.of_row (hS.ok_row 7 rfl)) (by decide) (by decide)) hS rfl), ?_⟩
  refine ⟨fun a w hA hS hd => by have e18 := has_ev (hd 18 (by decide)) rfl (fun _ h => h); have e20 := has_ev (hd 20 (by decide)) rfl (fun _ h => h); exact opG_yes rfl rfl e18 (dv (op_loadAE rfl ty_42 (tmp_ev e20) (SlAt.of_row (hS.ok_row 7 rfl)) (pairs_all (by decide)) rfl (by decide)) hS rfl), ?_⟩
  refine ⟨fun a w hA hS hd => by have e18 := has_ev (hd 18 (by decide)) rfl (fun _ h => h); exact opG_yes rfl rfl e18 (dx (op_call rfl en_31 (ev2 (evc _ _) (evc _ _)) (between_ok _ _ _)) hS (fun _ => rfl)), ?_⟩
  refine ⟨fun a w hA hS hd => by have e18 := has_ev (hd 18 (by decide)) rfl (fun _ h => h); have e21 := has_ev (hd 21 (by decide)) rfl (fun _ h => h); have e22 := has_ev (hd 22 (by decide)) rfl (fun _ h => h); exact opG_yes rfl rfl e18 (dv (op_eqlP tw_42 rfl (tmp_ev e21) (tmp_ev e22)) hS (by show Value.bool _ = _; simp only [(show (decide ((((([(2, 2), (3, 5)]).getD 1 (0, 0)).1) : Int) = 3) && decide ((((([(2, 2), (3, 5)]).getD 1 (0, 0)).2) : Int) = 5)) = true from (by first | decide | (rw [low_hot, high_hot]; decide) | (rw [life_hot1, life_hot2]; decide))), decide_true, decide_false, Bool.not_true, Bool.not_false])), ?_⟩
  refine ⟨fun a w hA hS hd => by have e18 := has_ev (hd 18 (by decide)) rfl (fun _ h => h); have e23 := has_ev (hd 23 (by decide)) rfl (fun _ h => h); exact opG_of rfl (dv (op_pick_t rfl (tmp_ev e18) (tmp_ev e23)) hS rfl), ?_⟩
  refine ⟨fun a w hA hS hd => by have e24 := has_ev (hd 24 (by decide)) rfl (fun _ h => h); exact opG_of rfl (dv (op_move rfl (tmp_ev e24)) hS rfl), ?_⟩
  refine ⟨fun a w hA hS hd => by have e25 := has_ev (hd 25 (by decide)) rfl (fun _ h => h); exact opG_yes rfl rfl e25 (dv (op_move rfl (hA.ev rfl)) hS rfl), ?_⟩
  refine ⟨fun a w hA hS hd => by have e25 := has_ev (hd 25 (by decide)) rfl (fun _ h => h); have e26 := has_ev (hd 26 (by decide)) rfl (fun _ h => h); exact opG_yes rfl rfl e25 (dv (op_eql rfl (tmp_ev e26) (evc _ _)) hS rfl), ?_⟩
  refine ⟨fun a w hA hS hd => by have e25 := has_ev (hd 25 (by decide)) rfl (fun _ h => h); have e27 := has_ev (hd 27 (by decide)) rfl (fun _ h => h); exact opG_of rfl (dv (op_pick_t rfl (tmp_ev e25) (tmp_ev e27)) hS rfl), ?_⟩
  refine ⟨fun a w hA hS hd => by have e28 := has_ev (hd 28 (by decide)) rfl (fun _ h => h); exact opG_of rfl (dv (op_move rfl (tmp_ev e28)) hS rfl), ?_⟩
  refine ⟨fun a w hA hS hd => by have e29 := has_ev (hd 29 (by decide)) rfl (fun _ h => h); exact opG_yes rfl rfl e29 (dv (op_loadA rfl ty_42 (hA.ev rfl) (hS.bk 3 rfl) (l := [(Value.int .i64 (stLo hotP (leastR hotR madeR hotP))), (Value.int .i64 (stHi hotP (mostR hotR madeR hotP)))]) rfl rfl) hS rfl), ?_⟩
  refine ⟨fun a w hA hS hd => by have e29 := has_ev (hd 29 (by decide)) rfl (fun _ h => h); exact opG_yes rfl rfl e29 (dx (op_call rfl en_31 (ev2 (evc _ _) (evc _ _)) (between_ok _ _ _)) hS (fun _ => rfl)), ?_⟩
  refine ⟨fun a w hA hS hd => by have e29 := has_ev (hd 29 (by decide)) rfl (fun _ h => h); have e30 := has_ev (hd 30 (by decide)) rfl (fun _ h => h); have e31 := has_ev (hd 31 (by decide)) rfl (fun _ h => h); exact opG_yes rfl rfl e29 (dv (op_eqlP tw_42 rfl (tmp_ev e30) (tmp_ev e31)) hS (by show Value.bool _ = _; simp only [(show (decide (((stLo hotP (leastR hotR madeR hotP)) : Int) = 2030) && decide (((stHi hotP (mostR hotR madeR hotP)) : Int) = 2100)) = true from (by first | decide | (rw [low_hot, high_hot]; decide) | (rw [life_hot1, life_hot2]; decide))), decide_true, decide_false, Bool.not_true, Bool.not_false])), ?_⟩
  refine ⟨fun a w hA hS hd => by have e29 := has_ev (hd 29 (by decide)) rfl (fun _ h => h); have e32 := has_ev (hd 32 (by decide)) rfl (fun _ h => h); exact opG_of rfl (dv (op_pick_t rfl (tmp_ev e29) (tmp_ev e32)) hS rfl), ?_⟩
  refine ⟨fun a w hA hS hd => by have e33 := has_ev (hd 33 (by decide)) rfl (fun _ h => h); exact opG_of rfl (dv (op_move rfl (tmp_ev e33)) hS rfl), ?_⟩
  refine ⟨fun a w hA hS hd => by have e34 := has_ev (hd 34 (by decide)) rfl (fun _ h => h); exact opG_yes rfl rfl e34 (dv (op_move rfl (hA.ev rfl)) hS rfl), ?_⟩
  refine ⟨fun a w hA hS hd => by have e34 := has_ev (hd 34 (by decide)) rfl (fun _ h => h); have e35 := has_ev (hd 35 (by decide)) rfl (fun _ h => h); exact opG_yes rfl rfl e34 (dv (op_eql rfl (tmp_ev e35) (evc _ _)) hS rfl), ?_⟩
  refine ⟨fun a w hA hS hd => by have e34 := has_ev (hd 34 (by decide)) rfl (fun _ h => h); have e36 := has_ev (hd 36 (by decide)) rfl (fun _ h => h); exact opG_of rfl (dv (op_pick_t rfl (tmp_ev e34) (tmp_ev e36)) hS rfl), ?_⟩
  refine ⟨fun a w hA hS hd => by have e37 := has_ev (hd 37 (by decide)) rfl (fun _ h => h); exact opG_of rfl (dv (op_move rfl (tmp_ev e37)) hS rfl), ?_⟩
  refine ⟨fun a w hA hS hd => by have e38 := has_ev (hd 38 (by decide)) rfl (fun _ h => h); exact opG_yes rfl rfl e38 (dv (op_loadA rfl ty_42 (hA.ev rfl) (hS.bk 0 rfl) (l := [(Value.int .i64 ((lifeR (allowedF hotR madeR) (1 : Int).toNat 1000).1)), (Value.int .i64 ((lifeR (allowedF hotR madeR) (1 : Int).toNat 1000).2))]) rfl rfl) hS rfl), ?_⟩
  refine ⟨fun a w hA hS hd => by have e38 := has_ev (hd 38 (by decide)) rfl (fun _ h => h); exact opG_yes rfl rfl e38 (dx (op_call rfl en_31 (ev2 (evc _ _) (evc _ _)) (between_ok _ _ _)) hS (fun _ => rfl)), ?_⟩
  trivial
 intro a130 w131 hA132 hS133 hH134; clear hA128 hS124
 have hA135 := hA132.add (has_ev (hH134 38 (by decide)) rfl (fun _ h => h)); clear hA132
 have hA136 := hA135.add (has_ev (hH134 39 (by decide)) rfl (fun _ h => h)); clear hA135
 have hA137 := hA136.add (has_ev (hH134 40 (by decide)) rfl (fun _ h => h)); clear hA136
 clear hH134
 refine stg hA137 (op_eqlP tw_42 rfl (hA137.ev rfl) (hA137.ev rfl)) rfl rfl rfl rfl (by decide) fun a138 hA139 => ?_; clear hA137 a130
 have hd140 : (decide ((((lifeR (allowedF hotR madeR) (1 : Int).toNat 1000).1) : Int) = 200) && decide ((((lifeR (allowedF hotR madeR) (1 : Int).toNat 1000).2) : Int) = 334)) = true := (by first | decide | (rw [low_hot, high_hot]; decide) | (rw [life_hot1, life_hot2]; decide))
 rw [hd140] at hA139
 have hq141 := hd140; simp only [Bool.and_eq_true, Bool.and_eq_false_iff, decide_eq_true_eq, decide_eq_false_iff_not] at hq141
 refine st hA139 (op_pick_t rfl (hA139.ev rfl) (hA139.ev rfl)) rfl rfl (by decide) fun a142 hA143 => ?_; clear hA139 a138
 refine st hA143 (op_assign rfl (hA143.ev rfl)) rfl rfl (by decide) fun a144 hA145 => ?_; clear hA143 a142
 refine wl_nil ?_
 refine then_n ?_
 refine c_ret ?_
 refine fin_run hA145 (.inl rfl) (run_results1 hA145 rfl (.tmp rfl)) ?_
 exact ⟨rfl, hS133.ext⟩
end Go.Proofs.Ytkkglkdnnfegkaa

namespace Go.Proofs.Ytkkglkdnnfegkaa
open Go.RowKit Go.Eng
def rngU (A : List (List Int)) (b : Nat) : Nat → Int × Int
  | 0 => ((A.getD 0 []).getD b 0, (A.getD 0 []).getD b 0)
  | i + 1 => (min (rngU A b i).1 ((A.getD i []).getD b 0), max (rngU A b i).2 ((A.getD i []).getD b 0))
theorem outF_rng {A B : List (List Int)} {n b : Nat} (hb : b < n) (h : ∀ i, i < A.length → (B.getD i []).getD b 0 = (A.getD i []).getD b 0) : ∀ q, q + 1 ≤ A.length → (outF A n (q + 1)).getD b (0, 0) = rngU B b (q + 1)
  | 0, hq => by
    rw [outF, midW_getD (by rw [outF_len]; exact hb), if_pos hb]
    simp only [withF, rngU]
    rw [h 0 (by omega)]
    simp
  | q + 1, hq => by
    have ih := outF_rng hb h q (by omega)
    rw [outF, midW_getD (by rw [outF_len]; exact hb), if_pos hb, ih]
    conv => rhs; rw [rngU]
    rw [h (q + 1) (by omega)]
    have hz : decide (((q + 1 : Nat) : Int) = 0) = false := decide_eq_false (by omega)
    simp only [withF, hz, Bool.false_eq_true, if_false]
theorem ratesF_len (R : List (Int × Int)) (rs : List RunD) : (ratesF R rs).length = R.length := outF_len _ _ _
end Go.Proofs.Ytkkglkdnnfegkaa

namespace Go.Proofs.Ytkkglkdnnfegkaa
open Go.RowKit Go.Shelf Go.Eng
theorem en_16 : ∀ args w, (callFunc 16 args).run Try.prog w = .ok (.enter 16 args) w := enters_of Try.func16 (by kernel_rfl) rfl
theorem en_17 : ∀ args w, (callFunc 17 args).run Try.prog w = .ok (.enter 17 args) w := enters_of Try.func17 (by kernel_rfl) rfl
theorem en_19 : ∀ args w, (callFunc 19 args).run Try.prog w = .ok (.enter 19 args) w := enters_of Try.func19 (by kernel_rfl) rfl
theorem en_20 : ∀ args w, (callFunc 20 args).run Try.prog w = .ok (.enter 20 args) w := enters_of Try.func20 (by kernel_rfl) rfl
theorem en_33 : ∀ args w, (callFunc 33 args).run Try.prog w = .ok (.enter 33 args) w := enters_of Try.func33 (by kernel_rfl) rfl
theorem en_27 : ∀ args w, (callFunc 27 args).run Try.prog w = .ok (.enter 27 args) w := enters_of Try.func27 (by kernel_rfl) rfl
theorem un_61 : Try.prog.underlying 61 = some (.int .u32) := by kernel_rfl
theorem ze_54 : (Try.prog.info? 54).bind (·.zero) = some (Value.agg #[(Value.slice none 0 0), (Value.int .i64 0), (Value.int .i64 0)]) := by kernel_rfl
theorem bs_54_0_  : Instr.fill (fun i => some (i * 3, 3)) ((Array.range (0 * 3)).map ((Value.agg #[(Value.slice none 0 0), (Value.int .i64 0), (Value.int .i64 0)]).cells[· % (Value.agg #[(Value.slice none 0 0), (Value.int .i64 0), (Value.int .i64 0)]).cells.size]!)) [] = some (([] : List Value).toArray) := by kernel_rfl
theorem bs_54_1_0viia (x0_0 : Value) (x0_1 : Int) (x0_2 : Int) : Instr.fill (fun i => some (i * 3, 3)) ((Array.range (1 * 3)).map ((Value.agg #[(Value.slice none 0 0), (Value.int .i64 0), (Value.int .i64 0)]).cells[· % (Value.agg #[(Value.slice none 0 0), (Value.int .i64 0), (Value.int .i64 0)]).cells.size]!)) [(0, .agg #[x0_0, (.int .i64 x0_1), (.int .i64 x0_2)])] = some (([x0_0, (.int .i64 x0_1), (.int .i64 x0_2)] : List Value).toArray) := by kernel_rfl
theorem el_54 : elK Try.prog 54 = some ((Value.agg #[(Value.slice none 0 0), (Value.int .i64 0), (Value.int .i64 0)]), 3, 40) := by kernel_rfl
theorem en_30 : ∀ args w, (callFunc 30 args).run Try.prog w = .ok (.enter 30 args) w := enters_of Try.func30 (by kernel_rfl) rfl
end Go.Proofs.Ytkkglkdnnfegkaa

namespace Go.Proofs.Ytkkglkdnnfegkaa
open Go.RowKit Go.Eng
theorem hours_ge {r s : Int} (hr : 0 ≤ r) (hs : 0 ≤ s) : -1 ≤ hoursF r s := by
  unfold hoursF
  split
  · omega
  · split
    · omega
    · have := Int.tdiv_nonneg (a := s + r - 1) (b := r) (by omega) (by omega); omega
theorem lifeU_inv {A : List (List Int)} {band : Nat} {s : Int} (h : ∀ i, -1 ≤ hoursF ((A.getD i []).getD band 0) s) : ∀ k, ((lifeU A band s k).1.1 = -1 ∧ (lifeU A band s k).1.2 = -1) ∨ (0 ≤ (lifeU A band s k).1.1 ∧ (lifeU A band s k).1.1 ≤ (lifeU A band s k).1.2)
  | 0 => .inl ⟨rfl, rfl⟩
  | k + 1 => by
    have ih := lifeU_inv h k
    have hk := h k
    by_cases e : hoursF ((A.getD k []).getD band 0) s = -1
    · rw [lifeU_y e]; exact ih
    · rw [lifeU_n e]
      right
      simp only [withF]
      rcases ih with ⟨h1, h2⟩ | ⟨h1, h2⟩
      · rw [h1, h2]; simp only [decide_true, Bool.and_self, if_true]; omega
      · have : (decide ((lifeU A band s k).1.1 = -1) && decide ((lifeU A band s k).1.2 = -1)) = false := by
          rw [decide_eq_false (by omega : ¬ (lifeU A band s k).1.1 = -1)]; rfl
        rw [this]; simp only [Bool.false_eq_true, if_false]; omega
theorem lifeU_lo {A : List (List Int)} {band k : Nat} {s : Int} (h : ∀ i, -1 ≤ hoursF ((A.getD i []).getD band 0) s) (hn : ¬ hoursF ((A.getD k []).getD band 0) s < 0) :
    lifeU A band s (k + 1) = (((if (lifeU A band s k).1.1 < 0 ∨ hoursF ((A.getD k []).getD band 0) s < (lifeU A band s k).1.1 then hoursF ((A.getD k []).getD band 0) s else (lifeU A band s k).1.1), max (lifeU A band s k).1.2 (hoursF ((A.getD k []).getD band 0) s)), (lifeU A band s k).2) := by
  rw [lifeU_n (by omega)]
  rcases lifeU_inv h k with ⟨h1, h2⟩ | ⟨h1, h2⟩
  · rw [h1, h2]; simp only [withF, decide_true, Bool.and_self, if_true]
    rw [if_pos (.inl (by decide)), Int.max_eq_right (by omega)]
  · have : (decide ((lifeU A band s k).1.1 = -1) && decide ((lifeU A band s k).1.2 = -1)) = false := by
      rw [decide_eq_false (by omega : ¬ (lifeU A band s k).1.1 = -1)]; rfl
    simp only [withF, this, Bool.false_eq_true, if_false]
    by_cases hc : hoursF ((A.getD k []).getD band 0) s < (lifeU A band s k).1.1
    · rw [if_pos (.inr hc), Int.min_eq_right (by omega)]
    · rw [if_neg (by omega), Int.min_eq_left (by omega)]
theorem lifeU_neg {A : List (List Int)} {band k : Nat} {s : Int} (h : ∀ i, -1 ≤ hoursF ((A.getD i []).getD band 0) s) (hn : hoursF ((A.getD k []).getD band 0) s < 0) : lifeU A band s (k + 1) = ((lifeU A band s k).1, true) := lifeU_y (by have := h k; omega)
end Go.Proofs.Ytkkglkdnnfegkaa

namespace Go.Proofs.Ytkkglkdnnfegkaa
open Go.RowKit Go.Shelf Go.Eng
def planB (R : List (Int × Int)) (plan : List Seg) : Bool := allSegB R.length plan && decide (plan.length ≤ 8)
def readyB (R : List (Int × Int)) (rs : List RunD) (plan : List Seg) : Bool := thinB R rs plan.length && decide (enterF R rs = 0) && planB R plan
theorem ready_is {R : List (Int × Int)} {rs : List RunD} {plan : List Seg} (h : readyB R rs plan = true) : ThinV R rs plan.length ∧ enterF R rs = 0 ∧ plan.length ≤ 8 ∧ allSegB R.length plan = true := by
 simp only [readyB, planB, Bool.and_eq_true, decide_eq_true_eq] at h
 exact ⟨thin_of h.1.1, h.1.2, h.2.2, h.2.1⟩
set_option maxHeartbeats 1000000 in
theorem IsPlan_ok (w : World) (R : List (Int × Int)) (vr : Value) (hm : SlAt w vr 2 R.length (pairs R)) (plan : List Seg) (vp : Value) (hp : SlAt w vp 3 plan.length (trips plan)) (hR6 : R.length ≤ 6) (hp12 : plan.length ≤ 12) :
  Calls Try.prog 33 #[(Value.agg #[vr]), vp] w (Ret fun v w' => v = .bool (planB R plan) ∧ Ext NoB w w') := by
 refine calls_enter Try.func33 rfl fun a0 hA0 => ?_
 replace hA0 : Fr 22 [] [(0, (Value.agg #[vr])), (1, vp)] a0 := hA0
 have hS0 : Sep NoB w w [(sl vr 2 R.length (pairs R)), (sl vp 3 plan.length (trips plan))] := sep_ro ⟨rfl, hm, rfl, hp, trivial⟩
 refine c_seq ?_
 refine c_region ?_
 refine stw hA0 (op_box hS0 rfl (hA0.ev rfl) (cs := [vr]) rfl) rfl rfl (by decide) ?_
 rintro a1 _ w3 ⟨b4, rfl, hS5⟩ hA2; clear hA0 hS0 a0
 refine st hA2 (op_assign rfl (evc _ _)) rfl rfl (by decide) fun a6 hA7 => ?_; clear hA2 a1
 refine wl_nil ?_
 refine then_n ?_
 refine c_seq ?_
 refine c_seq ?_
 refine c_region ?_
 refine st hA7 (op_assign rfl (evc _ _)) rfl rfl (by decide) fun a8 hA9 => ?_; clear hA7 a6
 refine wl_nil ?_
 refine then_n ?_
 refine c_block ?_
 have hA10 := hA9.as [(5, (Value.int .i64 0)), (2, (bptr b4 0)), (1, vp)] rfl; clear hA9
 refine c_loop (G := Nat) (fun (k : Nat) a_ w_ => Fr 22 [] [(5, (Value.int .i64 (k : Int))), (2, (bptr b4 0)), (1, vp)] a_ ∧ Sep NoB w w_ [(blk b4 24 [vr]), (sl vr 2 R.length (pairs R)), (sl vp 3 plan.length (trips plan))] ∧ (k ≤ plan.length) ∧ (∀ i, i < k → segB R.length (plan.getD i (0, 0, 0)) = true)) (fun k => plan.length - k) 0 ⟨hA10.as _ rfl, hS5, by omega, (fun _ h => absurd h (Nat.not_lt_zero _))⟩ ?_
 clear hA10 hS5 a8
 rintro k a11 w13 ⟨hA12, hS14, hkk, hsg⟩
 refine c_seq ?_
 refine c_seq ?_
 refine c_region ?_
 refine st hA12 (op_move rfl (hA12.ev rfl)) rfl rfl (by decide) fun a15 hA16 => ?_; clear hA12 a11
 refine st hA16 (op_move rfl (hA16.ev rfl)) rfl rfl (by decide) fun a17 hA18 => ?_; clear hA16 a15
 refine st hA18 (op_lenS rfl un_51 (hA18.ev rfl) (hS14.sk 2 rfl)) rfl rfl (by decide) fun a19 hA20 => ?_; clear hA18 a17
 refine st hA20 (op_lss rfl (hA20.ev rfl) (hA20.ev rfl)) rfl rfl (by decide) fun a21 hA22 => ?_; clear hA20 a19
 refine wl_nil ?_
 refine then_n ?_
 by_cases hb23 : (k : Int) < (plan.length : Int)
 ·skip
  rw [decide_eq_true hb23] at hA22
  refine c_true hA22 rfl ?_
  refine c_skip ?_
  refine then_n ?_
  refine c_seq ?_
  refine c_block ?_
  refine c_seq ?_
  have hA24 := hA22.as [(5, (Value.int .i64 (k : Int))), (2, (bptr b4 0)), (1, vp)] rfl; clear hA22
  refine c_drawn mixed hA24 hS14 5 [[], [], [], [1, 2], [3]] [(Yd.val (Value.agg #[vr])), (Yd.val vp), (Yd.val (Value.int .i64 (k : Int))), (Yd.val (eptr vp (k * 3))), (Yd.val (Value.agg #[(Value.int .i64 ((plan.getD k (0, 0, 0)).1)), (Value.int .i64 ((plan.getD k (0, 0, 0)).2.1)), (Value.int .i64 ((plan.getD k (0, 0, 0)).2.2))]))] (by decide +kernel) rfl rfl ?_ ?_
  ·skip
   refine ⟨fun a w hA hS hd => by exact opG_of rfl (dv (op_loadA rfl ty_24 (hA.ev rfl) (hS.bk 0 rfl) (l := [vr]) rfl rfl) hS rfl), ?_⟩
   refine ⟨fun a w hA hS hd => by exact opG_of rfl (dv (op_move rfl (hA.ev rfl)) hS rfl), ?_⟩
   refine ⟨fun a w hA hS hd => by exact opG_of rfl (dv (op_move rfl (hA.ev rfl)) hS rfl), ?_⟩
   refine ⟨fun a w hA hS hd => by have e1 := has_ev (hd 1 (by decide)) rfl (fun _ h => h); have e2 := has_ev (hd 2 (by decide)) rfl (fun _ h => h); exact opG_of rfl (dv (op_indexS rfl un_51 ty_56 (tmp_ev e1) (i := k) (tmp_ev e2) (hS.sk 2 rfl) (by decide) (by omega)) hS rfl), ?_⟩
   refine ⟨fun a w hA hS hd => by have e3 := has_ev (hd 3 (by decide)) rfl (fun _ h => h); exact opG_of rfl (dv (op_loadAE rfl ty_56 (tmp_ev e3) (hS.sk 2 rfl) (trips_all (by omega)) rfl (by decide)) hS rfl), ?_⟩
   trivial
  intro a26 w27 hA28 hS29 hH30; clear hA24 hS14
  have hA31 := hA28.add (has_ev (hH30 0 (by decide)) rfl (fun _ h => h)); clear hA28
  have hA32 := hA31.add (has_ev (hH30 4 (by decide)) rfl (fun _ h => h)); clear hA31
  clear hH30
  refine stw hA32 (op_call rfl en_62 (ev2 (hA32.ev rfl) (hA32.ev rfl)) (IsSegment_ok _ R _ (hS29.sk 1 rfl) _ _ _ (by omega))) rfl rfl (by decide) ?_
  rintro a33 _ w35 ⟨rfl, hE36⟩ hA34; have hS37 := hS29.step hE36; clear hE36 hA32 hS29 a26
  refine st hA34 (op_not rfl (hA34.ev rfl)) rfl rfl (by decide) fun a38 hA39 => ?_; clear hA34 a33
  refine wl_nil ?_
  refine then_n ?_
  rcases Bool.eq_false_or_eq_true ((segB R.length ((plan.getD k (0, 0, 0)).1, (plan.getD k (0, 0, 0)).2.1, (plan.getD k (0, 0, 0)).2.2))) with hb40 | hb40
  ·skip
   rw [hb40] at hA39
   refine c_false hA39 rfl ?_
   refine c_skip ?_
   refine blk_n ?_
   refine then_n ?_
   refine c_region ?_
   refine st hA39 (op_move rfl (hA39.ev rfl)) rfl rfl (by decide) fun a41 hA42 => ?_; clear hA39 a38
   refine st hA42 (op_add rfl (hA42.ev rfl) (evc _ _) (by omega) (by omega)) rfl rfl (by decide) fun a43 hA44 => ?_; clear hA42 a41
   refine st hA44 (op_assign rfl (hA44.ev rfl)) rfl rfl (by decide) fun a45 hA46 => ?_; clear hA44 a43
   refine wl_nil ?_
   exact then_n ⟨k + 1, ⟨hA46.as _ rfl, hS37, by omega, (fun i hi => by rcases Nat.lt_succ_iff_lt_or_eq.1 hi with h | h; exact hsg i h; subst h; assumption)⟩, by omega⟩
  ·skip
   rw [hb40] at hA39
   refine c_true hA39 rfl ?_
   refine c_seq ?_
   have hA47 := hA39.as [] rfl; clear hA39
   refine c_region ?_
   refine st hA47 (op_assign rfl (evc _ _)) rfl rfl (by decide) fun a48 hA49 => ?_; clear hA47 a38
   refine wl_nil ?_
   refine then_n ?_
   refine c_ret ?_
   refine blk_ret ?_
   refine then_ret ?_
   refine then_ret ?_
   refine blk_ret ?_
   refine then_ret ?_
   refine fin_run hA49 (.inl rfl) (run_results1 hA49 rfl (.tmp rfl)) ?_
   exact ⟨congrArg Value.bool (by unfold planB allSegB; first | (rw [all_yes (p := fun i => segB R.length (plan.getD i (0, 0, 0))) (fun i hi => hsg i (by omega)), Bool.true_and]; (rw [Bool.eq_iff_iff]; (try simp only [Bool.true_and, Bool.false_and, Bool.and_true, Bool.and_false, Bool.false_or, Bool.true_or, Bool.or_false, Bool.or_true, true_and, and_true, false_and, and_false, false_or, or_false, true_or, or_true, Bool.and_eq_true, Bool.or_eq_true, Bool.not_eq_true', decide_eq_true_eq, decide_eq_false_iff_not, Bool.false_eq_true, Bool.true_eq_false, Bool.not_true, Bool.not_false, eq_self_iff_true, true_iff, false_iff, iff_true, iff_false, not_true, not_false_eq_true]); omega)) | (rw [all_no (k := k) (p := fun i => segB R.length (plan.getD i (0, 0, 0))) (by omega) (by assumption), Bool.false_and])), hS37.ext⟩
 ·skip
  rw [decide_eq_false hb23] at hA22
  refine c_false hA22 rfl ?_
  refine c_exit ?_
  refine then_exit ?_
  refine then_exit ?_
  refine blk_hit ?_
  refine then_n ?_
  refine c_seq ?_
  have hA50 := hA22.as [(1, vp)] rfl; clear hA22
  refine c_region ?_
  refine st hA50 (op_move rfl (hA50.ev rfl)) rfl rfl (by decide) fun a51 hA52 => ?_; clear hA50 a21
  refine st hA52 (op_lenS rfl un_51 (hA52.ev rfl) (hS14.sk 2 rfl)) rfl rfl (by decide) fun a53 hA54 => ?_; clear hA52 a51
  refine st hA54 (op_leq rfl (hA54.ev rfl) (evc _ _)) rfl rfl (by decide) fun a55 hA56 => ?_; clear hA54 a53
  refine st hA56 (op_assign rfl (hA56.ev rfl)) rfl rfl (by decide) fun a57 hA58 => ?_; clear hA56 a55
  refine wl_nil ?_
  refine then_n ?_
  refine c_ret ?_
  refine fin_run hA58 (.inl rfl) (run_results1 hA58 rfl (.tmp rfl)) ?_
  exact ⟨congrArg Value.bool (by unfold planB allSegB; first | (rw [all_yes (p := fun i => segB R.length (plan.getD i (0, 0, 0))) (fun i hi => hsg i (by omega)), Bool.true_and]; (rw [Bool.eq_iff_iff]; (try simp only [Bool.true_and, Bool.false_and, Bool.and_true, Bool.and_false, Bool.false_or, Bool.true_or, Bool.or_false, Bool.or_true, true_and, and_true, false_and, and_false, false_or, or_false, true_or, or_true, Bool.and_eq_true, Bool.or_eq_true, Bool.not_eq_true', decide_eq_true_eq, decide_eq_false_iff_not, Bool.false_eq_true, Bool.true_eq_false, Bool.not_true, Bool.not_false, eq_self_iff_true, true_iff, false_iff, iff_true, iff_false, not_true, not_false_eq_true]); omega)) | (rw [all_no (k := k) (p := fun i => segB R.length (plan.getD i (0, 0, 0))) (by omega) (by assumption), Bool.false_and])), hS14.ext⟩
set_option maxHeartbeats 1000000 in
theorem ready_ok (w : World) (R : List (Int × Int)) (vr : Value) (hm : SlAt w vr 2 R.length (pairs R)) (rs : List RunD) (lv : List Value) (vu : Value) (hx : RunsAt w vu lv rs) (plan : List Seg) (vp : Value) (hp : SlAt w vp 3 plan.length (trips plan)) :
  Calls Try.prog 27 #[(Value.agg #[vr]), vu, vp] w (Ret fun v w' => v = .bool (readyB R rs plan) ∧ Ext NoB w w') := by
 refine calls_enter Try.func27 rfl fun a0 hA0 => ?_
 replace hA0 : Fr 22 [] [(0, (Value.agg #[vr])), (1, vu), (2, vp)] a0 := hA0
 have hS0 : Sep NoB w w [(sl vr 2 R.length (pairs R)), (runsR false vu lv rs), (sl vp 3 plan.length (trips plan))] := sep_ro ⟨rfl, hm, rfl, hx, rfl, hp, trivial⟩
 refine c_seq ?_
 refine c_region ?_
 refine stw hA0 (op_box hS0 rfl (hA0.ev rfl) (cs := [vr]) rfl) rfl rfl (by decide) ?_
 rintro a1 _ w3 ⟨b4, rfl, hS5⟩ hA2; clear hA0 hS0 a0
 refine st hA2 (op_assign rfl (evc _ _)) rfl rfl (by decide) fun a6 hA7 => ?_; clear hA2 a1
 refine wl_nil ?_
 refine then_n ?_
 refine c_seq ?_
 refine c_region ?_
 refine st hA7 (op_loadA rfl ty_24 (hA7.ev rfl) (hS5.bk 0 rfl) (l := [vr]) rfl rfl) rfl rfl (by decide) fun a8 hA9 => ?_; clear hA7 a6
 refine st hA9 (op_move rfl (hA9.ev rfl)) rfl rfl (by decide) fun a10 hA11 => ?_; clear hA9 a8
 refine st hA11 (op_move rfl (hA11.ev rfl)) rfl rfl (by decide) fun a12 hA13 => ?_; clear hA11 a10
 refine stw hA13 (op_call rfl en_16 (ev3 (hA13.ev rfl) (hA13.ev rfl) (hA13.ev rfl)) (Thin_ok _ R _ (hS5.sk 1 rfl) rs _ _ (runs_at (hS5.ok 2 _ rfl)) plan _ (hS5.sk 3 rfl))) rfl rfl (by decide) ?_
 rintro a14 _ w16 ⟨rfl, hE17⟩ hA15; have hS18 := hS5.step hE17; clear hE17 hA13 hS5 a12
 refine st hA15 (op_move rfl (hA15.ev rfl)) rfl rfl (by decide) fun a19 hA20 => ?_; clear hA15 a14
 rcases Bool.eq_false_or_eq_true ((thinB R rs plan.length)) with hb21 | hb21
 ·skip
  rw [hb21] at hA20
  have hth := thin_of (R := R) (rs := rs) (pl := plan.length) (by assumption); have h6 := hth.mat; have h12 := hth.plan
  refine stg hA20 (op_loadA rfl ty_24 (hA20.ev rfl) (hS18.bk 0 rfl) (l := [vr]) rfl rfl) rfl rfl rfl rfl (by decide) fun a22 hA23 => ?_; clear hA20 a19
  refine stg hA23 (op_move rfl (hA23.ev rfl)) rfl rfl rfl rfl (by decide) fun a24 hA25 => ?_; clear hA23 a22
  refine stwg hA25 (op_call rfl en_41 (ev2 (hA25.ev rfl) (hA25.ev rfl)) (fault_ok _ R _ (hS18.sk 1 rfl) rs _ _ (runs_at (hS18.ok 2 _ rfl)))) rfl rfl rfl rfl (by decide) ?_
  rintro a26 _ w28 ⟨rfl, hE29⟩ hA27; have hS30 := hS18.step hE29; clear hE29 hA25 hS18 a24
  refine stg hA27 (op_eql rfl (hA27.ev rfl) (evc _ _)) rfl rfl rfl rfl (by decide) fun a31 hA32 => ?_; clear hA27 a26
  refine st hA32 (op_pick_t rfl (hA32.ev rfl) (hA32.ev rfl)) rfl rfl (by decide) fun a33 hA34 => ?_; clear hA32 a31
  refine st hA34 (op_move rfl (hA34.ev rfl)) rfl rfl (by decide) fun a35 hA36 => ?_; clear hA34 a33
  by_cases hb37 : (enterF R rs) = 0
  ·skip
   rw [decide_eq_true hb37] at hA36
   refine stg hA36 (op_loadA rfl ty_24 (hA36.ev rfl) (hS30.bk 0 rfl) (l := [vr]) rfl rfl) rfl rfl rfl rfl (by decide) fun a38 hA39 => ?_; clear hA36 a35
   refine stg hA39 (op_move rfl (hA39.ev rfl)) rfl rfl rfl rfl (by decide) fun a40 hA41 => ?_; clear hA39 a38
   refine stwg hA41 (op_call rfl en_33 (ev2 (hA41.ev rfl) (hA41.ev rfl)) (IsPlan_ok _ R _ (hS30.sk 1 rfl) plan _ (hS30.sk 3 rfl) (by omega) (by omega))) rfl rfl rfl rfl (by decide) ?_
   rintro a42 _ w44 ⟨rfl, hE45⟩ hA43; have hS46 := hS30.step hE45; clear hE45 hA41 hS30 a40
   refine st hA43 (op_pick_t rfl (hA43.ev rfl) (hA43.ev rfl)) rfl rfl (by decide) fun a47 hA48 => ?_; clear hA43 a42
   refine st hA48 (op_assign rfl (hA48.ev rfl)) rfl rfl (by decide) fun a49 hA50 => ?_; clear hA48 a47
   refine wl_nil ?_
   refine then_n ?_
   refine c_ret ?_
   refine fin_run hA50 (.inl rfl) (run_results1 hA50 rfl (.tmp rfl)) ?_
   exact ⟨congrArg Value.bool (by unfold readyB; simp [*]), hS46.ext⟩
  ·skip
   rw [decide_eq_false hb37] at hA36
   refine skp hA36 rfl rfl rfl rfl rfl (by decide) fun a51 hA52 => ?_; clear hA36 a35
   refine skp hA52 rfl rfl rfl rfl rfl (by decide) fun a53 hA54 => ?_; clear hA52 a51
   refine skp hA54 rfl rfl rfl rfl rfl (by decide) fun a55 hA56 => ?_; clear hA54 a53
   refine st hA56 (op_pick_f rfl (hA56.ev rfl) (evc _ _)) rfl rfl (by decide) fun a57 hA58 => ?_; clear hA56 a55
   refine st hA58 (op_assign rfl (hA58.ev rfl)) rfl rfl (by decide) fun a59 hA60 => ?_; clear hA58 a57
   refine wl_nil ?_
   refine then_n ?_
   refine c_ret ?_
   refine fin_run hA60 (.inl rfl) (run_results1 hA60 rfl (.tmp rfl)) ?_
   exact ⟨congrArg Value.bool (by unfold readyB; simp [*]), hS30.ext⟩
 ·skip
  rw [hb21] at hA20
  refine skp hA20 rfl rfl rfl rfl rfl (by decide) fun a61 hA62 => ?_; clear hA20 a19
  refine skp hA62 rfl rfl rfl rfl rfl (by decide) fun a63 hA64 => ?_; clear hA62 a61
  refine skp hA64 rfl rfl rfl rfl rfl (by decide) fun a65 hA66 => ?_; clear hA64 a63
  refine skp hA66 rfl rfl rfl rfl rfl (by decide) fun a67 hA68 => ?_; clear hA66 a65
  refine st hA68 (op_pick_f rfl (hA68.ev rfl) (evc _ _)) rfl rfl (by decide) fun a69 hA70 => ?_; clear hA68 a67
  refine st hA70 (op_move rfl (hA70.ev rfl)) rfl rfl (by decide) fun a71 hA72 => ?_; clear hA70 a69
  refine skp hA72 rfl rfl rfl rfl rfl (by decide) fun a73 hA74 => ?_; clear hA72 a71
  refine skp hA74 rfl rfl rfl rfl rfl (by decide) fun a75 hA76 => ?_; clear hA74 a73
  refine skp hA76 rfl rfl rfl rfl rfl (by decide) fun a77 hA78 => ?_; clear hA76 a75
  refine st hA78 (op_pick_f rfl (hA78.ev rfl) (evc _ _)) rfl rfl (by decide) fun a79 hA80 => ?_; clear hA78 a77
  refine st hA80 (op_assign rfl (hA80.ev rfl)) rfl rfl (by decide) fun a81 hA82 => ?_; clear hA80 a79
  refine wl_nil ?_
  refine then_n ?_
  refine c_ret ?_
  refine fin_run hA82 (.inl rfl) (run_results1 hA82 rfl (.tmp rfl)) ?_
  exact ⟨congrArg Value.bool (by unfold readyB; simp [*]), hS18.ext⟩
end Go.Proofs.Ytkkglkdnnfegkaa

namespace Go.Proofs.Ytkkglkdnnfegkaa
open Go.RowKit Go.Eng
end Go.Proofs.Ytkkglkdnnfegkaa

namespace Go.Proofs.Ytkkglkdnnfegkaa
open Go.RowKit Go.Eng
end Go.Proofs.Ytkkglkdnnfegkaa

namespace Go.Proofs.Ytkkglkdnnfegkaa
open Go.RowKit Go.Eng
theorem getD_memL {A : List (List Int)} {k : Nat} (h : k < A.length) : A.getD k [] ∈ A := by
  simp only [List.getD, List.getElem?_eq_getElem h, Option.getD_some]
  exact List.getElem_mem h
theorem mem_getD {A : List (List Int)} {l : List Int} (h : l ∈ A) : ∃ k, k < A.length ∧ A.getD k [] = l := by
  obtain ⟨k, hk, e⟩ := List.mem_iff_getElem.1 h
  exact ⟨k, hk, by simp [List.getD, hk, e]⟩
section
variable {plan : List Seg} {A : List (List Int)}
theorem least_mem : ∀ q, 0 < q → ∃ k, k < q ∧ leastF plan A q = A.getD k []
  | q + 1, _ => by
    unfold leastF; split
    · exact ⟨q, by omega, rfl⟩
    · rename_i h
      obtain ⟨k, hk, e⟩ := least_mem q (by omega)
      exact ⟨k, by omega, e⟩
theorem most_mem : ∀ q, 0 < q → ∃ k, k < q ∧ mostF plan A q = A.getD k []
  | q + 1, _ => by
    unfold mostF; split
    · exact ⟨q, by omega, rfl⟩
    · rename_i h
      obtain ⟨k, hk, e⟩ := most_mem q (by omega)
      exact ⟨k, by omega, e⟩
theorem least_le : ∀ q k, k < q → stLo plan (leastF plan A q) ≤ stLo plan (A.getD k [])
  | q + 1, k, hk => by
    unfold leastF; split
    · rename_i h
      by_cases e : k = q
      · subst e; exact Int.le_refl _
      · rcases h with h | h
        · omega
        · have := least_le q k (by omega); omega
    · rename_i h
      by_cases e : k = q
      · subst e; omega
      · exact least_le q k (by omega)
theorem most_ge : ∀ q k, k < q → stHi plan (A.getD k []) ≤ stHi plan (mostF plan A q)
  | q + 1, k, hk => by
    unfold mostF; split
    · rename_i h
      by_cases e : k = q
      · subst e; exact Int.le_refl _
      · rcases h with h | h
        · omega
        · have := most_ge q k (by omega); omega
    · rename_i h
      by_cases e : k = q
      · subst e; omega
      · exact most_ge q k (by omega)
end
section
variable {R : List (Int × Int)} {rs : List RunD} {plan : List Seg} (hR : MatV R) (hV : RunsV R.length rs) (hpos : 0 < (allowedF R rs).length) (hs : ∀ i, i < plan.length → SegV R.length (plan.getD i (0, 0, 0)))
include hR hV hpos hs
omit hs
omit hR hV in
theorem leastR_mem (plan : List Seg) : ∃ k, k < (allowedF R rs).length ∧ leastR R rs plan = (allowedF R rs).getD k [] := least_mem _ hpos
omit hR hV in
theorem mostR_mem (plan : List Seg) : ∃ k, k < (allowedF R rs).length ∧ mostR R rs plan = (allowedF R rs).getD k [] := most_mem _ hpos
end
end Go.Proofs.Ytkkglkdnnfegkaa

namespace Go.Proofs.Ytkkglkdnnfegkaa
open Go.RowKit Go.Eng
theorem poss_same {R : List (Int × Int)} {rs rs' : List RunD} (h : allowedF R rs' = allowedF R rs) (he : enterF R rs = 0) (he' : enterF R rs' = 0) : possF R rs' = possF R rs := by
  unfold possF; rw [h, he, he']
theorem allowB_app (rs : List RunD) (x : RunD) (r : List Int) : allowB (rs ++ [x]) r = (allowB rs r && allowsB x r) := by
  unfold allowB
  rw [List.length_append, List.length_cons, List.length_nil, Nat.zero_add, List.range_succ, List.all_append]
  have e : ∀ i, i < rs.length → (rs ++ [x]).getD i run0 = rs.getD i run0 := fun i hi => by simp [List.getD, List.getElem?_append, hi]
  have e2 : (rs ++ [x]).getD rs.length run0 = x := by simp [List.getD]
  congr 1
  · rw [Bool.eq_iff_iff, List.all_eq_true, List.all_eq_true]
    exact ⟨fun hh i hi => by rw [← e i (List.mem_range.1 hi)]; exact hh i hi, fun hh i hi => by rw [e i (List.mem_range.1 hi)]; exact hh i hi⟩
  · simp only [List.all_cons, List.all_nil, Bool.and_true, e2]
theorem allowed_app (R : List (Int × Int)) (rs : List RunD) (x : RunD) : allowedF R (rs ++ [x]) = (allowedF R rs).filter (allowsB x) := by
  unfold allowedF
  rw [List.filter_filter]
  congr 1; funext r; rw [allowB_app, Bool.and_comm]
theorem allows_all {n : Nat} {segs : List Seg} {r : List Int} (hl : segs.length ≤ 8) (hr : RatesV r) (hs : ∀ i, i < segs.length → SegV n (segs.getD i (0, 0, 0))) : allowsB ⟨segs, 0, 10000000000⟩ r = true := by
  have h1 := stU_bd (f := Prod.fst) hr.2 hs (fun _ => .inl rfl) _ (Nat.le_refl _)
  have h2 := stU_bd (f := Prod.snd) hr.2 hs (fun _ => .inr rfl) _ (Nat.le_refl _)
  rw [stU_lo] at h1; rw [stU_hi] at h2
  simp only [allowsB, Bool.and_eq_true, decide_eq_true_eq]
  omega
theorem allowed_all {R : List (Int × Int)} {rs : List RunD} {segs : List Seg} (hR : MatV R) (hl : segs.length ≤ 8) (hs : ∀ i, i < segs.length → SegV R.length (segs.getD i (0, 0, 0))) : allowedF R (rs ++ [⟨segs, 0, 10000000000⟩]) = allowedF R rs := by
  rw [allowed_app, List.filter_eq_self]
  intro l hm
  exact allows_all hl (fromF_rates hR R.length [0, 0, 0] 0 zero_rates l (List.mem_filter.1 hm).1) hs
end Go.Proofs.Ytkkglkdnnfegkaa

namespace Go.Proofs.Ytkkglkdnnfegkaa
open Go.RowKit Go.Eng
theorem rngU_bd (A : List (List Int)) (b : Nat) : ∀ q, (∀ k, k < q → (rngU A b q).1 ≤ (A.getD k []).getD b 0 ∧ (A.getD k []).getD b 0 ≤ (rngU A b q).2) ∧ (∃ k, (k < q ∨ k = 0) ∧ (rngU A b q).1 = (A.getD k []).getD b 0) ∧ (∃ k, (k < q ∨ k = 0) ∧ (rngU A b q).2 = (A.getD k []).getD b 0)
  | 0 => ⟨fun k hk => by omega, ⟨0, .inr rfl, rfl⟩, ⟨0, .inr rfl, rfl⟩⟩
  | q + 1 => by
    obtain ⟨h1, ⟨k2, h2, e2⟩, ⟨k3, h3, e3⟩⟩ := rngU_bd A b q
    refine ⟨fun k hk => ?_, ?_, ?_⟩
    · simp only [rngU]
      by_cases e : k = q
      · subst e; omega
      · have := h1 k (by omega); omega
    · simp only [rngU]
      by_cases h : (rngU A b q).1 ≤ (A.getD q []).getD b 0
      · exact ⟨k2, by omega, by rw [Int.min_eq_left h]; exact e2⟩
      · exact ⟨q, by omega, Int.min_eq_right (by omega)⟩
    · simp only [rngU]
      by_cases h : (A.getD q []).getD b 0 ≤ (rngU A b q).2
      · exact ⟨k3, by omega, by rw [Int.max_eq_left h]; exact e3⟩
      · exact ⟨q, by omega, Int.max_eq_right (by omega)⟩
theorem ratesF_rng {R : List (Int × Int)} {rs : List RunD} (hpos : 0 < (allowedF R rs).length) {b : Nat} (hb : b < R.length) : (ratesF R rs).getD b (0, 0) = rngU (allowedF R rs) b (allowedF R rs).length := by
  unfold ratesF
  obtain ⟨q, hq⟩ : ∃ q, (allowedF R rs).length = q + 1 := ⟨(allowedF R rs).length - 1, by omega⟩
  rw [hq]
  exact outF_rng hb (fun i _ => rfl) q (by omega)
theorem rates_bd {R : List (Int × Int)} {rs : List RunD} {b : Nat} (hb : b < R.length) {k : Nat} (hk : k < (allowedF R rs).length) : ((ratesF R rs).getD b (0, 0)).1 ≤ ((allowedF R rs).getD k []).getD b 0 ∧ ((allowedF R rs).getD k []).getD b 0 ≤ ((ratesF R rs).getD b (0, 0)).2 := by
  rw [ratesF_rng (by omega) hb]
  exact (rngU_bd _ _ _).1 k hk
def Sub (A B : List (List Int)) : Prop := ∀ k, k < A.length → ∃ j, j < B.length ∧ A.getD k [] = B.getD j []
theorem sub_filter (p : List Int → Bool) (B : List (List Int)) : Sub (B.filter p) B := fun k hk => by
  have h := (List.mem_filter.1 (getD_memL hk)).1
  obtain ⟨j, hj, e⟩ := mem_getD h
  exact ⟨j, hj, e.symm⟩
theorem sub_app (R : List (Int × Int)) (rs : List RunD) (x : RunD) : Sub (allowedF R (rs ++ [x])) (allowedF R rs) := by
  rw [allowed_app]; exact sub_filter _ _
theorem app_len (R : List (Int × Int)) (rs : List RunD) (x : RunD) : (allowedF R (rs ++ [x])).length ≤ (allowedF R rs).length := by
  rw [allowed_app]; exact List.length_filter_le ..
section
variable {R : List (Int × Int)} {rs rs' : List RunD} (hpos : 0 < (allowedF R rs').length) (hsub : Sub (allowedF R rs') (allowedF R rs))
include hpos hsub
theorem rates_sub {b : Nat} (hb : b < R.length) : ((ratesF R rs).getD b (0, 0)).1 ≤ ((ratesF R rs').getD b (0, 0)).1 ∧ ((ratesF R rs').getD b (0, 0)).2 ≤ ((ratesF R rs).getD b (0, 0)).2 := by
  rw [ratesF_rng (rs := rs') hpos hb]
  obtain ⟨_, ⟨k2, h2, e2⟩, ⟨k3, h3, e3⟩⟩ := rngU_bd (allowedF R rs') b (allowedF R rs').length
  rw [e2, e3]
  obtain ⟨j2, hj2, f2⟩ := hsub k2 (by omega)
  obtain ⟨j3, hj3, f3⟩ := hsub k3 (by omega)
  rw [f2, f3]
  exact ⟨(rates_bd hb hj2).1, (rates_bd hb hj3).2⟩
theorem str_sub (plan : List Seg) : stLo plan (leastR R rs plan) ≤ stLo plan (leastR R rs' plan) ∧ stHi plan (mostR R rs' plan) ≤ stHi plan (mostR R rs plan) := by
  obtain ⟨k2, h2, e2⟩ := leastR_mem hpos plan
  obtain ⟨k3, h3, e3⟩ := mostR_mem hpos plan
  rw [e2, e3]
  obtain ⟨j2, hj2, f2⟩ := hsub k2 h2
  obtain ⟨j3, hj3, f3⟩ := hsub k3 h3
  rw [f2, f3]
  exact ⟨least_le _ _ hj2, most_ge _ _ hj3⟩
end
section
variable {A : List (List Int)} {band : Nat} {s : Int}
def hrs (A : List (List Int)) (band : Nat) (s : Int) (k : Nat) : Int := hoursF ((A.getD k []).getD band 0) s
theorem life_spec (h : ∀ i, -1 ≤ hrs A band s i) : ∀ q, ((lifeU A band s q).2 = true ↔ ∃ k, k < q ∧ hrs A band s k = -1) ∧
    (((lifeU A band s q).1.1 = -1 ∧ (lifeU A band s q).1.2 = -1 ∧ ∀ k, k < q → hrs A band s k = -1) ∨
     (0 ≤ (lifeU A band s q).1.1 ∧ (lifeU A band s q).1.1 ≤ (lifeU A band s q).1.2 ∧ (∀ k, k < q → 0 ≤ hrs A band s k → (lifeU A band s q).1.1 ≤ hrs A band s k ∧ hrs A band s k ≤ (lifeU A band s q).1.2) ∧ (∃ k, k < q ∧ hrs A band s k = (lifeU A band s q).1.1) ∧ (∃ k, k < q ∧ hrs A band s k = (lifeU A band s q).1.2)))
  | 0 => ⟨by simp [lifeU], .inl ⟨rfl, rfl, fun k hk => by omega⟩⟩
  | q + 1 => by
    obtain ⟨i1, i2⟩ := life_spec h q
    have hq := h q
    by_cases hn : hrs A band s q < 0
    · have e := lifeU_neg h hn
      rw [e]
      refine ⟨⟨fun _ => ⟨q, by omega, by omega⟩, fun _ => rfl⟩, ?_⟩
      rcases i2 with ⟨a, b, c⟩ | ⟨a, b, c, ⟨k1, d1, d2⟩, ⟨k2, d3, d4⟩⟩
      · exact .inl ⟨a, b, fun k hk => by
          by_cases e : k = q
          · subst e; omega
          · exact c k (by omega)⟩
      · exact .inr ⟨a, b, fun k hk h0 => by
          by_cases e : k = q
          · subst e; omega
          · exact c k (by omega) h0, ⟨k1, by omega, d2⟩, ⟨k2, by omega, d4⟩⟩
    · have e : lifeU A band s (q + 1) = (((if (lifeU A band s q).1.1 < 0 ∨ hrs A band s q < (lifeU A band s q).1.1 then hrs A band s q else (lifeU A band s q).1.1), max (lifeU A band s q).1.2 (hrs A band s q)), (lifeU A band s q).2) := lifeU_lo h hn
      rw [e]
      refine ⟨⟨fun hh => by obtain ⟨k, hk, e⟩ := i1.1 hh; exact ⟨k, by omega, e⟩, fun ⟨k, hk, e2⟩ => i1.2 ⟨k, by
        have : k ≠ q := fun hh => by subst hh; omega
        omega, e2⟩⟩, .inr ?_⟩
      simp only
      have hb : ∀ k, k < q + 1 → k = q ∨ k < q := fun k hk => by omega
      rcases i2 with ⟨a, b, c⟩ | ⟨a, b, c, ⟨k1, d1, d2⟩, ⟨k2, d3, d4⟩⟩
      · rw [if_pos (.inl (by omega)), b, Int.max_eq_right (by omega)]
        refine ⟨by omega, by omega, fun k hk h0 => ?_, ⟨q, by omega, rfl⟩, ⟨q, by omega, rfl⟩⟩
        rcases hb k hk with rfl | hk
        · omega
        · have := c k hk; omega
      · by_cases hc : hrs A band s q < (lifeU A band s q).1.1
        · rw [if_pos (.inr hc), Int.max_eq_left (by omega)]
          refine ⟨by omega, by omega, fun k hk h0 => ?_, ⟨q, by omega, rfl⟩, ⟨k2, by omega, d4⟩⟩
          rcases hb k hk with rfl | hk
          · omega
          · have := c k hk h0; omega
        · rw [if_neg (by omega)]
          by_cases hc2 : hrs A band s q ≤ (lifeU A band s q).1.2
          · rw [Int.max_eq_left hc2]
            refine ⟨by omega, by omega, fun k hk h0 => ?_, ⟨k1, by omega, d2⟩, ⟨k2, by omega, d4⟩⟩
            rcases hb k hk with rfl | hk
            · omega
            · exact c k hk h0
          · rw [Int.max_eq_right (by omega)]
            refine ⟨by omega, by omega, fun k hk h0 => ?_, ⟨k1, by omega, d2⟩, ⟨q, by omega, rfl⟩⟩
            rcases hb k hk with rfl | hk
            · omega
            · have := c k hk h0; omega
structure LifeV (A : List (List Int)) (band : Nat) (s : Int) (x : Int × Int) : Prop where
  all : ∀ k, k < A.length → 0 ≤ hrs A band s k → 0 ≤ x.1 ∧ x.1 ≤ hrs A band s k ∧ (x.2 = -1 ∨ hrs A band s k ≤ x.2)
  nev : ∀ k, k < A.length → hrs A band s k = -1 → x.2 = -1
  lo : x.1 = -1 ∨ ∃ k, k < A.length ∧ hrs A band s k = x.1 ∧ 0 ≤ x.1
  hi : (x.2 = -1 ∧ ((∃ k, k < A.length ∧ hrs A band s k = -1) ∨ A.length = 0)) ∨ (∃ k, k < A.length ∧ hrs A band s k = x.2 ∧ 0 ≤ x.2) ∧ (∀ k, k < A.length → 0 ≤ hrs A band s k) ∧ 0 ≤ x.1 ∧ x.1 ≤ x.2
theorem life_is (h : ∀ i, -1 ≤ hrs A band s i) : LifeV A band s (lifeR A band s) := by
  obtain ⟨i1, i2⟩ := life_spec h A.length
  unfold lifeR
  by_cases hn : (lifeU A band s A.length).2 = true
  · rw [if_pos hn]
    rcases i2 with ⟨a, b, c⟩ | ⟨a, b, c, ⟨k1, d1, d2⟩, _⟩
    · exact ⟨fun k hk h0 => by have := c k hk; omega, fun _ _ _ => rfl, .inl a, .inl ⟨rfl, .inl (i1.1 hn)⟩⟩
    · exact ⟨fun k hk h0 => ⟨a, (c k hk h0).1, .inl rfl⟩, fun _ _ _ => rfl, .inr ⟨k1, d1, d2, a⟩, .inl ⟨rfl, .inl (i1.1 hn)⟩⟩
  · rw [if_neg hn]
    have hno : ∀ k, k < A.length → 0 ≤ hrs A band s k := fun k hk => by
      have h1 := h k
      by_cases e : hrs A band s k = -1
      · exact absurd (i1.2 ⟨k, hk, e⟩) hn
      · omega
    rcases i2 with ⟨a, b, c⟩ | ⟨a, b, c, ⟨k1, d1, d2⟩, ⟨k2, d3, d4⟩⟩
    · exact ⟨fun k hk h0 => by have := c k hk; omega, fun k hk e => by have := hno k hk; omega, .inl a, .inl ⟨b, .inr (by
        by_cases e : A.length = 0
        · exact e
        · have h1 := c 0 (by omega); have h2 := hno 0 (by omega); omega)⟩⟩
    · exact ⟨fun k hk h0 => ⟨a, (c k hk h0).1, .inr (c k hk h0).2⟩, fun k hk e => by have := hno k hk; omega, .inr ⟨k1, d1, d2, a⟩, .inr ⟨⟨k2, d3, d4, by simp only; omega⟩, hno, a, b⟩⟩
theorem life_sub {B : List (List Int)} {x y : Int × Int} (hpos : 0 < A.length) (hA : LifeV A band s x) (hB : LifeV B band s y) (hsub : Sub A B) (h : ∀ i, -1 ≤ hrs A band s i) :
    ¬ (¬ y.2 = -1 ∧ (x.2 = -1 ∨ y.2 < x.2)) ∧ ¬ (¬ x.1 = -1 ∧ (y.1 = -1 ∨ x.1 < y.1)) := by
  constructor
  · rintro ⟨h1, h2⟩
    rcases hB.hi with h3 | ⟨_, h4, _, _⟩
    · exact h1 h3.1
    · have hall : ∀ k, k < A.length → 0 ≤ hrs A band s k ∧ hrs A band s k ≤ y.2 := fun k hk => by
        obtain ⟨j, hj, e⟩ := hsub k hk
        have e2 : hrs A band s k = hrs B band s j := by show hoursF _ _ = hoursF _ _; rw [e]
        have a := h4 j hj
        have b := (hB.all j hj a).2.2
        omega
      rcases hA.hi with ⟨_, ⟨k, hk, e⟩ | h5⟩ | ⟨⟨k, hk, e, _⟩, _⟩
      · have := hall k hk; omega
      · omega
      · have := hall k hk; omega
  · rintro ⟨h1, h2⟩
    rcases hA.lo with h3 | ⟨k, hk, e, h4⟩
    · exact h1 h3
    · obtain ⟨j, hj, e1⟩ := hsub k hk
      have e2 : hrs A band s k = hrs B band s j := by show hoursF _ _ = hoursF _ _; rw [e1]
      have := hB.all j hj (by omega)
      omega
end
end Go.Proofs.Ytkkglkdnnfegkaa

namespace Go.Proofs.Ytkkglkdnnfegkaa
open Go.RowKit Go.Eng
theorem vtrips_set12 : ∀ (xs : List (Value × Int × Int)) (i : Nat) (_ : i < xs.length) (a b : Int), setFrom (vtrips xs) (i * 3 + 1) [.int .i64 a, .int .i64 b] = vtrips (xs.set i ((xs.getD i (nilS, 0, 0)).1, a, b))
  | x :: xs, 0, _, a, b => rfl
  | x :: xs, i + 1, h, a, b => by
    have ih := vtrips_set12 xs i (by simpa using h) a b
    have e : ∀ j u, ∀ c : List Value, (Value.int .i64 j :: c).length = u → True := fun _ _ _ _ => trivial
    rw [vtrips_cons, show (i + 1) * 3 + 1 = (i * 3 + 1) + 1 + 1 + 1 by omega]
    have e1 : setFrom (x.1 :: Value.int .i64 x.2.1 :: Value.int .i64 x.2.2 :: vtrips xs) (i * 3 + 1 + 1 + 1 + 1) [.int .i64 a, .int .i64 b] = x.1 :: Value.int .i64 x.2.1 :: Value.int .i64 x.2.2 :: setFrom (vtrips xs) (i * 3 + 1) [.int .i64 a, .int .i64 b] := rfl
    rw [e1, ih]; rfl
theorem runV_set : ∀ (lv : List Value) (rs : List RunD) (i : Nat) (u : Value) (x : RunD), runV (lv.set i u) (rs.set i x) = (runV lv rs).set i (u, x.lo, x.hi)
  | [], _, _, _, _ => by simp [runV]
  | _ :: _, [], _, _, _ => by simp [runV]
  | _ :: _, _ :: _, 0, _, _ => rfl
  | v :: lv, r :: rs, i + 1, u, x => by
    have ih := runV_set lv rs i u x
    show (v, r.lo, r.hi) :: runV (lv.set i u) (rs.set i x) = (v, r.lo, r.hi) :: (runV lv rs).set i (u, x.lo, x.hi)
    rw [ih]
theorem set_getD {α : Type} {l : List α} {i : Nat} {d : α} : l.set i (l.getD i d) = l := by
  apply List.ext_getElem?
  intro j
  rw [List.getElem?_set]
  split
  · rename_i e; subst e
    split
    · rename_i h; simp [List.getD, h]
    · rename_i h; rw [List.getElem?_eq_none (by omega)]
  · rfl
section
variable {lv : List Value} {rs : List RunD} {i : Nat} (hl : lv.length = rs.length) (h : i < rs.length)
include hl h
theorem runs_set12 (a b : Int) : setFrom (vtrips (runV lv rs)) (i * 3 + 1) [.int .i64 a, .int .i64 b] = vtrips (runV lv (rs.set i ⟨(rs.getD i run0).segs, a, b⟩)) := by
  rw [vtrips_set12 _ _ (by rw [runV_len hl]; exact h), runV_getD hl h]
  have := runV_set lv rs i (lv.getD i nilS) ⟨(rs.getD i run0).segs, a, b⟩
  rw [set_getD] at this
  rw [this]
end
theorem slice_one {w : World} {v : Value} {sz n : Nat} {cs : List Value} (h : SlAt w v sz n cs) : v.oneCell' = true := SlAt.one h
theorem runs_one {w : World} {lv : List Value} {rs : List RunD} (hl : lv.length = rs.length) (h : SegsAt w lv rs) : (vtrips (runV lv rs)).all (·.oneCell') = true := by
  rw [List.all_eq_true]
  intro u hu
  obtain ⟨j, hj, e⟩ := List.mem_iff_getElem.1 hu
  have hj2 := hj
  rw [vtrips_length, runV_len hl] at hj2
  have e2 : (vtrips (runV lv rs))[j]? = some u := by rw [List.getElem?_eq_getElem hj, e]
  obtain ⟨i, hi, hji⟩ : ∃ i, i < rs.length ∧ (j = i * 3 ∨ j = i * 3 + 1 ∨ j = i * 3 + 2) := ⟨j / 3, by omega, by omega⟩
  rcases hji with rfl | rfl | rfl
  · rw [runs_at0 hl hi] at e2; cases e2; exact slice_one (h i hi)
  · rw [runs_at1 hl hi] at e2; cases e2; rfl
  · rw [runs_at2 hl hi] at e2; cases e2; rfl
theorem set_last {rs : List RunD} {x y : RunD} : (rs ++ [x]).set rs.length y = rs ++ [y] := by simp
theorem getD_last {rs : List RunD} {x : RunD} : (rs ++ [x]).getD rs.length run0 = x := by simp [List.getD]
end Go.Proofs.Ytkkglkdnnfegkaa
namespace Go.Eng
open Go.RowKit Go.Eng
open Go.Proofs.Ytkkglkdnnfegkaa
section
variable {X : Nat → Prop} {w0 w : World} {L : List Res}
theorem Sep.fact2 {r : Res} (h : Eng.Sep X w0 w L) (ho : r.own = false) (hr : r.p w) (hn : ∀ b, r.S b → ∃ (i : Nat) (s : Res), L[i]? = some s ∧ s.own = false ∧ s.S b) : Eng.Sep X w0 w (r :: L) :=
  h.fact ho hr fun b hb i s hi hs hbs => by
    obtain ⟨j, t, hj, ht, hbt⟩ := hn b hb
    have hij : i ≠ j := fun e => by subst e; rw [hi] at hj; cases hj; rw [hs] at ht; cases ht
    exact h.apart i j s t hij hi hj hs b hbs hbt
theorem Sep.segs_app {i j : Nat} {vu um : Value} {lv : List Value} {rs : List RunD} {x : RunD} (h : Eng.Sep X w0 w L) (hi : L[i]? = some (runsR false vu lv rs)) (hj : L[j]? = some (sl um 3 x.segs.length (trips x.segs))) : Eng.Sep X w0 w (segsR false (lv ++ [um]) (rs ++ [x]) :: L) := by
  have h1 := runs_at (h.ok i _ hi)
  have h0 : SlAt w um 3 x.segs.length (trips x.segs) := h.sk j hj
  have each : ∀ i, i < (rs ++ [x]).length → ((lv ++ [um]).getD i nilS = lv.getD i nilS ∧ (rs ++ [x]).getD i run0 = rs.getD i run0 ∧ i < rs.length) ∨ ((lv ++ [um]).getD i nilS = um ∧ (rs ++ [x]).getD i run0 = x) := fun i hi => by
    simp only [List.length_append, List.length_cons, List.length_nil] at hi
    rw [getD_app, getD_app, h1.len]
    by_cases hl : i < rs.length
    · rw [if_pos hl, if_pos hl]; exact .inl ⟨rfl, rfl, hl⟩
    · rw [if_neg hl, if_neg hl, if_pos (by omega), if_pos (by omega)]; exact .inr ⟨rfl, rfl⟩
  refine h.fact2 rfl ⟨by simp [h1.len], fun i hi => ?_⟩ (fun b ⟨q, hq, hb⟩ => ?_)
  · rcases each i hi with ⟨e1, e2, e3⟩ | ⟨e1, e2⟩
    · rw [e1, e2]; exact h1.segs i e3
    · rw [e1, e2]; exact h0
  · rcases each q hq with ⟨e1, e2, e3⟩ | ⟨e1, e2⟩
    · rw [e1, e2] at hb; exact ⟨i, _, hi, rfl, .inr ⟨q, e3, hb⟩⟩
    · rw [e1, e2] at hb; exact ⟨j, _, hj, rfl, hb⟩
theorem Sep.runs_ro {v : Value} {e n : Nat} {lv : List Value} {rs : List RunD} (h : Eng.Sep X w0 w (row v e 3 n (vtrips (runV lv rs)) :: segsR false lv rs :: L)) (hn : n = rs.length) : Eng.Sep X w0 w (runsR false v lv rs :: L) := by
  subst hn
  have h1 : (segsR false lv rs).p w := h.ok 1 _ rfl
  refine h.join ⟨SlAt.of_row (h.ok_row 0 rfl), h1.1, h1.2⟩ (fun b hb => ?_) (fun he => by cases he) (fun _ => trivial)
  rcases hb with hb | hb
  · exact .inl (slFoot_row hb)
  · exact .inr hb
end
end Go.Eng
namespace Go.Proofs.Ytkkglkdnnfegkaa
open Go.RowKit Go.Eng
end Go.Proofs.Ytkkglkdnnfegkaa

namespace Go.Proofs.Ytkkglkdnnfegkaa
open Go.RowKit Go.Eng
theorem poss_09 {R : List (Int × Int)} {rs : List RunD} (he : enterF R rs = 0) : possF R rs = 0 ∨ possF R rs = 9 := by
  by_cases h : (allowedF R rs).length = 0
  · exact .inr (poss_9 he h)
  · exact .inl (poss_0 he (by omega))
end Go.Proofs.Ytkkglkdnnfegkaa

namespace Go.Proofs.Ytkkglkdnnfegkaa
open Go.RowKit Go.Eng
section
variable {R : List (Int × Int)} {rs : List RunD} {b : Nat} {s : Int} (hR : MatV R) (hpos : 0 < (allowedF R rs).length) (hs : 0 ≤ s ∧ s ≤ 4294967295)
include hR in
theorem al_bd (k : Nat) (hk : k < (allowedF R rs).length) : 0 ≤ ((allowedF R rs).getD k []).getD b 0 ∧ ((allowedF R rs).getD k []).getD b 0 ≤ 1000 := (allowed_rates hR hk).1.2 b
include hR hs in
theorem hrs_ge (i : Nat) : -1 ≤ hrs (allowedF R rs) b s i := by
  by_cases hi : i < (allowedF R rs).length
  · exact hours_ge (al_bd hR i hi).1 hs.1
  · have : (allowedF R rs).getD i [] = [] := by simp [List.getD, List.getElem?_eq_none (Nat.le_of_not_lt hi)]
    show -1 ≤ hoursF _ _
    rw [this]; exact hours_ge (by simp) hs.1
include hR hs in
theorem life_v : LifeV (allowedF R rs) b s (lifeR (allowedF R rs) b s) := life_is (hrs_ge hR hs)
end
end Go.Proofs.Ytkkglkdnnfegkaa

namespace Go.Proofs.Ytkkglkdnnfegkaa
open Go.RowKit Go.Eng
section
variable {plan : List Seg} {k : Nat} {y : Int} (hk : k < plan.length)
include hk
end
theorem segB_of {n : Nat} {s : Seg} (h : SegV n s) : segB n s = true := by
  have h1 := h.b; have h2 := h.h
  simp only [segB, uptoB, Bool.and_eq_true, decide_eq_true_eq]; omega
end Go.Proofs.Ytkkglkdnnfegkaa

namespace Go.Proofs.Ytkkglkdnnfegkaa
open Go.RowKit Go.Eng
theorem getD_snoc {rs : List RunD} {x : RunD} {i : Nat} (hi : i < (rs ++ [x]).length) : (i < rs.length ∧ (rs ++ [x]).getD i run0 = rs.getD i run0) ∨ (i = rs.length ∧ (rs ++ [x]).getD i run0 = x) := by
  simp only [List.length_append, List.length_cons, List.length_nil] at hi
  by_cases h : i < rs.length
  · exact .inl ⟨h, by simp [List.getD, List.getElem?_append, h]⟩
  · obtain rfl : i = rs.length := by omega
    exact .inr ⟨rfl, getD_last⟩
theorem more_segs {rs : List RunD} {x : RunD} {n : Nat} (hs : ∀ i, i < rs.length → (rs.getD i run0).segs.length ≤ n) (h : x.segs.length ≤ n) : ∀ i, i < (rs ++ [x]).length → ((rs ++ [x]).getD i run0).segs.length ≤ n := fun i hi => by
  rcases getD_snoc hi with ⟨h1, e⟩ | ⟨_, e⟩
  · rw [e]; exact hs i h1
  · rw [e]; exact h
theorem enter_of {R : List (Int × Int)} {rs : List RunD} (hc : checkF R = 0) (hV : RunsV R.length rs) : enterF R rs = 0 :=
  enter_0 hc hV.len (all_yes fun i hi => decide_eq_true (by have := (hV.runs i hi).len; omega)) (all_yes fun i hi => runB_yes (hV.runs i hi).seen (fun k hk => segB_of ((hV.runs i hi).segs k hk)))
theorem more_enter {R : List (Int × Int)} {rs : List RunD} {mo : RunD} (he : enterF R rs = 0) (he2 : enterF R (rs ++ [mo]) = 0) : enterF R (rs ++ [(⟨mo.segs, 0, 10000000000⟩ : RunD)]) = 0 := by
  have hV := enter_runs he
  have hV2 := enter_runs he2
  have hl := hV2.len
  have hmo : RunV R.length mo := by have := hV2.runs rs.length (by simp); rwa [getD_last] at this
  refine enter_of (enter_mat he) ⟨by simpa using hl, fun i hi => ?_⟩
  rcases getD_snoc hi with ⟨h1, e⟩ | ⟨_, e⟩
  · rw [e]; exact hV.runs i h1
  · rw [e]; exact ⟨by simp only; omega, hmo.len, hmo.segs⟩
theorem life_two {R : List (Int × Int)} {rs rs' : List RunD} {b : Nat} {s : Int} (hR : MatV R) (hpos : 0 < (allowedF R rs').length) (hsub : Sub (allowedF R rs') (allowedF R rs)) (hs : 0 ≤ s ∧ s ≤ 4294967295) :
    ((lifeR (allowedF R rs) b s).2 = -1 ∨ (¬ (lifeR (allowedF R rs') b s).2 = -1 ∧ (lifeR (allowedF R rs') b s).2 ≤ (lifeR (allowedF R rs) b s).2)) ∧ ((lifeR (allowedF R rs') b s).1 = -1 ∨ (¬ (lifeR (allowedF R rs) b s).1 = -1 ∧ (lifeR (allowedF R rs) b s).1 ≤ (lifeR (allowedF R rs') b s).1)) := by
  have h := life_sub (x := lifeR (allowedF R rs') b s) (y := lifeR (allowedF R rs) b s) hpos (life_v hR hs) (life_v hR hs) hsub (hrs_ge hR hs)
  omega
end Go.Proofs.Ytkkglkdnnfegkaa
