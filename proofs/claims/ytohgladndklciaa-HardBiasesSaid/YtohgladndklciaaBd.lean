/-
  The errors of readings, of a machine's bias, of what a table makes of a range; which machines are off.
  The tables of a book by the scales that they convert: what the map of a bench holds.
  One pass over the tables, in the order of the scales that they lead to, and from: what is left to do.
-/
import Derived.Test.YtohgladndklciaaBc
import Derived.Test.YtohgladndklciaaEnga
import Derived.Test.YtohgladndklciaaEngb
set_option linter.unusedSimpArgs false
set_option linter.unusedVariables false
namespace Go.Proofs.Ytohgladndklciaa
open Go.RowKit Go.Shelf Go.Eng Go.Hard
theorem fd_25_1 : fldK Try.prog 25 1 = some 1 := by kernel_rfl
theorem ty_22 : tyK Try.prog 22 = some (false, 1) := by kernel_rfl
theorem un_22 : Try.prog.underlying 22 = some (.slice 46) := by kernel_rfl
theorem fd_25_2 : fldK Try.prog 25 2 = some 2 := by kernel_rfl
theorem ty_23 : tyK Try.prog 23 = some (false, 1) := by kernel_rfl
theorem un_23 : Try.prog.underlying 23 = some (.slice 61) := by kernel_rfl
theorem un_49 : Try.prog.underlying 49 = some (.slice 67) := by kernel_rfl
theorem fd_25_0 : fldK Try.prog 25 0 = some 0 := by kernel_rfl
theorem en_51 : ∀ args w, (callFunc 51 args).run Try.prog w = .ok (.enter 51 args) w := enters_of Try.func51 (by kernel_rfl) rfl
theorem ze_61 : (Try.prog.info? 61).bind (·.zero) = some (Value.agg #[(Value.int .i64 0), (Value.slice none 0 0)]) := by kernel_rfl
theorem fd_61_0 : fldK Try.prog 61 0 = some 0 := by kernel_rfl
theorem en_52 : ∀ args w, (callFunc 52 args).run Try.prog w = .ok (.enter 52 args) w := enters_of Try.func52 (by kernel_rfl) rfl
theorem fd_37_1 : fldK Try.prog 37 1 = some 1 := by kernel_rfl
theorem ty_34 : tyK Try.prog 34 = some (false, 1) := by kernel_rfl
theorem fd_37_2 : fldK Try.prog 37 2 = some 2 := by kernel_rfl
theorem ty_35 : tyK Try.prog 35 = some (false, 1) := by kernel_rfl
theorem en_62 : ∀ args w, (callFunc 62 args).run Try.prog w = .ok (.enter 62 args) w := enters_of Try.func62 (by kernel_rfl) rfl
theorem en_61 : ∀ args w, (callFunc 61 args).run Try.prog w = .ok (.enter 61 args) w := enters_of Try.func61 (by kernel_rfl) rfl
theorem en_64 : ∀ args w, (callFunc 64 args).run Try.prog w = .ok (.enter 64 args) w := enters_of Try.func64 (by kernel_rfl) rfl
theorem en_63 : ∀ args w, (callFunc 63 args).run Try.prog w = .ok (.enter 63 args) w := enters_of Try.func63 (by kernel_rfl) rfl
theorem en_65 : ∀ args w, (callFunc 65 args).run Try.prog w = .ok (.enter 65 args) w := enters_of Try.func65 (by kernel_rfl) rfl
theorem en_66 : ∀ args w, (callFunc 66 args).run Try.prog w = .ok (.enter 66 args) w := enters_of Try.func66 (by kernel_rfl) rfl
theorem thin_ok (b : BookD) (vt vm : Value) (lr lb lk : Nat → Value) (w : World) (hT : TabsAt w vt lr lb b.tabs) (hM : MacsAt w vm lk b.macs) (l : List (Int × Int)) (xl : Value) (hxl : SlAt w xl 2 l.length (pairs l)) :
  Calls Try.prog 16 #[(Value.agg #[(Value.int .i64 b.scales), vt, vm]), xl] w (Ret fun v w' => v = .bool (thinF b l.length) ∧ Ext NoB w w') := by
 refine calls_enter Try.func16 rfl fun a0 hA0 => ?_
 replace hA0 : Fr 62 [] [(0, (Value.agg #[(Value.int .i64 b.scales), vt, vm])), (1, xl)] a0 := hA0
 have hS0 : Sep NoB w w [(tabsR false vt lr lb b.tabs), (macsR false vm lk b.macs), (sl xl 2 l.length (pairs l))] := sep_ro ⟨rfl, hT, rfl, hM, rfl, hxl, trivial⟩
 refine c_seq ?_
 refine c_region ?_
 refine stw hA0 (op_box hS0 rfl (hA0.ev rfl) (cs := [(Value.int .i64 b.scales), vt, vm]) rfl) rfl rfl (by decide) ?_
 rintro a1 _ w3 ⟨b4, rfl, hS5⟩ hA2; clear hA0 hS0 a0
 refine st hA2 (op_assign rfl (evc _ _)) rfl rfl (by decide) fun a6 hA7 => ?_; clear hA2 a1
 refine wl_nil ?_
 refine then_n ?_
 refine c_seq ?_
 refine c_seq ?_
 refine c_region ?_
 refine st hA7 (op_field rfl fd_25_1 (hA7.ev rfl)) rfl rfl (by decide) fun a8 hA9 => ?_; clear hA7 a6
 refine st hA9 (op_load1 rfl ty_22 (hA9.ev rfl) (hS5.bk 0 rfl) rfl) rfl rfl (by decide) fun a10 hA11 => ?_; clear hA9 a8
 refine st hA11 (op_lenS rfl un_22 (hA11.ev rfl) (tabs_at (hS5.ok 1 _ rfl)).tabs) rfl rfl (by decide) fun a12 hA13 => ?_; clear hA11 a10
 refine st hA13 (op_gtr rfl (hA13.ev rfl) (evc _ _)) rfl rfl (by decide) fun a14 hA15 => ?_; clear hA13 a12
 refine st hA15 (op_move rfl (hA15.ev rfl)) rfl rfl (by decide) fun a16 hA17 => ?_; clear hA15 a14
 by_cases hb18 : 9 < (b.tabs.length : Int)
 ·skip
  rw [decide_eq_true hb18] at hA17
  refine skp hA17 rfl rfl rfl rfl rfl (by decide) fun a19 hA20 => ?_; clear hA17 a16
  refine skp hA20 rfl rfl rfl rfl rfl (by decide) fun a21 hA22 => ?_; clear hA20 a19
  refine skp hA22 rfl rfl rfl rfl rfl (by decide) fun a23 hA24 => ?_; clear hA22 a21
  refine skp hA24 rfl rfl rfl rfl rfl (by decide) fun a25 hA26 => ?_; clear hA24 a23
  refine st hA26 (op_pick_t rfl (hA26.ev rfl) (evc _ _)) rfl rfl (by decide) fun a27 hA28 => ?_; clear hA26 a25
  refine st hA28 (op_move rfl (hA28.ev rfl)) rfl rfl (by decide) fun a29 hA30 => ?_; clear hA28 a27
  refine skp hA30 rfl rfl rfl rfl rfl (by decide) fun a31 hA32 => ?_; clear hA30 a29
  refine skp hA32 rfl rfl rfl rfl rfl (by decide) fun a33 hA34 => ?_; clear hA32 a31
  refine skp hA34 rfl rfl rfl rfl rfl (by decide) fun a35 hA36 => ?_; clear hA34 a33
  refine st hA36 (op_pick_t rfl (hA36.ev rfl) (evc _ _)) rfl rfl (by decide) fun a37 hA38 => ?_; clear hA36 a35
  refine wl_nil ?_
  refine then_n ?_
  refine c_true hA38 rfl ?_
  refine c_seq ?_
  have hA39 := hA38.as [] rfl; clear hA38
  refine c_region ?_
  refine st hA39 (op_assign rfl (evc _ _)) rfl rfl (by decide) fun a40 hA41 => ?_; clear hA39 a37
  refine wl_nil ?_
  refine then_n ?_
  refine c_ret ?_
  refine then_ret ?_
  refine fin_run hA41 (.inl rfl) (run_results1 hA41 rfl (.tmp rfl)) ?_
  exact ⟨congrArg Value.bool (Eq.symm (by first | exact thin_n1 (by omega) | exact thin_n2 (k := k) (by omega) | exact thin_n3 (k := k1) (by omega))), hS5.ext⟩
 ·skip
  rw [decide_eq_false hb18] at hA17
  refine stg hA17 (op_field rfl fd_25_2 (hA17.ev rfl)) rfl rfl rfl rfl (by decide) fun a42 hA43 => ?_; clear hA17 a16
  refine stg hA43 (op_load1 rfl ty_23 (hA43.ev rfl) (hS5.bk 0 rfl) rfl) rfl rfl rfl rfl (by decide) fun a44 hA45 => ?_; clear hA43 a42
  refine stg hA45 (op_lenS rfl un_23 (hA45.ev rfl) (macs_at (hS5.ok 2 _ rfl)).macs) rfl rfl rfl rfl (by decide) fun a46 hA47 => ?_; clear hA45 a44
  refine stg hA47 (op_gtr rfl (hA47.ev rfl) (evc _ _)) rfl rfl rfl rfl (by decide) fun a48 hA49 => ?_; clear hA47 a46
  refine st hA49 (op_pick_f rfl (hA49.ev rfl) (hA49.ev rfl)) rfl rfl (by decide) fun a50 hA51 => ?_; clear hA49 a48
  refine st hA51 (op_move rfl (hA51.ev rfl)) rfl rfl (by decide) fun a52 hA53 => ?_; clear hA51 a50
  by_cases hb54 : 9 < (b.macs.length : Int)
  ·skip
   rw [decide_eq_true hb54] at hA53
   refine skp hA53 rfl rfl rfl rfl rfl (by decide) fun a55 hA56 => ?_; clear hA53 a52
   refine skp hA56 rfl rfl rfl rfl rfl (by decide) fun a57 hA58 => ?_; clear hA56 a55
   refine skp hA58 rfl rfl rfl rfl rfl (by decide) fun a59 hA60 => ?_; clear hA58 a57
   refine st hA60 (op_pick_t rfl (hA60.ev rfl) (evc _ _)) rfl rfl (by decide) fun a61 hA62 => ?_; clear hA60 a59
   refine wl_nil ?_
   refine then_n ?_
   refine c_true hA62 rfl ?_
   refine c_seq ?_
   have hA63 := hA62.as [] rfl; clear hA62
   refine c_region ?_
   refine st hA63 (op_assign rfl (evc _ _)) rfl rfl (by decide) fun a64 hA65 => ?_; clear hA63 a61
   refine wl_nil ?_
   refine then_n ?_
   refine c_ret ?_
   refine then_ret ?_
   refine fin_run hA65 (.inl rfl) (run_results1 hA65 rfl (.tmp rfl)) ?_
   exact ⟨congrArg Value.bool (Eq.symm (by first | exact thin_n1 (by omega) | exact thin_n2 (k := k) (by omega) | exact thin_n3 (k := k1) (by omega))), hS5.ext⟩
  ·skip
   rw [decide_eq_false hb54] at hA53
   refine stg hA53 (op_move rfl (hA53.ev rfl)) rfl rfl rfl rfl (by decide) fun a66 hA67 => ?_; clear hA53 a52
   refine stg hA67 (op_lenS rfl un_49 (hA67.ev rfl) (hS5.sk 3 rfl)) rfl rfl rfl rfl (by decide) fun a68 hA69 => ?_; clear hA67 a66
   refine stg hA69 (op_gtr rfl (hA69.ev rfl) (evc _ _)) rfl rfl rfl rfl (by decide) fun a70 hA71 => ?_; clear hA69 a68
   refine st hA71 (op_pick_f rfl (hA71.ev rfl) (hA71.ev rfl)) rfl rfl (by decide) fun a72 hA73 => ?_; clear hA71 a70
   refine wl_nil ?_
   refine then_n ?_
   by_cases hb74 : 12 < (l.length : Int)
   ·skip
    rw [decide_eq_true hb74] at hA73
    refine c_true hA73 rfl ?_
    refine c_seq ?_
    have hA75 := hA73.as [] rfl; clear hA73
    refine c_region ?_
    refine st hA75 (op_assign rfl (evc _ _)) rfl rfl (by decide) fun a76 hA77 => ?_; clear hA75 a72
    refine wl_nil ?_
    refine then_n ?_
    refine c_ret ?_
    refine then_ret ?_
    refine fin_run hA77 (.inl rfl) (run_results1 hA77 rfl (.tmp rfl)) ?_
    exact ⟨congrArg Value.bool (Eq.symm (by first | exact thin_n1 (by omega) | exact thin_n2 (k := k) (by omega) | exact thin_n3 (k := k1) (by omega))), hS5.ext⟩
   ·skip
    rw [decide_eq_false hb74] at hA73
    refine c_false hA73 rfl ?_
    refine c_skip ?_
    refine then_n ?_
    refine c_seq ?_
    refine c_seq ?_
    have hA78 := hA73.as [(2, (bptr b4 0))] rfl; clear hA73
    refine c_region ?_
    refine st hA78 (op_assign rfl (evc _ _)) rfl rfl (by decide) fun a79 hA80 => ?_; clear hA78 a72
    refine wl_nil ?_
    refine then_n ?_
    refine c_block ?_
    have hA81 := hA80.as [(5, (Value.int .i64 0)), (2, (bptr b4 0))] rfl; clear hA80
    refine c_loop (G := Nat) (fun (k : Nat) a_ w_ => Fr 62 [] [(5, (Value.int .i64 (k : Int))), (2, (bptr b4 0))] a_ ∧ Sep NoB w w_ [(blk b4 25 [(Value.int .i64 b.scales), vt, vm]), (tabsR false vt lr lb b.tabs), (macsR false vm lk b.macs), (sl xl 2 l.length (pairs l))] ∧ (k ≤ b.tabs.length) ∧ (∀ i, i < k → (b.tabs.getD i tab0).rows.length ≤ 12 ∧ (b.tabs.getD i tab0).brk.length ≤ 12)) (fun k => b.tabs.length - k) 0 ⟨hA81.as _ rfl, hS5, by omega, (fun _ h => absurd h (Nat.not_lt_zero _))⟩ ?_
    clear hA81 hS5 a79
    rintro k a82 w84 ⟨hA83, hS85, hkk, hq1⟩
    refine c_seq ?_
    refine c_seq ?_
    refine c_region ?_
    refine st hA83 (op_move rfl (hA83.ev rfl)) rfl rfl (by decide) fun a86 hA87 => ?_; clear hA83 a82
    refine st hA87 (op_field rfl fd_25_1 (hA87.ev rfl)) rfl rfl (by decide) fun a88 hA89 => ?_; clear hA87 a86
    refine st hA89 (op_load1 rfl ty_22 (hA89.ev rfl) (hS85.bk 0 rfl) rfl) rfl rfl (by decide) fun a90 hA91 => ?_; clear hA89 a88
    refine st hA91 (op_lenS rfl un_22 (hA91.ev rfl) (tabs_at (hS85.ok 1 _ rfl)).tabs) rfl rfl (by decide) fun a92 hA93 => ?_; clear hA91 a90
    refine st hA93 (op_lss rfl (hA93.ev rfl) (hA93.ev rfl)) rfl rfl (by decide) fun a94 hA95 => ?_; clear hA93 a92
    refine wl_nil ?_
    refine then_n ?_
    by_cases hb96 : (k : Int) < (b.tabs.length : Int)
    ·skip
     rw [decide_eq_true hb96] at hA95
     refine c_true hA95 rfl ?_
     refine c_skip ?_
     refine then_n ?_
     refine c_seq ?_
     refine c_block ?_
     refine c_seq ?_
     refine c_region ?_
     refine st hA95 (op_field rfl fd_25_1 (hA95.ev rfl)) rfl rfl (by decide) fun a97 hA98 => ?_; clear hA95 a94
     refine st hA98 (op_load1 rfl ty_22 (hA98.ev rfl) (hS85.bk 0 rfl) rfl) rfl rfl (by decide) fun a99 hA100 => ?_; clear hA98 a97
     refine st hA100 (op_move rfl (hA100.ev rfl)) rfl rfl (by decide) fun a101 hA102 => ?_; clear hA100 a99
     refine st hA102 (op_indexS rfl un_22 ty_46 (hA102.ev rfl) (i := k) (hA102.ev rfl) (tabs_at (hS85.ok 1 _ rfl)).tabs (by decide) (by omega)) rfl rfl (by decide) fun a103 hA104 => ?_; clear hA102 a101
     refine st hA104 (op_fieldS rfl fd_46_2 (hA104.ev rfl) (tabs_at (hS85.ok 1 _ rfl)).tabs (by rw [((tabs_at (hS85.ok 1 _ rfl)).tabs).1]; omega)) rfl rfl (by decide) fun a105 hA106 => ?_; clear hA104 a103
     refine st hA106 (op_load1E rfl ty_43 (hA106.ev rfl) (tabs_at (hS85.ok 1 _ rfl)).tabs (tabs_at2 (by omega))) rfl rfl (by decide) fun a107 hA108 => ?_; clear hA106 a105
     refine st hA108 (op_lenS rfl un_43 (hA108.ev rfl) ((tabs_at (hS85.ok 1 _ rfl)).row (i := k) (by omega))) rfl rfl (by decide) fun a109 hA110 => ?_; clear hA108 a107
     refine st hA110 (op_gtr rfl (hA110.ev rfl) (evc _ _)) rfl rfl (by decide) fun a111 hA112 => ?_; clear hA110 a109
     refine st hA112 (op_move rfl (hA112.ev rfl)) rfl rfl (by decide) fun a113 hA114 => ?_; clear hA112 a111
     by_cases hb115 : 12 < ((b.tabs.getD k tab0).rows.length : Int)
     ·skip
      rw [decide_eq_true hb115] at hA114
      refine skp hA114 rfl rfl rfl rfl rfl (by decide) fun a116 hA117 => ?_; clear hA114 a113
      refine skp hA117 rfl rfl rfl rfl rfl (by decide) fun a118 hA119 => ?_; clear hA117 a116
      refine skp hA119 rfl rfl rfl rfl rfl (by decide) fun a120 hA121 => ?_; clear hA119 a118
      refine skp hA121 rfl rfl rfl rfl rfl (by decide) fun a122 hA123 => ?_; clear hA121 a120
      refine skp hA123 rfl rfl rfl rfl rfl (by decide) fun a124 hA125 => ?_; clear hA123 a122
      refine skp hA125 rfl rfl rfl rfl rfl (by decide) fun a126 hA127 => ?_; clear hA125 a124
      refine skp hA127 rfl rfl rfl rfl rfl (by decide) fun a128 hA129 => ?_; clear hA127 a126
      refine skp hA129 rfl rfl rfl rfl rfl (by decide) fun a130 hA131 => ?_; clear hA129 a128
      refine st hA131 (op_pick_t rfl (hA131.ev rfl) (evc _ _)) rfl rfl (by decide) fun a132 hA133 => ?_; clear hA131 a130
      refine wl_nil ?_
      refine then_n ?_
      refine c_true hA133 rfl ?_
      refine c_seq ?_
      have hA134 := hA133.as [] rfl; clear hA133
      refine c_region ?_
      refine st hA134 (op_assign rfl (evc _ _)) rfl rfl (by decide) fun a135 hA136 => ?_; clear hA134 a132
      refine wl_nil ?_
      refine then_n ?_
      refine c_ret ?_
      refine blk_ret ?_
      refine then_ret ?_
      refine then_ret ?_
      refine blk_ret ?_
      refine then_ret ?_
      refine fin_run hA136 (.inl rfl) (run_results1 hA136 rfl (.tmp rfl)) ?_
      exact ⟨congrArg Value.bool (Eq.symm (by first | exact thin_n1 (by omega) | exact thin_n2 (k := k) (by omega) | exact thin_n3 (k := k1) (by omega))), hS85.ext⟩
     ·skip
      rw [decide_eq_false hb115] at hA114
      refine stg hA114 (op_field rfl fd_25_1 (hA114.ev rfl)) rfl rfl rfl rfl (by decide) fun a137 hA138 => ?_; clear hA114 a113
      refine stg hA138 (op_load1 rfl ty_22 (hA138.ev rfl) (hS85.bk 0 rfl) rfl) rfl rfl rfl rfl (by decide) fun a139 hA140 => ?_; clear hA138 a137
      refine stg hA140 (op_move rfl (hA140.ev rfl)) rfl rfl rfl rfl (by decide) fun a141 hA142 => ?_; clear hA140 a139
      refine stg hA142 (op_indexS rfl un_22 ty_46 (hA142.ev rfl) (i := k) (hA142.ev rfl) (tabs_at (hS85.ok 1 _ rfl)).tabs (by decide) (by omega)) rfl rfl rfl rfl (by decide) fun a143 hA144 => ?_; clear hA142 a141
      refine stg hA144 (op_fieldS rfl fd_46_3 (hA144.ev rfl) (tabs_at (hS85.ok 1 _ rfl)).tabs (by rw [((tabs_at (hS85.ok 1 _ rfl)).tabs).1]; omega)) rfl rfl rfl rfl (by decide) fun a145 hA146 => ?_; clear hA144 a143
      refine stg hA146 (op_load1E rfl ty_44 (hA146.ev rfl) (tabs_at (hS85.ok 1 _ rfl)).tabs (tabs_at3 (by omega))) rfl rfl rfl rfl (by decide) fun a147 hA148 => ?_; clear hA146 a145
      refine stg hA148 (op_lenS rfl un_44 (hA148.ev rfl) ((tabs_at (hS85.ok 1 _ rfl)).brk (i := k) (by omega))) rfl rfl rfl rfl (by decide) fun a149 hA150 => ?_; clear hA148 a147
      refine stg hA150 (op_gtr rfl (hA150.ev rfl) (evc _ _)) rfl rfl rfl rfl (by decide) fun a151 hA152 => ?_; clear hA150 a149
      refine st hA152 (op_pick_f rfl (hA152.ev rfl) (hA152.ev rfl)) rfl rfl (by decide) fun a153 hA154 => ?_; clear hA152 a151
      refine wl_nil ?_
      refine then_n ?_
      by_cases hb155 : 12 < ((b.tabs.getD k tab0).brk.length : Int)
      ·skip
       rw [decide_eq_true hb155] at hA154
       refine c_true hA154 rfl ?_
       refine c_seq ?_
       have hA156 := hA154.as [] rfl; clear hA154
       refine c_region ?_
       refine st hA156 (op_assign rfl (evc _ _)) rfl rfl (by decide) fun a157 hA158 => ?_; clear hA156 a153
       refine wl_nil ?_
       refine then_n ?_
       refine c_ret ?_
       refine blk_ret ?_
       refine then_ret ?_
       refine then_ret ?_
       refine blk_ret ?_
       refine then_ret ?_
       refine fin_run hA158 (.inl rfl) (run_results1 hA158 rfl (.tmp rfl)) ?_
       exact ⟨congrArg Value.bool (Eq.symm (by first | exact thin_n1 (by omega) | exact thin_n2 (k := k) (by omega) | exact thin_n3 (k := k1) (by omega))), hS85.ext⟩
      ·skip
       rw [decide_eq_false hb155] at hA154
       refine c_false hA154 rfl ?_
       refine c_skip ?_
       refine blk_n ?_
       refine then_n ?_
       have hA159 := hA154.as [(5, (Value.int .i64 (k : Int))), (2, (bptr b4 0))] rfl; clear hA154
       refine c_region ?_
       refine st hA159 (op_move rfl (hA159.ev rfl)) rfl rfl (by decide) fun a160 hA161 => ?_; clear hA159 a153
       refine st hA161 (op_add rfl (hA161.ev rfl) (evc _ _) (by omega) (by omega)) rfl rfl (by decide) fun a162 hA163 => ?_; clear hA161 a160
       refine st hA163 (op_assign rfl (hA163.ev rfl)) rfl rfl (by decide) fun a164 hA165 => ?_; clear hA163 a162
       refine wl_nil ?_
       exact then_n ⟨k + 1, ⟨hA165.as _ rfl, hS85, by omega, (fun i hi => by rcases Nat.lt_succ_iff_lt_or_eq.1 hi with h | h; exact hq1 i h; subst h; omega)⟩, by omega⟩
    ·skip
     rw [decide_eq_false hb96] at hA95
     refine c_false hA95 rfl ?_
     refine c_exit ?_
     refine then_exit ?_
     refine then_exit ?_
     refine blk_hit ?_
     refine then_n ?_
     refine c_seq ?_
     refine c_seq ?_
     have hA166 := hA95.as [(2, (bptr b4 0))] rfl; clear hA95
     refine c_region ?_
     refine st hA166 (op_assign rfl (evc _ _)) rfl rfl (by decide) fun a167 hA168 => ?_; clear hA166 a94
     refine wl_nil ?_
     refine then_n ?_
     refine c_block ?_
     have hA169 := hA168.as [(6, (Value.int .i64 0)), (2, (bptr b4 0))] rfl; clear hA168
     refine c_loop (G := Nat) (fun (k1 : Nat) a_ w_ => Fr 62 [] [(6, (Value.int .i64 (k1 : Int))), (2, (bptr b4 0))] a_ ∧ Sep NoB w w_ [(blk b4 25 [(Value.int .i64 b.scales), vt, vm]), (tabsR false vt lr lb b.tabs), (macsR false vm lk b.macs), (sl xl 2 l.length (pairs l))] ∧ (k1 ≤ b.macs.length) ∧ (∀ i, i < k1 → (b.macs.getD i mac0).blocks.length ≤ 8)) (fun k1 => b.macs.length - k1) 0 ⟨hA169.as _ rfl, hS85, by omega, (fun _ h => absurd h (Nat.not_lt_zero _))⟩ ?_
     clear hA169 hS85 a167
     rintro k1 a170 w172 ⟨hA171, hS173, hkk1, hq2⟩
     refine c_seq ?_
     refine c_seq ?_
     refine c_region ?_
     refine st hA171 (op_move rfl (hA171.ev rfl)) rfl rfl (by decide) fun a174 hA175 => ?_; clear hA171 a170
     refine st hA175 (op_field rfl fd_25_2 (hA175.ev rfl)) rfl rfl (by decide) fun a176 hA177 => ?_; clear hA175 a174
     refine st hA177 (op_load1 rfl ty_23 (hA177.ev rfl) (hS173.bk 0 rfl) rfl) rfl rfl (by decide) fun a178 hA179 => ?_; clear hA177 a176
     refine st hA179 (op_lenS rfl un_23 (hA179.ev rfl) (macs_at (hS173.ok 2 _ rfl)).macs) rfl rfl (by decide) fun a180 hA181 => ?_; clear hA179 a178
     refine st hA181 (op_lss rfl (hA181.ev rfl) (hA181.ev rfl)) rfl rfl (by decide) fun a182 hA183 => ?_; clear hA181 a180
     refine wl_nil ?_
     refine then_n ?_
     by_cases hb184 : (k1 : Int) < (b.macs.length : Int)
     ·skip
      rw [decide_eq_true hb184] at hA183
      refine c_true hA183 rfl ?_
      refine c_skip ?_
      refine then_n ?_
      refine c_seq ?_
      refine c_block ?_
      refine c_seq ?_
      refine c_region ?_
      refine st hA183 (op_field rfl fd_25_2 (hA183.ev rfl)) rfl rfl (by decide) fun a185 hA186 => ?_; clear hA183 a182
      refine st hA186 (op_load1 rfl ty_23 (hA186.ev rfl) (hS173.bk 0 rfl) rfl) rfl rfl (by decide) fun a187 hA188 => ?_; clear hA186 a185
      refine st hA188 (op_move rfl (hA188.ev rfl)) rfl rfl (by decide) fun a189 hA190 => ?_; clear hA188 a187
      refine st hA190 (op_indexS rfl un_23 ty_61 (hA190.ev rfl) (i := k1) (hA190.ev rfl) (macs_at (hS173.ok 2 _ rfl)).macs (by decide) (by omega)) rfl rfl (by decide) fun a191 hA192 => ?_; clear hA190 a189
      refine st hA192 (op_fieldS rfl fd_61_1 (hA192.ev rfl) (macs_at (hS173.ok 2 _ rfl)).macs (by rw [((macs_at (hS173.ok 2 _ rfl)).macs).1]; omega)) rfl rfl (by decide) fun a193 hA194 => ?_; clear hA192 a191
      refine st hA194 (op_load1E rfl ty_59 (hA194.ev rfl) (macs_at (hS173.ok 2 _ rfl)).macs (macs_at1 (by omega))) rfl rfl (by decide) fun a195 hA196 => ?_; clear hA194 a193
      refine st hA196 (op_lenS rfl un_59 (hA196.ev rfl) ((macs_at (hS173.ok 2 _ rfl)).blk (i := k1) (by omega))) rfl rfl (by decide) fun a197 hA198 => ?_; clear hA196 a195
      refine st hA198 (op_gtr rfl (hA198.ev rfl) (evc _ _)) rfl rfl (by decide) fun a199 hA200 => ?_; clear hA198 a197
      refine wl_nil ?_
      refine then_n ?_
      by_cases hb201 : 8 < ((b.macs.getD k1 mac0).blocks.length : Int)
      ·skip
       rw [decide_eq_true hb201] at hA200
       refine c_true hA200 rfl ?_
       refine c_seq ?_
       have hA202 := hA200.as [] rfl; clear hA200
       refine c_region ?_
       refine st hA202 (op_assign rfl (evc _ _)) rfl rfl (by decide) fun a203 hA204 => ?_; clear hA202 a199
       refine wl_nil ?_
       refine then_n ?_
       refine c_ret ?_
       refine blk_ret ?_
       refine then_ret ?_
       refine then_ret ?_
       refine blk_ret ?_
       refine then_ret ?_
       refine fin_run hA204 (.inl rfl) (run_results1 hA204 rfl (.tmp rfl)) ?_
       exact ⟨congrArg Value.bool (Eq.symm (by first | exact thin_n1 (by omega) | exact thin_n2 (k := k) (by omega) | exact thin_n3 (k := k1) (by omega))), hS173.ext⟩
      ·skip
       rw [decide_eq_false hb201] at hA200
       refine c_false hA200 rfl ?_
       refine c_skip ?_
       refine blk_n ?_
       refine then_n ?_
       have hA205 := hA200.as [(6, (Value.int .i64 (k1 : Int))), (2, (bptr b4 0))] rfl; clear hA200
       refine c_region ?_
       refine st hA205 (op_move rfl (hA205.ev rfl)) rfl rfl (by decide) fun a206 hA207 => ?_; clear hA205 a199
       refine st hA207 (op_add rfl (hA207.ev rfl) (evc _ _) (by omega) (by omega)) rfl rfl (by decide) fun a208 hA209 => ?_; clear hA207 a206
       refine st hA209 (op_assign rfl (hA209.ev rfl)) rfl rfl (by decide) fun a210 hA211 => ?_; clear hA209 a208
       refine wl_nil ?_
       exact then_n ⟨k1 + 1, ⟨hA211.as _ rfl, hS173, by omega, (fun i hi => by rcases Nat.lt_succ_iff_lt_or_eq.1 hi with h | h; exact hq2 i h; subst h; omega)⟩, by omega⟩
     ·skip
      rw [decide_eq_false hb184] at hA183
      refine c_false hA183 rfl ?_
      refine c_exit ?_
      refine then_exit ?_
      refine then_exit ?_
      refine blk_hit ?_
      refine then_n ?_
      refine c_seq ?_
      have hA212 := hA183.as [] rfl; clear hA183
      refine c_region ?_
      refine st hA212 (op_assign rfl (evc _ _)) rfl rfl (by decide) fun a213 hA214 => ?_; clear hA212 a182
      refine wl_nil ?_
      refine then_n ?_
      refine c_ret ?_
      refine fin_run hA214 (.inl rfl) (run_results1 hA214 rfl (.tmp rfl)) ?_
      exact ⟨congrArg Value.bool (Eq.symm (thin_y (by omega) (by omega) (by omega) (fun i hi => hq1 i (by omega)) (fun i hi => hq2 i (by omega)))), hS173.ext⟩
set_option maxHeartbeats 4000000 in
theorem rfault_ok (b : BookD) (vt vm : Value) (lr lb lk : Nat → Value) (w : World) (hT : TabsAt w vt lr lb b.tabs) (hM : MacsAt w vm lk b.macs) (hth : ThinB b) :
  Calls Try.prog 21 #[(Value.agg #[(Value.int .i64 b.scales), vt, vm])] w (Ret fun v w' => v = .int .i64 (checkF b) ∧ Ext NoB w w') := by
 refine calls_enter Try.func21 rfl fun a0 hA0 => ?_
 replace hA0 : Fr 113 [] [(0, (Value.agg #[(Value.int .i64 b.scales), vt, vm]))] a0 := hA0
 have htl := hth.tl; have hml := hth.ml
 have hS0 : Sep NoB w w [(tabsR false vt lr lb b.tabs), (macsR false vm lk b.macs)] := sep_ro ⟨rfl, hT, rfl, hM, trivial⟩
 refine c_seq ?_
 refine c_region ?_
 refine stw hA0 (op_box hS0 rfl (hA0.ev rfl) (cs := [(Value.int .i64 b.scales), vt, vm]) rfl) rfl rfl (by decide) ?_
 rintro a1 _ w3 ⟨b4, rfl, hS5⟩ hA2; clear hA0 hS0 a0
 refine st hA2 (op_assign rfl (evc _ _)) rfl rfl (by decide) fun a6 hA7 => ?_; clear hA2 a1
 refine wl_nil ?_
 refine then_n ?_
 refine c_seq ?_
 refine c_seq ?_
 refine c_region ?_
 refine st hA7 (op_field rfl fd_25_1 (hA7.ev rfl)) rfl rfl (by decide) fun a8 hA9 => ?_; clear hA7 a6
 refine st hA9 (op_load1 rfl ty_22 (hA9.ev rfl) (hS5.bk 0 rfl) rfl) rfl rfl (by decide) fun a10 hA11 => ?_; clear hA9 a8
 refine st hA11 (op_lenS rfl un_22 (hA11.ev rfl) (tabs_at (hS5.ok 1 _ rfl)).tabs) rfl rfl (by decide) fun a12 hA13 => ?_; clear hA11 a10
 refine st hA13 (op_gtr rfl (hA13.ev rfl) (evc _ _)) rfl rfl (by decide) fun a14 hA15 => ?_; clear hA13 a12
 refine st hA15 (op_move rfl (hA15.ev rfl)) rfl rfl (by decide) fun a16 hA17 => ?_; clear hA15 a14
 by_cases hb18 : 6 < (b.tabs.length : Int)
 ·skip
  rw [decide_eq_true hb18] at hA17
  refine skp hA17 rfl rfl rfl rfl rfl (by decide) fun a19 hA20 => ?_; clear hA17 a16
  refine skp hA20 rfl rfl rfl rfl rfl (by decide) fun a21 hA22 => ?_; clear hA20 a19
  refine skp hA22 rfl rfl rfl rfl rfl (by decide) fun a23 hA24 => ?_; clear hA22 a21
  refine skp hA24 rfl rfl rfl rfl rfl (by decide) fun a25 hA26 => ?_; clear hA24 a23
  refine st hA26 (op_pick_t rfl (hA26.ev rfl) (evc _ _)) rfl rfl (by decide) fun a27 hA28 => ?_; clear hA26 a25
  refine wl_nil ?_
  refine then_n ?_
  refine c_true hA28 rfl ?_
  refine c_seq ?_
  have hA29 := hA28.as [] rfl; clear hA28
  refine c_region ?_
  refine st hA29 (op_assign rfl (evc _ _)) rfl rfl (by decide) fun a30 hA31 => ?_; clear hA29 a27
  refine wl_nil ?_
  refine then_n ?_
  refine c_ret ?_
  refine then_ret ?_
  refine fin_run hA31 (.inl rfl) (run_results1 hA31 rfl (.tmp rfl)) ?_
  exact ⟨ret_int (Eq.symm (by first | exact check_3a (by omega) | exact check_3b (k := k) (by omega) (by omega) | exact check_3c (k := k1) (by omega) (by omega) | exact check_1a (⟨by omega, by omega, fun i hi => hq1 i (by omega), fun i hi => hq2 i (by omega)⟩ : ShortB b) (by assumption) | exact check_1b (k := k2) (⟨by omega, by omega, fun i hi => hq1 i (by omega), fun i hi => hq2 i (by omega)⟩ : ShortB b) (by omega) (by assumption) | exact check_1c (k := k3) (⟨by omega, by omega, fun i hi => hq1 i (by omega), fun i hi => hq2 i (by omega)⟩ : ShortB b) (by omega) (mac_n1 (by assumption)) | exact check_1c (k := k3) (⟨by omega, by omega, fun i hi => hq1 i (by omega), fun i hi => hq2 i (by omega)⟩ : ShortB b) (by omega) (mac_n2 (k := k4) (by omega) (blk_n (by first | exact .inl (by assumption) | exact .inr (by assumption)))) | exact check_0 (⟨by omega, by omega, fun i hi => hq1 i (by omega), fun i hi => hq2 i (by omega)⟩ : ShortB b) (by assumption) (fun i hi => hq3 i (by omega)) (fun i hi => hq4 i (by omega)))), hS5.ext⟩
 ·skip
  rw [decide_eq_false hb18] at hA17
  refine stg hA17 (op_field rfl fd_25_2 (hA17.ev rfl)) rfl rfl rfl rfl (by decide) fun a32 hA33 => ?_; clear hA17 a16
  refine stg hA33 (op_load1 rfl ty_23 (hA33.ev rfl) (hS5.bk 0 rfl) rfl) rfl rfl rfl rfl (by decide) fun a34 hA35 => ?_; clear hA33 a32
  refine stg hA35 (op_lenS rfl un_23 (hA35.ev rfl) (macs_at (hS5.ok 2 _ rfl)).macs) rfl rfl rfl rfl (by decide) fun a36 hA37 => ?_; clear hA35 a34
  refine stg hA37 (op_gtr rfl (hA37.ev rfl) (evc _ _)) rfl rfl rfl rfl (by decide) fun a38 hA39 => ?_; clear hA37 a36
  refine st hA39 (op_pick_f rfl (hA39.ev rfl) (hA39.ev rfl)) rfl rfl (by decide) fun a40 hA41 => ?_; clear hA39 a38
  refine wl_nil ?_
  refine then_n ?_
  by_cases hb42 : 6 < (b.macs.length : Int)
  ·skip
   rw [decide_eq_true hb42] at hA41
   refine c_true hA41 rfl ?_
   refine c_seq ?_
   have hA43 := hA41.as [] rfl; clear hA41
   refine c_region ?_
   refine st hA43 (op_assign rfl (evc _ _)) rfl rfl (by decide) fun a44 hA45 => ?_; clear hA43 a40
   refine wl_nil ?_
   refine then_n ?_
   refine c_ret ?_
   refine then_ret ?_
   refine fin_run hA45 (.inl rfl) (run_results1 hA45 rfl (.tmp rfl)) ?_
   exact ⟨ret_int (Eq.symm (by first | exact check_3a (by omega) | exact check_3b (k := k) (by omega) (by omega) | exact check_3c (k := k1) (by omega) (by omega) | exact check_1a (⟨by omega, by omega, fun i hi => hq1 i (by omega), fun i hi => hq2 i (by omega)⟩ : ShortB b) (by assumption) | exact check_1b (k := k2) (⟨by omega, by omega, fun i hi => hq1 i (by omega), fun i hi => hq2 i (by omega)⟩ : ShortB b) (by omega) (by assumption) | exact check_1c (k := k3) (⟨by omega, by omega, fun i hi => hq1 i (by omega), fun i hi => hq2 i (by omega)⟩ : ShortB b) (by omega) (mac_n1 (by assumption)) | exact check_1c (k := k3) (⟨by omega, by omega, fun i hi => hq1 i (by omega), fun i hi => hq2 i (by omega)⟩ : ShortB b) (by omega) (mac_n2 (k := k4) (by omega) (blk_n (by first | exact .inl (by assumption) | exact .inr (by assumption)))) | exact check_0 (⟨by omega, by omega, fun i hi => hq1 i (by omega), fun i hi => hq2 i (by omega)⟩ : ShortB b) (by assumption) (fun i hi => hq3 i (by omega)) (fun i hi => hq4 i (by omega)))), hS5.ext⟩
  ·skip
   rw [decide_eq_false hb42] at hA41
   refine c_false hA41 rfl ?_
   refine c_skip ?_
   refine then_n ?_
   refine c_seq ?_
   refine c_seq ?_
   have hA46 := hA41.as [(1, (bptr b4 0))] rfl; clear hA41
   refine c_region ?_
   refine st hA46 (op_assign rfl (evc _ _)) rfl rfl (by decide) fun a47 hA48 => ?_; clear hA46 a40
   refine wl_nil ?_
   refine then_n ?_
   refine c_block ?_
   have hA49 := hA48.as [(3, (Value.int .i64 0)), (1, (bptr b4 0))] rfl; clear hA48
   refine c_loop (G := Nat) (fun (k : Nat) a_ w_ => Fr 113 [] [(3, (Value.int .i64 (k : Int))), (1, (bptr b4 0))] a_ ∧ Sep NoB w w_ [(blk b4 25 [(Value.int .i64 b.scales), vt, vm]), (tabsR false vt lr lb b.tabs), (macsR false vm lk b.macs)] ∧ (k ≤ b.tabs.length) ∧ (∀ i, i < k → (b.tabs.getD i tab0).rows.length ≤ 8)) (fun k => b.tabs.length - k) 0 ⟨hA49.as _ rfl, hS5, by omega, (fun _ h => absurd h (Nat.not_lt_zero _))⟩ ?_
   clear hA49 hS5 a47
   rintro k a50 w52 ⟨hA51, hS53, hkk, hq1⟩
   refine c_seq ?_
   refine c_seq ?_
   refine c_region ?_
   refine st hA51 (op_move rfl (hA51.ev rfl)) rfl rfl (by decide) fun a54 hA55 => ?_; clear hA51 a50
   refine st hA55 (op_field rfl fd_25_1 (hA55.ev rfl)) rfl rfl (by decide) fun a56 hA57 => ?_; clear hA55 a54
   refine st hA57 (op_load1 rfl ty_22 (hA57.ev rfl) (hS53.bk 0 rfl) rfl) rfl rfl (by decide) fun a58 hA59 => ?_; clear hA57 a56
   refine st hA59 (op_lenS rfl un_22 (hA59.ev rfl) (tabs_at (hS53.ok 1 _ rfl)).tabs) rfl rfl (by decide) fun a60 hA61 => ?_; clear hA59 a58
   refine st hA61 (op_lss rfl (hA61.ev rfl) (hA61.ev rfl)) rfl rfl (by decide) fun a62 hA63 => ?_; clear hA61 a60
   refine wl_nil ?_
   refine then_n ?_
   by_cases hb64 : (k : Int) < (b.tabs.length : Int)
   ·skip
    rw [decide_eq_true hb64] at hA63
    refine c_true hA63 rfl ?_
    refine c_skip ?_
    refine then_n ?_
    refine c_seq ?_
    refine c_block ?_
    refine c_seq ?_
    refine c_region ?_
    refine st hA63 (op_field rfl fd_25_1 (hA63.ev rfl)) rfl rfl (by decide) fun a65 hA66 => ?_; clear hA63 a62
    refine st hA66 (op_load1 rfl ty_22 (hA66.ev rfl) (hS53.bk 0 rfl) rfl) rfl rfl (by decide) fun a67 hA68 => ?_; clear hA66 a65
    refine st hA68 (op_move rfl (hA68.ev rfl)) rfl rfl (by decide) fun a69 hA70 => ?_; clear hA68 a67
    refine st hA70 (op_indexS rfl un_22 ty_46 (hA70.ev rfl) (i := k) (hA70.ev rfl) (tabs_at (hS53.ok 1 _ rfl)).tabs (by decide) (by omega)) rfl rfl (by decide) fun a71 hA72 => ?_; clear hA70 a69
    refine st hA72 (op_fieldS rfl fd_46_2 (hA72.ev rfl) (tabs_at (hS53.ok 1 _ rfl)).tabs (by rw [((tabs_at (hS53.ok 1 _ rfl)).tabs).1]; omega)) rfl rfl (by decide) fun a73 hA74 => ?_; clear hA72 a71
    refine st hA74 (op_load1E rfl ty_43 (hA74.ev rfl) (tabs_at (hS53.ok 1 _ rfl)).tabs (tabs_at2 (by omega))) rfl rfl (by decide) fun a75 hA76 => ?_; clear hA74 a73
    refine st hA76 (op_lenS rfl un_43 (hA76.ev rfl) ((tabs_at (hS53.ok 1 _ rfl)).row (i := k) (by omega))) rfl rfl (by decide) fun a77 hA78 => ?_; clear hA76 a75
    refine st hA78 (op_gtr rfl (hA78.ev rfl) (evc _ _)) rfl rfl (by decide) fun a79 hA80 => ?_; clear hA78 a77
    refine wl_nil ?_
    refine then_n ?_
    by_cases hb81 : 8 < ((b.tabs.getD k tab0).rows.length : Int)
    ·skip
     rw [decide_eq_true hb81] at hA80
     refine c_true hA80 rfl ?_
     refine c_seq ?_
     have hA82 := hA80.as [] rfl; clear hA80
     refine c_region ?_
     refine st hA82 (op_assign rfl (evc _ _)) rfl rfl (by decide) fun a83 hA84 => ?_; clear hA82 a79
     refine wl_nil ?_
     refine then_n ?_
     refine c_ret ?_
     refine blk_ret ?_
     refine then_ret ?_
     refine then_ret ?_
     refine blk_ret ?_
     refine then_ret ?_
     refine fin_run hA84 (.inl rfl) (run_results1 hA84 rfl (.tmp rfl)) ?_
     exact ⟨ret_int (Eq.symm (by first | exact check_3a (by omega) | exact check_3b (k := k) (by omega) (by omega) | exact check_3c (k := k1) (by omega) (by omega) | exact check_1a (⟨by omega, by omega, fun i hi => hq1 i (by omega), fun i hi => hq2 i (by omega)⟩ : ShortB b) (by assumption) | exact check_1b (k := k2) (⟨by omega, by omega, fun i hi => hq1 i (by omega), fun i hi => hq2 i (by omega)⟩ : ShortB b) (by omega) (by assumption) | exact check_1c (k := k3) (⟨by omega, by omega, fun i hi => hq1 i (by omega), fun i hi => hq2 i (by omega)⟩ : ShortB b) (by omega) (mac_n1 (by assumption)) | exact check_1c (k := k3) (⟨by omega, by omega, fun i hi => hq1 i (by omega), fun i hi => hq2 i (by omega)⟩ : ShortB b) (by omega) (mac_n2 (k := k4) (by omega) (blk_n (by first | exact .inl (by assumption) | exact .inr (by assumption)))) | exact check_0 (⟨by omega, by omega, fun i hi => hq1 i (by omega), fun i hi => hq2 i (by omega)⟩ : ShortB b) (by assumption) (fun i hi => hq3 i (by omega)) (fun i hi => hq4 i (by omega)))), hS53.ext⟩
    ·skip
     rw [decide_eq_false hb81] at hA80
     refine c_false hA80 rfl ?_
     refine c_skip ?_
     refine blk_n ?_
     refine then_n ?_
     have hA85 := hA80.as [(3, (Value.int .i64 (k : Int))), (1, (bptr b4 0))] rfl; clear hA80
     refine c_region ?_
     refine st hA85 (op_move rfl (hA85.ev rfl)) rfl rfl (by decide) fun a86 hA87 => ?_; clear hA85 a79
     refine st hA87 (op_add rfl (hA87.ev rfl) (evc _ _) (by omega) (by omega)) rfl rfl (by decide) fun a88 hA89 => ?_; clear hA87 a86
     refine st hA89 (op_assign rfl (hA89.ev rfl)) rfl rfl (by decide) fun a90 hA91 => ?_; clear hA89 a88
     refine wl_nil ?_
     exact then_n ⟨k + 1, ⟨hA91.as _ rfl, hS53, by omega, (fun i hi => by rcases Nat.lt_succ_iff_lt_or_eq.1 hi with h | h; exact hq1 i h; subst h; omega)⟩, by omega⟩
   ·skip
    rw [decide_eq_false hb64] at hA63
    refine c_false hA63 rfl ?_
    refine c_exit ?_
    refine then_exit ?_
    refine then_exit ?_
    refine blk_hit ?_
    refine then_n ?_
    refine c_seq ?_
    refine c_seq ?_
    have hA92 := hA63.as [(1, (bptr b4 0))] rfl; clear hA63
    refine c_region ?_
    refine st hA92 (op_assign rfl (evc _ _)) rfl rfl (by decide) fun a93 hA94 => ?_; clear hA92 a62
    refine wl_nil ?_
    refine then_n ?_
    refine c_block ?_
    have hA95 := hA94.as [(4, (Value.int .i64 0)), (1, (bptr b4 0))] rfl; clear hA94
    refine c_loop (G := Nat) (fun (k1 : Nat) a_ w_ => Fr 113 [] [(4, (Value.int .i64 (k1 : Int))), (1, (bptr b4 0))] a_ ∧ Sep NoB w w_ [(blk b4 25 [(Value.int .i64 b.scales), vt, vm]), (tabsR false vt lr lb b.tabs), (macsR false vm lk b.macs)] ∧ (k1 ≤ b.macs.length) ∧ (∀ i, i < k1 → (b.macs.getD i mac0).blocks.length ≤ 5)) (fun k1 => b.macs.length - k1) 0 ⟨hA95.as _ rfl, hS53, by omega, (fun _ h => absurd h (Nat.not_lt_zero _))⟩ ?_
    clear hA95 hS53 a93
    rintro k1 a96 w98 ⟨hA97, hS99, hkk1, hq2⟩
    refine c_seq ?_
    refine c_seq ?_
    refine c_region ?_
    refine st hA97 (op_move rfl (hA97.ev rfl)) rfl rfl (by decide) fun a100 hA101 => ?_; clear hA97 a96
    refine st hA101 (op_field rfl fd_25_2 (hA101.ev rfl)) rfl rfl (by decide) fun a102 hA103 => ?_; clear hA101 a100
    refine st hA103 (op_load1 rfl ty_23 (hA103.ev rfl) (hS99.bk 0 rfl) rfl) rfl rfl (by decide) fun a104 hA105 => ?_; clear hA103 a102
    refine st hA105 (op_lenS rfl un_23 (hA105.ev rfl) (macs_at (hS99.ok 2 _ rfl)).macs) rfl rfl (by decide) fun a106 hA107 => ?_; clear hA105 a104
    refine st hA107 (op_lss rfl (hA107.ev rfl) (hA107.ev rfl)) rfl rfl (by decide) fun a108 hA109 => ?_; clear hA107 a106
    refine wl_nil ?_
    refine then_n ?_
    by_cases hb110 : (k1 : Int) < (b.macs.length : Int)
    ·skip
     rw [decide_eq_true hb110] at hA109
     refine c_true hA109 rfl ?_
     refine c_skip ?_
     refine then_n ?_
     refine c_seq ?_
     refine c_block ?_
     refine c_seq ?_
     refine c_region ?_
     refine st hA109 (op_field rfl fd_25_2 (hA109.ev rfl)) rfl rfl (by decide) fun a111 hA112 => ?_; clear hA109 a108
     refine st hA112 (op_load1 rfl ty_23 (hA112.ev rfl) (hS99.bk 0 rfl) rfl) rfl rfl (by decide) fun a113 hA114 => ?_; clear hA112 a111
     refine st hA114 (op_move rfl (hA114.ev rfl)) rfl rfl (by decide) fun a115 hA116 => ?_; clear hA114 a113
     refine st hA116 (op_indexS rfl un_23 ty_61 (hA116.ev rfl) (i := k1) (hA116.ev rfl) (macs_at (hS99.ok 2 _ rfl)).macs (by decide) (by omega)) rfl rfl (by decide) fun a117 hA118 => ?_; clear hA116 a115
     refine st hA118 (op_fieldS rfl fd_61_1 (hA118.ev rfl) (macs_at (hS99.ok 2 _ rfl)).macs (by rw [((macs_at (hS99.ok 2 _ rfl)).macs).1]; omega)) rfl rfl (by decide) fun a119 hA120 => ?_; clear hA118 a117
     refine st hA120 (op_load1E rfl ty_59 (hA120.ev rfl) (macs_at (hS99.ok 2 _ rfl)).macs (macs_at1 (by omega))) rfl rfl (by decide) fun a121 hA122 => ?_; clear hA120 a119
     refine st hA122 (op_lenS rfl un_59 (hA122.ev rfl) ((macs_at (hS99.ok 2 _ rfl)).blk (i := k1) (by omega))) rfl rfl (by decide) fun a123 hA124 => ?_; clear hA122 a121
     refine st hA124 (op_gtr rfl (hA124.ev rfl) (evc _ _)) rfl rfl (by decide) fun a125 hA126 => ?_; clear hA124 a123
     refine wl_nil ?_
     refine then_n ?_
     by_cases hb127 : 5 < ((b.macs.getD k1 mac0).blocks.length : Int)
     ·skip
      rw [decide_eq_true hb127] at hA126
      refine c_true hA126 rfl ?_
      refine c_seq ?_
      have hA128 := hA126.as [] rfl; clear hA126
      refine c_region ?_
      refine st hA128 (op_assign rfl (evc _ _)) rfl rfl (by decide) fun a129 hA130 => ?_; clear hA128 a125
      refine wl_nil ?_
      refine then_n ?_
      refine c_ret ?_
      refine blk_ret ?_
      refine then_ret ?_
      refine then_ret ?_
      refine blk_ret ?_
      refine then_ret ?_
      refine fin_run hA130 (.inl rfl) (run_results1 hA130 rfl (.tmp rfl)) ?_
      exact ⟨ret_int (Eq.symm (by first | exact check_3a (by omega) | exact check_3b (k := k) (by omega) (by omega) | exact check_3c (k := k1) (by omega) (by omega) | exact check_1a (⟨by omega, by omega, fun i hi => hq1 i (by omega), fun i hi => hq2 i (by omega)⟩ : ShortB b) (by assumption) | exact check_1b (k := k2) (⟨by omega, by omega, fun i hi => hq1 i (by omega), fun i hi => hq2 i (by omega)⟩ : ShortB b) (by omega) (by assumption) | exact check_1c (k := k3) (⟨by omega, by omega, fun i hi => hq1 i (by omega), fun i hi => hq2 i (by omega)⟩ : ShortB b) (by omega) (mac_n1 (by assumption)) | exact check_1c (k := k3) (⟨by omega, by omega, fun i hi => hq1 i (by omega), fun i hi => hq2 i (by omega)⟩ : ShortB b) (by omega) (mac_n2 (k := k4) (by omega) (blk_n (by first | exact .inl (by assumption) | exact .inr (by assumption)))) | exact check_0 (⟨by omega, by omega, fun i hi => hq1 i (by omega), fun i hi => hq2 i (by omega)⟩ : ShortB b) (by assumption) (fun i hi => hq3 i (by omega)) (fun i hi => hq4 i (by omega)))), hS99.ext⟩
     ·skip
      rw [decide_eq_false hb127] at hA126
      refine c_false hA126 rfl ?_
      refine c_skip ?_
      refine blk_n ?_
      refine then_n ?_
      have hA131 := hA126.as [(4, (Value.int .i64 (k1 : Int))), (1, (bptr b4 0))] rfl; clear hA126
      refine c_region ?_
      refine st hA131 (op_move rfl (hA131.ev rfl)) rfl rfl (by decide) fun a132 hA133 => ?_; clear hA131 a125
      refine st hA133 (op_add rfl (hA133.ev rfl) (evc _ _) (by omega) (by omega)) rfl rfl (by decide) fun a134 hA135 => ?_; clear hA133 a132
      refine st hA135 (op_assign rfl (hA135.ev rfl)) rfl rfl (by decide) fun a136 hA137 => ?_; clear hA135 a134
      refine wl_nil ?_
      exact then_n ⟨k1 + 1, ⟨hA137.as _ rfl, hS99, by omega, (fun i hi => by rcases Nat.lt_succ_iff_lt_or_eq.1 hi with h | h; exact hq2 i h; subst h; omega)⟩, by omega⟩
    ·skip
     rw [decide_eq_false hb110] at hA109
     refine c_false hA109 rfl ?_
     refine c_exit ?_
     refine then_exit ?_
     refine then_exit ?_
     refine blk_hit ?_
     refine then_n ?_
     refine c_seq ?_
     refine c_seq ?_
     have hA138 := hA109.as [(1, (bptr b4 0))] rfl; clear hA109
     refine c_region ?_
     refine st hA138 (op_field rfl fd_25_0 (hA138.ev rfl)) rfl rfl (by decide) fun a139 hA140 => ?_; clear hA138 a108
     refine st hA140 (op_load1 rfl ty_3 (hA140.ev rfl) (hS99.bk 0 rfl) rfl) rfl rfl (by decide) fun a141 hA142 => ?_; clear hA140 a139
     refine stw hA142 (op_call rfl en_22 (ev3 (hA142.ev rfl) (evc _ _) (evc _ _)) (In_ok _ _ _ _)) rfl rfl (by decide) ?_
     rintro a143 _ W_ ⟨rfl, hW_⟩ hA144; have hW2_ := hW_.symm; subst hW2_; clear hW_ hA142 a141
     refine st hA144 (op_not rfl (hA144.ev rfl)) rfl rfl (by decide) fun a146 hA147 => ?_; clear hA144 a143
     refine wl_nil ?_
     refine then_n ?_
     rcases Bool.eq_false_or_eq_true ((inB b.scales 1 4)) with hb148 | hb148
     ·skip
      rw [hb148] at hA147
      refine c_false hA147 rfl ?_
      refine c_skip ?_
      refine then_n ?_
      refine c_seq ?_
      refine c_seq ?_
      refine c_region ?_
      refine st hA147 (op_assign rfl (evc _ _)) rfl rfl (by decide) fun a149 hA150 => ?_; clear hA147 a146
      refine wl_nil ?_
      refine then_n ?_
      refine c_block ?_
      have hA151 := hA150.as [(5, (Value.int .i64 0)), (1, (bptr b4 0))] rfl; clear hA150
      refine c_loop (G := Nat) (fun (k2 : Nat) a_ w_ => Fr 113 [] [(5, (Value.int .i64 (k2 : Int))), (1, (bptr b4 0))] a_ ∧ Sep NoB w w_ [(blk b4 25 [(Value.int .i64 b.scales), vt, vm]), (tabsR false vt lr lb b.tabs), (macsR false vm lk b.macs)] ∧ (k2 ≤ b.tabs.length) ∧ (∀ i, i < k2 → tabB b.scales (b.tabs.getD i tab0) = true)) (fun k2 => b.tabs.length - k2) 0 ⟨hA151.as _ rfl, hS99, by omega, (fun _ h => absurd h (Nat.not_lt_zero _))⟩ ?_
      clear hA151 hS99 a149
      rintro k2 a152 w154 ⟨hA153, hS155, hkk2, hq3⟩
      refine c_seq ?_
      refine c_seq ?_
      refine c_region ?_
      refine st hA153 (op_move rfl (hA153.ev rfl)) rfl rfl (by decide) fun a156 hA157 => ?_; clear hA153 a152
      refine st hA157 (op_field rfl fd_25_1 (hA157.ev rfl)) rfl rfl (by decide) fun a158 hA159 => ?_; clear hA157 a156
      refine st hA159 (op_load1 rfl ty_22 (hA159.ev rfl) (hS155.bk 0 rfl) rfl) rfl rfl (by decide) fun a160 hA161 => ?_; clear hA159 a158
      refine st hA161 (op_lenS rfl un_22 (hA161.ev rfl) (tabs_at (hS155.ok 1 _ rfl)).tabs) rfl rfl (by decide) fun a162 hA163 => ?_; clear hA161 a160
      refine st hA163 (op_lss rfl (hA163.ev rfl) (hA163.ev rfl)) rfl rfl (by decide) fun a164 hA165 => ?_; clear hA163 a162
      refine wl_nil ?_
      refine then_n ?_
      by_cases hb166 : (k2 : Int) < (b.tabs.length : Int)
      ·skip
       rw [decide_eq_true hb166] at hA165
       refine c_true hA165 rfl ?_
       refine c_skip ?_
       refine then_n ?_
       refine c_seq ?_
       refine c_block ?_
       refine c_seq ?_
       have hA167 := hA165.as [(5, (Value.int .i64 (k2 : Int))), (1, (bptr b4 0))] rfl; clear hA165
       refine c_drawn mixed hA167 hS155 7 [[], [0], [], [2], [], [3, 4], [5]] [(Yd.val (bptr b4 0)), (Yd.val (Value.int .i64 b.scales)), (Yd.val (bptr b4 1)), (Yd.val vt), (Yd.val (Value.int .i64 (k2 : Int))), (Yd.val (eptr vt (k2 * 5))), (Yd.val (Value.agg #[(Value.int .i64 ((b.tabs.getD k2 tab0).frm)), (Value.int .i64 ((b.tabs.getD k2 tab0).dst)), (lr k2), (lb k2), (Value.int .i64 ((b.tabs.getD k2 tab0).err))]))] (by decide +kernel) rfl rfl ?_ ?_
       ·skip
        refine ⟨fun a w hA hS hd => by exact opG_of rfl (dv (op_field rfl fd_25_0 (hA.ev rfl)) hS rfl), ?_⟩
        refine ⟨fun a w hA hS hd => by have e0 := has_ev (hd 0 (by decide)) rfl (fun _ h => h); exact opG_of rfl (dv (op_load1 rfl ty_3 (tmp_ev e0) (hS.bk 0 rfl) rfl) hS rfl), ?_⟩
        refine ⟨fun a w hA hS hd => by exact opG_of rfl (dv (op_field rfl fd_25_1 (hA.ev rfl)) hS rfl), ?_⟩
        refine ⟨fun a w hA hS hd => by have e2 := has_ev (hd 2 (by decide)) rfl (fun _ h => h); exact opG_of rfl (dv (op_load1 rfl ty_22 (tmp_ev e2) (hS.bk 0 rfl) rfl) hS rfl), ?_⟩
        refine ⟨fun a w hA hS hd => by exact opG_of rfl (dv (op_move rfl (hA.ev rfl)) hS rfl), ?_⟩
        refine ⟨fun a w hA hS hd => by have e3 := has_ev (hd 3 (by decide)) rfl (fun _ h => h); have e4 := has_ev (hd 4 (by decide)) rfl (fun _ h => h); exact opG_of rfl (dv (op_indexS rfl un_22 ty_46 (tmp_ev e3) (i := k2) (tmp_ev e4) (tabs_at (hS.ok 1 _ rfl)).tabs (by decide) (by omega)) hS rfl), ?_⟩
        refine ⟨fun a w hA hS hd => by have e5 := has_ev (hd 5 (by decide)) rfl (fun _ h => h); exact opG_of rfl (dv (op_loadAE rfl ty_46 (tmp_ev e5) (tabs_at (hS.ok 1 _ rfl)).tabs (tabs_all (by omega)) rfl (by decide)) hS rfl), ?_⟩
        trivial
       intro a169 w170 hA171 hS172 hH173; clear hA167 hS155
       have hA174 := hA171.add (has_ev (hH173 1 (by decide)) rfl (fun _ h => h)); clear hA171
       have hA175 := hA174.add (has_ev (hH173 6 (by decide)) rfl (fun _ h => h)); clear hA174
       clear hH173
       refine stw hA175 (op_call rfl en_51 (ev2 (hA175.ev rfl) (hA175.ev rfl)) (istable_ok b.scales (inB_iff.1 (by assumption)) (b.tabs.getD k2 tab0) _ _ _ ((tabs_at (hS172.ok 1 _ rfl)).row (i := k2) (by omega)) ((tabs_at (hS172.ok 1 _ rfl)).brk (i := k2) (by omega)) (hth.rl _) (hth.bl _))) rfl rfl (by decide) ?_
       rintro a176 _ w178 ⟨rfl, hE179⟩ hA177; have hS180 := hS172.step hE179; clear hE179 hA175 hS172 a169
       refine st hA177 (op_not rfl (hA177.ev rfl)) rfl rfl (by decide) fun a181 hA182 => ?_; clear hA177 a176
       refine wl_nil ?_
       refine then_n ?_
       rcases Bool.eq_false_or_eq_true ((tabB b.scales (b.tabs.getD k2 tab0))) with hb183 | hb183
       ·skip
        rw [hb183] at hA182
        refine c_false hA182 rfl ?_
        refine c_skip ?_
        refine blk_n ?_
        refine then_n ?_
        refine c_region ?_
        refine st hA182 (op_move rfl (hA182.ev rfl)) rfl rfl (by decide) fun a184 hA185 => ?_; clear hA182 a181
        refine st hA185 (op_add rfl (hA185.ev rfl) (evc _ _) (by omega) (by omega)) rfl rfl (by decide) fun a186 hA187 => ?_; clear hA185 a184
        refine st hA187 (op_assign rfl (hA187.ev rfl)) rfl rfl (by decide) fun a188 hA189 => ?_; clear hA187 a186
        refine wl_nil ?_
        exact then_n ⟨k2 + 1, ⟨hA189.as _ rfl, hS180, by omega, (fun i hi => by rcases Nat.lt_succ_iff_lt_or_eq.1 hi with h | h; exact hq3 i h; subst h; assumption)⟩, by omega⟩
       ·skip
        rw [hb183] at hA182
        refine c_true hA182 rfl ?_
        refine c_seq ?_
        have hA190 := hA182.as [] rfl; clear hA182
        refine c_region ?_
        refine st hA190 (op_assign rfl (evc _ _)) rfl rfl (by decide) fun a191 hA192 => ?_; clear hA190 a181
        refine wl_nil ?_
        refine then_n ?_
        refine c_ret ?_
        refine blk_ret ?_
        refine then_ret ?_
        refine then_ret ?_
        refine blk_ret ?_
        refine then_ret ?_
        refine fin_run hA192 (.inl rfl) (run_results1 hA192 rfl (.tmp rfl)) ?_
        exact ⟨ret_int (Eq.symm (by first | exact check_3a (by omega) | exact check_3b (k := k) (by omega) (by omega) | exact check_3c (k := k1) (by omega) (by omega) | exact check_1a (⟨by omega, by omega, fun i hi => hq1 i (by omega), fun i hi => hq2 i (by omega)⟩ : ShortB b) (by assumption) | exact check_1b (k := k2) (⟨by omega, by omega, fun i hi => hq1 i (by omega), fun i hi => hq2 i (by omega)⟩ : ShortB b) (by omega) (by assumption) | exact check_1c (k := k3) (⟨by omega, by omega, fun i hi => hq1 i (by omega), fun i hi => hq2 i (by omega)⟩ : ShortB b) (by omega) (mac_n1 (by assumption)) | exact check_1c (k := k3) (⟨by omega, by omega, fun i hi => hq1 i (by omega), fun i hi => hq2 i (by omega)⟩ : ShortB b) (by omega) (mac_n2 (k := k4) (by omega) (blk_n (by first | exact .inl (by assumption) | exact .inr (by assumption)))) | exact check_0 (⟨by omega, by omega, fun i hi => hq1 i (by omega), fun i hi => hq2 i (by omega)⟩ : ShortB b) (by assumption) (fun i hi => hq3 i (by omega)) (fun i hi => hq4 i (by omega)))), hS180.ext⟩
      ·skip
       rw [decide_eq_false hb166] at hA165
       refine c_false hA165 rfl ?_
       refine c_exit ?_
       refine then_exit ?_
       refine then_exit ?_
       refine blk_hit ?_
       refine then_n ?_
       refine c_seq ?_
       refine c_seq ?_
       have hA193 := hA165.as [(1, (bptr b4 0))] rfl; clear hA165
       refine c_region ?_
       refine st hA193 (op_assign rfl (evc _ _)) rfl rfl (by decide) fun a194 hA195 => ?_; clear hA193 a164
       refine wl_nil ?_
       refine then_n ?_
       refine c_block ?_
       have hA196 := hA195.as [(6, (Value.int .i64 0)), (1, (bptr b4 0))] rfl; clear hA195
       refine c_loop (G := Nat) (fun (k3 : Nat) a_ w_ => Fr 113 [] [(6, (Value.int .i64 (k3 : Int))), (1, (bptr b4 0))] a_ ∧ Sep NoB w w_ [(blk b4 25 [(Value.int .i64 b.scales), vt, vm]), (tabsR false vt lr lb b.tabs), (macsR false vm lk b.macs)] ∧ (k3 ≤ b.macs.length) ∧ (∀ i, i < k3 → macB b.scales (b.macs.getD i mac0) = true)) (fun k3 => b.macs.length - k3) 0 ⟨hA196.as _ rfl, hS155, by omega, (fun _ h => absurd h (Nat.not_lt_zero _))⟩ ?_
       clear hA196 hS155 a194
       rintro k3 a197 w199 ⟨hA198, hS200, hkk3, hq4⟩
       have hkl3 := hth.kl k3; have hsc_ := inB_iff.1 (show inB b.scales 1 4 = true by assumption)
       refine c_seq ?_
       refine c_seq ?_
       refine c_region ?_
       refine st hA198 (op_move rfl (hA198.ev rfl)) rfl rfl (by decide) fun a201 hA202 => ?_; clear hA198 a197
       refine st hA202 (op_field rfl fd_25_2 (hA202.ev rfl)) rfl rfl (by decide) fun a203 hA204 => ?_; clear hA202 a201
       refine st hA204 (op_load1 rfl ty_23 (hA204.ev rfl) (hS200.bk 0 rfl) rfl) rfl rfl (by decide) fun a205 hA206 => ?_; clear hA204 a203
       refine st hA206 (op_lenS rfl un_23 (hA206.ev rfl) (macs_at (hS200.ok 2 _ rfl)).macs) rfl rfl (by decide) fun a207 hA208 => ?_; clear hA206 a205
       refine st hA208 (op_lss rfl (hA208.ev rfl) (hA208.ev rfl)) rfl rfl (by decide) fun a209 hA210 => ?_; clear hA208 a207
       refine wl_nil ?_
       refine then_n ?_
       by_cases hb211 : (k3 : Int) < (b.macs.length : Int)
       ·skip
        rw [decide_eq_true hb211] at hA210
        refine c_true hA210 rfl ?_
        refine c_skip ?_
        refine then_n ?_
        refine c_seq ?_
        refine c_block ?_
        refine c_seq ?_
        refine c_region ?_
        refine st hA210 (op_field rfl fd_25_2 (hA210.ev rfl)) rfl rfl (by decide) fun a212 hA213 => ?_; clear hA210 a209
        refine st hA213 (op_load1 rfl ty_23 (hA213.ev rfl) (hS200.bk 0 rfl) rfl) rfl rfl (by decide) fun a214 hA215 => ?_; clear hA213 a212
        refine st hA215 (op_move rfl (hA215.ev rfl)) rfl rfl (by decide) fun a216 hA217 => ?_; clear hA215 a214
        refine st hA217 (op_indexS rfl un_23 ty_61 (hA217.ev rfl) (i := k3) (hA217.ev rfl) (macs_at (hS200.ok 2 _ rfl)).macs (by decide) (by omega)) rfl rfl (by decide) fun a218 hA219 => ?_; clear hA217 a216
        refine st hA219 (op_loadAE rfl ty_61 (hA219.ev rfl) (macs_at (hS200.ok 2 _ rfl)).macs (macs_all (by omega)) rfl (by decide)) rfl rfl (by decide) fun a220 hA221 => ?_; clear hA219 a218
        refine stw hA221 (op_alloc hS200 rfl ze_61 (cs := [(Value.int .i64 0), (Value.slice none 0 0)]) rfl) rfl rfl (by decide) ?_
        rintro a222 _ w224 ⟨b225, rfl, hS226⟩ hA223; clear hA221 hS200 a220
        refine sts hA223 (op_store hS226 rfl ty_61 (hA223.ev rfl) (hA223.ev rfl) (i := 0) rfl (vs := [(Value.int .i64 ((b.macs.getD k3 mac0).scale)), (lk k3)]) rfl rfl (all_c rfl (all_c (SlAt.one ((macs_at (hS226.ok 3 _ rfl)).blk (i := k3) (by omega))) all_n)) (Nat.le_of_ble_eq_true rfl)) rfl rfl ?_
        intro _ w227 hS228 hA229; clear hA223
        have hS230 : Sep NoB w w227 [(blk b225 61 [(Value.int .i64 ((b.macs.getD k3 mac0).scale)), (lk k3)]), (blk b4 25 [(Value.int .i64 b.scales), vt, vm]), (tabsR false vt lr lb b.tabs), (macsR false vm lk b.macs)] := hS228; clear hS228 hS226
        refine wl_nil ?_
        refine then_n ?_
        refine c_seq ?_
        refine c_seq ?_
        have hA231 := hA229.as [(7, (bptr b225 0)), (6, (Value.int .i64 (k3 : Int))), (1, (bptr b4 0))] rfl; clear hA229
        refine c_region ?_
        refine st hA231 (op_field rfl fd_61_0 (hA231.ev rfl)) rfl rfl (by decide) fun a232 hA233 => ?_; clear hA231 a222
        refine st hA233 (op_load1 rfl ty_3 (hA233.ev rfl) (hS230.bk 0 rfl) rfl) rfl rfl (by decide) fun a234 hA235 => ?_; clear hA233 a232
        refine st hA235 (op_field rfl fd_25_0 (hA235.ev rfl)) rfl rfl (by decide) fun a236 hA237 => ?_; clear hA235 a234
        refine st hA237 (op_load1 rfl ty_3 (hA237.ev rfl) (hS230.bk 1 rfl) rfl) rfl rfl (by decide) fun a238 hA239 => ?_; clear hA237 a236
        refine st hA239 (op_sub rfl (hA239.ev rfl) (evc _ _) (by omega) (by omega)) rfl rfl (by decide) fun a240 hA241 => ?_; clear hA239 a238
        refine stw hA241 (op_call rfl en_22 (ev3 (hA241.ev rfl) (evc _ _) (hA241.ev rfl)) (In_ok _ _ _ _)) rfl rfl (by decide) ?_
        rintro a242 _ W_ ⟨rfl, hW_⟩ hA243; have hW2_ := hW_.symm; subst hW2_; clear hW_ hA241 a240
        refine st hA243 (op_not rfl (hA243.ev rfl)) rfl rfl (by decide) fun a245 hA246 => ?_; clear hA243 a242
        refine wl_nil ?_
        refine then_n ?_
        rcases Bool.eq_false_or_eq_true ((inB ((b.macs.getD k3 mac0).scale) 0 (b.scales - 1))) with hb247 | hb247
        ·skip
         rw [hb247] at hA246
         refine c_false hA246 rfl ?_
         refine c_skip ?_
         refine then_n ?_
         refine c_seq ?_
         have hA248 := hA246.as [(7, (bptr b225 0)), (6, (Value.int .i64 (k3 : Int))), (1, (bptr b4 0))] rfl; clear hA246
         refine c_region ?_
         refine st hA248 (op_assign rfl (evc _ _)) rfl rfl (by decide) fun a249 hA250 => ?_; clear hA248 a245
         refine wl_nil ?_
         refine then_n ?_
         refine c_block ?_
         have hA251 := hA250.as [(8, (Value.int .i64 0)), (7, (bptr b225 0)), (6, (Value.int .i64 (k3 : Int))), (1, (bptr b4 0))] rfl; clear hA250
         refine c_loop (G := Nat) (fun (k4 : Nat) a_ w_ => Fr 113 [] [(8, (Value.int .i64 (k4 : Int))), (7, (bptr b225 0)), (6, (Value.int .i64 (k3 : Int))), (1, (bptr b4 0))] a_ ∧ Sep NoB w w_ [(blk b225 61 [(Value.int .i64 ((b.macs.getD k3 mac0).scale)), (lk k3)]), (blk b4 25 [(Value.int .i64 b.scales), vt, vm]), (tabsR false vt lr lb b.tabs), (macsR false vm lk b.macs)] ∧ (k4 ≤ (b.macs.getD k3 mac0).blocks.length) ∧ (∀ i, i < k4 → blkB ((b.macs.getD k3 mac0).blocks.getD i (0, 0, 0)) = true)) (fun k4 => (b.macs.getD k3 mac0).blocks.length - k4) 0 ⟨hA251.as _ rfl, hS230, by omega, (fun _ h => absurd h (Nat.not_lt_zero _))⟩ ?_
         clear hA251 hS230 a249
         rintro k4 a252 w254 ⟨hA253, hS255, hkk4, hq5⟩
         refine c_seq ?_
         refine c_seq ?_
         refine c_region ?_
         refine st hA253 (op_move rfl (hA253.ev rfl)) rfl rfl (by decide) fun a256 hA257 => ?_; clear hA253 a252
         refine st hA257 (op_field rfl fd_61_1 (hA257.ev rfl)) rfl rfl (by decide) fun a258 hA259 => ?_; clear hA257 a256
         refine st hA259 (op_load1 rfl ty_59 (hA259.ev rfl) (hS255.bk 0 rfl) rfl) rfl rfl (by decide) fun a260 hA261 => ?_; clear hA259 a258
         refine st hA261 (op_lenS rfl un_59 (hA261.ev rfl) ((macs_at (hS255.ok 3 _ rfl)).blk (i := k3) (by omega))) rfl rfl (by decide) fun a262 hA263 => ?_; clear hA261 a260
         refine st hA263 (op_lss rfl (hA263.ev rfl) (hA263.ev rfl)) rfl rfl (by decide) fun a264 hA265 => ?_; clear hA263 a262
         refine wl_nil ?_
         refine then_n ?_
         by_cases hb266 : (k4 : Int) < ((b.macs.getD k3 mac0).blocks.length : Int)
         ·skip
          rw [decide_eq_true hb266] at hA265
          refine c_true hA265 rfl ?_
          refine c_skip ?_
          refine then_n ?_
          refine c_seq ?_
          refine c_block ?_
          refine c_seq ?_
          refine c_region ?_
          refine st hA265 (op_field rfl fd_61_1 (hA265.ev rfl)) rfl rfl (by decide) fun a267 hA268 => ?_; clear hA265 a264
          refine st hA268 (op_load1 rfl ty_59 (hA268.ev rfl) (hS255.bk 0 rfl) rfl) rfl rfl (by decide) fun a269 hA270 => ?_; clear hA268 a267
          refine st hA270 (op_move rfl (hA270.ev rfl)) rfl rfl (by decide) fun a271 hA272 => ?_; clear hA270 a269
          refine st hA272 (op_indexS rfl un_59 ty_63 (hA272.ev rfl) (i := k4) (hA272.ev rfl) ((macs_at (hS255.ok 3 _ rfl)).blk (i := k3) (by omega)) (by decide) (by omega)) rfl rfl (by decide) fun a273 hA274 => ?_; clear hA272 a271
          refine st hA274 (op_fieldS rfl fd_63_0 (hA274.ev rfl) ((macs_at (hS255.ok 3 _ rfl)).blk (i := k3) (by omega)) (by rw [(((macs_at (hS255.ok 3 _ rfl)).blk (i := k3) (by omega))).1]; omega)) rfl rfl (by decide) fun a275 hA276 => ?_; clear hA274 a273
          refine st hA276 (op_loadAE rfl ty_27 (hA276.ev rfl) ((macs_at (hS255.ok 3 _ rfl)).blk (i := k3) (by omega)) (trips_sub0 (by omega)) rfl (by decide)) rfl rfl (by decide) fun a277 hA278 => ?_; clear hA276 a275
          refine stw hA278 (op_call rfl en_52 (ev1 (hA278.ev rfl)) (span_ok _ _ _)) rfl rfl (by decide) ?_
          rintro a279 _ w281 ⟨rfl, hE282⟩ hA280; have hS283 := hS255.step hE282; clear hE282 hA278 hS255 a277
          refine st hA280 (op_not rfl (hA280.ev rfl)) rfl rfl (by decide) fun a284 hA285 => ?_; clear hA280 a279
          refine st hA285 (op_move rfl (hA285.ev rfl)) rfl rfl (by decide) fun a286 hA287 => ?_; clear hA285 a284
          rcases Bool.eq_false_or_eq_true ((spanB ((((b.macs.getD k3 mac0).blocks).getD k4 (0, 0, 0)).1, (((b.macs.getD k3 mac0).blocks).getD k4 (0, 0, 0)).2.1))) with hb288 | hb288
          ·skip
           rw [hb288] at hA287
           refine stg hA287 (op_field rfl fd_61_1 (hA287.ev rfl)) rfl rfl rfl rfl (by decide) fun a289 hA290 => ?_; clear hA287 a286
           refine stg hA290 (op_load1 rfl ty_59 (hA290.ev rfl) (hS283.bk 0 rfl) rfl) rfl rfl rfl rfl (by decide) fun a291 hA292 => ?_; clear hA290 a289
           refine stg hA292 (op_move rfl (hA292.ev rfl)) rfl rfl rfl rfl (by decide) fun a293 hA294 => ?_; clear hA292 a291
           refine stg hA294 (op_indexS rfl un_59 ty_63 (hA294.ev rfl) (i := k4) (hA294.ev rfl) ((macs_at (hS283.ok 3 _ rfl)).blk (i := k3) (by omega)) (by decide) (by omega)) rfl rfl rfl rfl (by decide) fun a295 hA296 => ?_; clear hA294 a293
           refine stg hA296 (op_fieldS rfl fd_63_1 (hA296.ev rfl) ((macs_at (hS283.ok 3 _ rfl)).blk (i := k3) (by omega)) (by rw [(((macs_at (hS283.ok 3 _ rfl)).blk (i := k3) (by omega))).1]; omega)) rfl rfl rfl rfl (by decide) fun a297 hA298 => ?_; clear hA296 a295
           refine stg hA298 (op_load1E rfl ty_3 (hA298.ev rfl) ((macs_at (hS283.ok 3 _ rfl)).blk (i := k3) (by omega)) (trips_at2 (by omega))) rfl rfl rfl rfl (by decide) fun a299 hA300 => ?_; clear hA298 a297
           refine stwg hA300 (op_call rfl en_53 (ev1 (hA300.ev rfl)) (rvalue_ok _ _)) rfl rfl rfl rfl (by decide) ?_
           rintro a301 _ w303 ⟨rfl, hE304⟩ hA302; have hS305 := hS283.step hE304; clear hE304 hA300 hS283 a299
           refine stg hA302 (op_not rfl (hA302.ev rfl)) rfl rfl rfl rfl (by decide) fun a306 hA307 => ?_; clear hA302 a301
           refine st hA307 (op_pick_f rfl (hA307.ev rfl) (hA307.ev rfl)) rfl rfl (by decide) fun a308 hA309 => ?_; clear hA307 a306
           refine wl_nil ?_
           refine then_n ?_
           rcases Bool.eq_false_or_eq_true ((inB ((((b.macs.getD k3 mac0).blocks).getD k4 (0, 0, 0)).2.2) 0 100000)) with hb310 | hb310
           ·skip
            rw [hb310] at hA309
            refine c_false hA309 rfl ?_
            refine c_skip ?_
            refine blk_n ?_
            refine then_n ?_
            have hA311 := hA309.as [(8, (Value.int .i64 (k4 : Int))), (7, (bptr b225 0)), (6, (Value.int .i64 (k3 : Int))), (1, (bptr b4 0))] rfl; clear hA309
            refine c_region ?_
            refine st hA311 (op_move rfl (hA311.ev rfl)) rfl rfl (by decide) fun a312 hA313 => ?_; clear hA311 a308
            refine st hA313 (op_add rfl (hA313.ev rfl) (evc _ _) (by omega) (by omega)) rfl rfl (by decide) fun a314 hA315 => ?_; clear hA313 a312
            refine st hA315 (op_assign rfl (hA315.ev rfl)) rfl rfl (by decide) fun a316 hA317 => ?_; clear hA315 a314
            refine wl_nil ?_
            exact then_n ⟨k4 + 1, ⟨hA317.as _ rfl, hS305, by omega, (fun i hi => by rcases Nat.lt_succ_iff_lt_or_eq.1 hi with h | h; exact hq5 i h; subst h; exact blk_y (by assumption) (by assumption))⟩, by omega⟩
           ·skip
            rw [hb310] at hA309
            refine c_true hA309 rfl ?_
            refine c_seq ?_
            have hA318 := hA309.as [] rfl; clear hA309
            refine c_region ?_
            refine st hA318 (op_assign rfl (evc _ _)) rfl rfl (by decide) fun a319 hA320 => ?_; clear hA318 a308
            refine wl_nil ?_
            refine then_n ?_
            refine c_ret ?_
            refine blk_ret ?_
            refine then_ret ?_
            refine then_ret ?_
            refine blk_ret ?_
            refine blk_ret ?_
            refine then_ret ?_
            refine then_ret ?_
            refine blk_ret ?_
            refine then_ret ?_
            refine fin_run hA320 (.inl rfl) (run_results1 hA320 rfl (.tmp rfl)) ?_
            exact ⟨ret_int (Eq.symm (by first | exact check_3a (by omega) | exact check_3b (k := k) (by omega) (by omega) | exact check_3c (k := k1) (by omega) (by omega) | exact check_1a (⟨by omega, by omega, fun i hi => hq1 i (by omega), fun i hi => hq2 i (by omega)⟩ : ShortB b) (by assumption) | exact check_1b (k := k2) (⟨by omega, by omega, fun i hi => hq1 i (by omega), fun i hi => hq2 i (by omega)⟩ : ShortB b) (by omega) (by assumption) | exact check_1c (k := k3) (⟨by omega, by omega, fun i hi => hq1 i (by omega), fun i hi => hq2 i (by omega)⟩ : ShortB b) (by omega) (mac_n1 (by assumption)) | exact check_1c (k := k3) (⟨by omega, by omega, fun i hi => hq1 i (by omega), fun i hi => hq2 i (by omega)⟩ : ShortB b) (by omega) (mac_n2 (k := k4) (by omega) (blk_n (by first | exact .inl (by assumption) | exact .inr (by assumption)))) | exact check_0 (⟨by omega, by omega, fun i hi => hq1 i (by omega), fun i hi => hq2 i (by omega)⟩ : ShortB b) (by assumption) (fun i hi => hq3 i (by omega)) (fun i hi => hq4 i (by omega)))), hS305.ext⟩
          ·skip
           rw [hb288] at hA287
           refine skp hA287 rfl rfl rfl rfl rfl (by decide) fun a321 hA322 => ?_; clear hA287 a286
           refine skp hA322 rfl rfl rfl rfl rfl (by decide) fun a323 hA324 => ?_; clear hA322 a321
           refine skp hA324 rfl rfl rfl rfl rfl (by decide) fun a325 hA326 => ?_; clear hA324 a323
           refine skp hA326 rfl rfl rfl rfl rfl (by decide) fun a327 hA328 => ?_; clear hA326 a325
           refine skp hA328 rfl rfl rfl rfl rfl (by decide) fun a329 hA330 => ?_; clear hA328 a327
           refine skp hA330 rfl rfl rfl rfl rfl (by decide) fun a331 hA332 => ?_; clear hA330 a329
           refine skp hA332 rfl rfl rfl rfl rfl (by decide) fun a333 hA334 => ?_; clear hA332 a331
           refine skp hA334 rfl rfl rfl rfl rfl (by decide) fun a335 hA336 => ?_; clear hA334 a333
           refine st hA336 (op_pick_t rfl (hA336.ev rfl) (evc _ _)) rfl rfl (by decide) fun a337 hA338 => ?_; clear hA336 a335
           refine wl_nil ?_
           refine then_n ?_
           refine c_true hA338 rfl ?_
           refine c_seq ?_
           have hA339 := hA338.as [] rfl; clear hA338
           refine c_region ?_
           refine st hA339 (op_assign rfl (evc _ _)) rfl rfl (by decide) fun a340 hA341 => ?_; clear hA339 a337
           refine wl_nil ?_
           refine then_n ?_
           refine c_ret ?_
           refine blk_ret ?_
           refine then_ret ?_
           refine then_ret ?_
           refine blk_ret ?_
           refine blk_ret ?_
           refine then_ret ?_
           refine then_ret ?_
           refine blk_ret ?_
           refine then_ret ?_
           refine fin_run hA341 (.inl rfl) (run_results1 hA341 rfl (.tmp rfl)) ?_
           exact ⟨ret_int (Eq.symm (by first | exact check_3a (by omega) | exact check_3b (k := k) (by omega) (by omega) | exact check_3c (k := k1) (by omega) (by omega) | exact check_1a (⟨by omega, by omega, fun i hi => hq1 i (by omega), fun i hi => hq2 i (by omega)⟩ : ShortB b) (by assumption) | exact check_1b (k := k2) (⟨by omega, by omega, fun i hi => hq1 i (by omega), fun i hi => hq2 i (by omega)⟩ : ShortB b) (by omega) (by assumption) | exact check_1c (k := k3) (⟨by omega, by omega, fun i hi => hq1 i (by omega), fun i hi => hq2 i (by omega)⟩ : ShortB b) (by omega) (mac_n1 (by assumption)) | exact check_1c (k := k3) (⟨by omega, by omega, fun i hi => hq1 i (by omega), fun i hi => hq2 i (by omega)⟩ : ShortB b) (by omega) (mac_n2 (k := k4) (by omega) (blk_n (by first | exact .inl (by assumption) | exact .inr (by assumption)))) | exact check_0 (⟨by omega, by omega, fun i hi => hq1 i (by omega), fun i hi => hq2 i (by omega)⟩ : ShortB b) (by assumption) (fun i hi => hq3 i (by omega)) (fun i hi => hq4 i (by omega)))), hS283.ext⟩
         ·skip
          rw [decide_eq_false hb266] at hA265
          refine c_false hA265 rfl ?_
          refine c_exit ?_
          refine then_exit ?_
          refine then_exit ?_
          refine blk_hit ?_
          refine blk_n ?_
          refine then_n ?_
          have hA342 := hA265.as [(6, (Value.int .i64 (k3 : Int))), (1, (bptr b4 0))] rfl; clear hA265
          refine c_region ?_
          refine st hA342 (op_move rfl (hA342.ev rfl)) rfl rfl (by decide) fun a343 hA344 => ?_; clear hA342 a264
          refine st hA344 (op_add rfl (hA344.ev rfl) (evc _ _) (by omega) (by omega)) rfl rfl (by decide) fun a345 hA346 => ?_; clear hA344 a343
          refine st hA346 (op_assign rfl (hA346.ev rfl)) rfl rfl (by decide) fun a347 hA348 => ?_; clear hA346 a345
          refine wl_nil ?_
          have hS349 : Sep NoB w w254 [(blk b4 25 [(Value.int .i64 b.scales), vt, vm]), (tabsR false vt lr lb b.tabs), (macsR false vm lk b.macs)] := hS255.keep [1, 2, 3] (by decide) _ rfl rfl; clear hS255
          exact then_n ⟨k3 + 1, ⟨hA348.as _ rfl, hS349, by omega, (fun i hi => by rcases Nat.lt_succ_iff_lt_or_eq.1 hi with h | h; exact hq4 i h; subst h; exact mac_y (by assumption) (fun j hj => hq5 j (by omega)))⟩, by omega⟩
        ·skip
         rw [hb247] at hA246
         refine c_true hA246 rfl ?_
         refine c_seq ?_
         have hA350 := hA246.as [] rfl; clear hA246
         refine c_region ?_
         refine st hA350 (op_assign rfl (evc _ _)) rfl rfl (by decide) fun a351 hA352 => ?_; clear hA350 a245
         refine wl_nil ?_
         refine then_n ?_
         refine c_ret ?_
         refine then_ret ?_
         refine blk_ret ?_
         refine then_ret ?_
         refine then_ret ?_
         refine blk_ret ?_
         refine then_ret ?_
         refine fin_run hA352 (.inl rfl) (run_results1 hA352 rfl (.tmp rfl)) ?_
         exact ⟨ret_int (Eq.symm (by first | exact check_3a (by omega) | exact check_3b (k := k) (by omega) (by omega) | exact check_3c (k := k1) (by omega) (by omega) | exact check_1a (⟨by omega, by omega, fun i hi => hq1 i (by omega), fun i hi => hq2 i (by omega)⟩ : ShortB b) (by assumption) | exact check_1b (k := k2) (⟨by omega, by omega, fun i hi => hq1 i (by omega), fun i hi => hq2 i (by omega)⟩ : ShortB b) (by omega) (by assumption) | exact check_1c (k := k3) (⟨by omega, by omega, fun i hi => hq1 i (by omega), fun i hi => hq2 i (by omega)⟩ : ShortB b) (by omega) (mac_n1 (by assumption)) | exact check_1c (k := k3) (⟨by omega, by omega, fun i hi => hq1 i (by omega), fun i hi => hq2 i (by omega)⟩ : ShortB b) (by omega) (mac_n2 (k := k4) (by omega) (blk_n (by first | exact .inl (by assumption) | exact .inr (by assumption)))) | exact check_0 (⟨by omega, by omega, fun i hi => hq1 i (by omega), fun i hi => hq2 i (by omega)⟩ : ShortB b) (by assumption) (fun i hi => hq3 i (by omega)) (fun i hi => hq4 i (by omega)))), hS230.ext⟩
       ·skip
        rw [decide_eq_false hb211] at hA210
        refine c_false hA210 rfl ?_
        refine c_exit ?_
        refine then_exit ?_
        refine then_exit ?_
        refine blk_hit ?_
        refine then_n ?_
        refine c_seq ?_
        have hA353 := hA210.as [] rfl; clear hA210
        refine c_region ?_
        refine st hA353 (op_assign rfl (evc _ _)) rfl rfl (by decide) fun a354 hA355 => ?_; clear hA353 a209
        refine wl_nil ?_
        refine then_n ?_
        refine c_ret ?_
        refine fin_run hA355 (.inl rfl) (run_results1 hA355 rfl (.tmp rfl)) ?_
        exact ⟨ret_int (Eq.symm (by first | exact check_3a (by omega) | exact check_3b (k := k) (by omega) (by omega) | exact check_3c (k := k1) (by omega) (by omega) | exact check_1a (⟨by omega, by omega, fun i hi => hq1 i (by omega), fun i hi => hq2 i (by omega)⟩ : ShortB b) (by assumption) | exact check_1b (k := k2) (⟨by omega, by omega, fun i hi => hq1 i (by omega), fun i hi => hq2 i (by omega)⟩ : ShortB b) (by omega) (by assumption) | exact check_1c (k := k3) (⟨by omega, by omega, fun i hi => hq1 i (by omega), fun i hi => hq2 i (by omega)⟩ : ShortB b) (by omega) (mac_n1 (by assumption)) | exact check_1c (k := k3) (⟨by omega, by omega, fun i hi => hq1 i (by omega), fun i hi => hq2 i (by omega)⟩ : ShortB b) (by omega) (mac_n2 (k := k4) (by omega) (blk_n (by first | exact .inl (by assumption) | exact .inr (by assumption)))) | exact check_0 (⟨by omega, by omega, fun i hi => hq1 i (by omega), fun i hi => hq2 i (by omega)⟩ : ShortB b) (by assumption) (fun i hi => hq3 i (by omega)) (fun i hi => hq4 i (by omega)))), hS200.ext⟩
     ·skip
      rw [hb148] at hA147
      refine c_true hA147 rfl ?_
      refine c_seq ?_
      refine c_region ?_
      refine st hA147 (op_assign rfl (evc _ _)) rfl rfl (by decide) fun a356 hA357 => ?_; clear hA147 a146
      refine wl_nil ?_
      refine then_n ?_
      refine c_ret ?_
      refine then_ret ?_
      refine fin_run hA357 (.inl rfl) (run_results1 hA357 rfl (.tmp rfl)) ?_
      exact ⟨ret_int (Eq.symm (by first | exact check_3a (by omega) | exact check_3b (k := k) (by omega) (by omega) | exact check_3c (k := k1) (by omega) (by omega) | exact check_1a (⟨by omega, by omega, fun i hi => hq1 i (by omega), fun i hi => hq2 i (by omega)⟩ : ShortB b) (by assumption) | exact check_1b (k := k2) (⟨by omega, by omega, fun i hi => hq1 i (by omega), fun i hi => hq2 i (by omega)⟩ : ShortB b) (by omega) (by assumption) | exact check_1c (k := k3) (⟨by omega, by omega, fun i hi => hq1 i (by omega), fun i hi => hq2 i (by omega)⟩ : ShortB b) (by omega) (mac_n1 (by assumption)) | exact check_1c (k := k3) (⟨by omega, by omega, fun i hi => hq1 i (by omega), fun i hi => hq2 i (by omega)⟩ : ShortB b) (by omega) (mac_n2 (k := k4) (by omega) (blk_n (by first | exact .inl (by assumption) | exact .inr (by assumption)))) | exact check_0 (⟨by omega, by omega, fun i hi => hq1 i (by omega), fun i hi => hq2 i (by omega)⟩ : ShortB b) (by assumption) (fun i hi => hq3 i (by omega)) (fun i hi => hq4 i (by omega)))), hS99.ext⟩
set_option maxHeartbeats 4000000 in
theorem check_book (b : BookD) (vt vm : Value) (lr lb lk : Nat → Value) (w : World) (hT : TabsAt w vt lr lb b.tabs) (hM : MacsAt w vm lk b.macs) (hth : ThinB b) :
  Calls Try.prog 32 #[(Value.agg #[(Value.int .i64 b.scales), vt, vm])] w (Ret fun v w' => v = .int .i64 (checkF b) ∧ Ext NoB w w') := by
 refine calls_enter Try.func32 rfl fun a0 hA0 => ?_
 replace hA0 : Fr 45 [] [(0, (Value.agg #[(Value.int .i64 b.scales), vt, vm]))] a0 := hA0
 have hS0 : Sep NoB w w [(tabsR false vt lr lb b.tabs), (macsR false vm lk b.macs)] := sep_ro ⟨rfl, hT, rfl, hM, trivial⟩
 refine c_seq ?_
 refine c_region ?_
 refine stw hA0 (op_box hS0 rfl (hA0.ev rfl) (cs := [(Value.int .i64 b.scales), vt, vm]) rfl) rfl rfl (by decide) ?_
 rintro a1 _ w3 ⟨b4, rfl, hS5⟩ hA2; clear hA0 hS0 a0
 refine st hA2 (op_assign rfl (evc _ _)) rfl rfl (by decide) fun a6 hA7 => ?_; clear hA2 a1
 refine wl_nil ?_
 refine then_n ?_
 refine c_seq ?_
 refine c_block ?_
 refine c_seq ?_
 refine c_region ?_
 refine st hA7 (op_field rfl fd_37_1 (hA7.ev rfl)) rfl rfl (by decide) fun a8 hA9 => ?_; clear hA7 a6
 refine st hA9 (op_load1 rfl ty_34 (hA9.ev rfl) (hS5.bk 0 rfl) rfl) rfl rfl (by decide) fun a10 hA11 => ?_; clear hA9 a8
 refine st hA11 (op_lenS rfl un_34 (hA11.ev rfl) (tabs_at (hS5.ok 1 _ rfl)).tabs) rfl rfl (by decide) fun a12 hA13 => ?_; clear hA11 a10
 refine st hA13 (op_gtr rfl (hA13.ev rfl) (evc _ _)) rfl rfl (by decide) fun a14 hA15 => ?_; clear hA13 a12
 refine st hA15 (op_move rfl (hA15.ev rfl)) rfl rfl (by decide) fun a16 hA17 => ?_; clear hA15 a14
 by_cases hb18 : 6 < (b.tabs.length : Int)
 ·skip
  rw [decide_eq_true hb18] at hA17
  refine skp hA17 rfl rfl rfl rfl rfl (by decide) fun a19 hA20 => ?_; clear hA17 a16
  refine skp hA20 rfl rfl rfl rfl rfl (by decide) fun a21 hA22 => ?_; clear hA20 a19
  refine skp hA22 rfl rfl rfl rfl rfl (by decide) fun a23 hA24 => ?_; clear hA22 a21
  refine skp hA24 rfl rfl rfl rfl rfl (by decide) fun a25 hA26 => ?_; clear hA24 a23
  refine st hA26 (op_pick_t rfl (hA26.ev rfl) (evc _ _)) rfl rfl (by decide) fun a27 hA28 => ?_; clear hA26 a25
  refine st hA28 (op_assign rfl (hA28.ev rfl)) rfl rfl (by decide) fun a29 hA30 => ?_; clear hA28 a27
  refine wl_nil ?_
  refine then_n ?_
  refine c_true hA30 rfl ?_
  refine c_seq ?_
  have hA31 := hA30.as [] rfl; clear hA30
  refine c_region ?_
  refine st hA31 (op_assign rfl (evc _ _)) rfl rfl (by decide) fun a32 hA33 => ?_; clear hA31 a29
  refine wl_nil ?_
  refine then_n ?_
  refine c_ret ?_
  refine blk_ret ?_
  refine then_ret ?_
  refine fin_run hA33 (.inl rfl) (run_results1 hA33 rfl (.tmp rfl)) ?_
  exact ⟨ret_int (Eq.symm (by first | exact check_3a (by omega) | exact check_3b' (by assumption) | exact check_3c' (by assumption))), hS5.ext⟩
 ·skip
  rw [decide_eq_false hb18] at hA17
  refine stg hA17 (op_field rfl fd_37_2 (hA17.ev rfl)) rfl rfl rfl rfl (by decide) fun a34 hA35 => ?_; clear hA17 a16
  refine stg hA35 (op_load1 rfl ty_35 (hA35.ev rfl) (hS5.bk 0 rfl) rfl) rfl rfl rfl rfl (by decide) fun a36 hA37 => ?_; clear hA35 a34
  refine stg hA37 (op_lenS rfl un_35 (hA37.ev rfl) (macs_at (hS5.ok 2 _ rfl)).macs) rfl rfl rfl rfl (by decide) fun a38 hA39 => ?_; clear hA37 a36
  refine stg hA39 (op_gtr rfl (hA39.ev rfl) (evc _ _)) rfl rfl rfl rfl (by decide) fun a40 hA41 => ?_; clear hA39 a38
  refine st hA41 (op_pick_f rfl (hA41.ev rfl) (hA41.ev rfl)) rfl rfl (by decide) fun a42 hA43 => ?_; clear hA41 a40
  refine st hA43 (op_assign rfl (hA43.ev rfl)) rfl rfl (by decide) fun a44 hA45 => ?_; clear hA43 a42
  refine wl_nil ?_
  refine then_n ?_
  by_cases hb46 : 6 < (b.macs.length : Int)
  ·skip
   rw [decide_eq_true hb46] at hA45
   refine c_true hA45 rfl ?_
   refine c_seq ?_
   have hA47 := hA45.as [] rfl; clear hA45
   refine c_region ?_
   refine st hA47 (op_assign rfl (evc _ _)) rfl rfl (by decide) fun a48 hA49 => ?_; clear hA47 a44
   refine wl_nil ?_
   refine then_n ?_
   refine c_ret ?_
   refine blk_ret ?_
   refine then_ret ?_
   refine fin_run hA49 (.inl rfl) (run_results1 hA49 rfl (.tmp rfl)) ?_
   exact ⟨ret_int (Eq.symm (by first | exact check_3a (by omega) | exact check_3b' (by assumption) | exact check_3c' (by assumption))), hS5.ext⟩
  ·skip
   rw [decide_eq_false hb46] at hA45
   refine c_false hA45 rfl ?_
   refine c_seq ?_
   have hA50 := hA45.as [(1, (bptr b4 0))] rfl; clear hA45
   refine c_region ?_
   refine st hA50 (op_field rfl fd_37_1 (hA50.ev rfl)) rfl rfl (by decide) fun a51 hA52 => ?_; clear hA50 a44
   refine st hA52 (op_load1 rfl ty_34 (hA52.ev rfl) (hS5.bk 0 rfl) rfl) rfl rfl (by decide) fun a53 hA54 => ?_; clear hA52 a51
   refine stw hA54 (op_call rfl en_61 (ev2 (hA54.ev rfl) (evf _ _)) (all_tab b.tabs lr lb _ 62 #[] #[] (fun i => decide (((b.tabs.getD i tab0).rows.length : Int) ≤ 8)) _ (tabs_at (hS5.ok 1 _ rfl)).tabs (by have := hth.tl; omega) ⟨en_62, fun i hi W hW => tshort_ok (b.tabs.getD i tab0) _ _ W ((tabs_at ((hS5.step hW).ok 1 _ rfl)).row hi) ((tabs_at ((hS5.step hW).ok 1 _ rfl)).brk hi) (hth.rl i) (hth.bl i)⟩ (fun i hi => ⟨((tabs_at (hS5.ok 1 _ rfl)).row hi).one, ((tabs_at (hS5.ok 1 _ rfl)).brk hi).one⟩))) rfl rfl (by decide) ?_
   rintro a55 _ w57 ⟨rfl, hE58⟩ hA56; have hS59 := hS5.step hE58; clear hE58 hA54 hS5 a53
   refine st hA56 (op_not rfl (hA56.ev rfl)) rfl rfl (by decide) fun a60 hA61 => ?_; clear hA56 a55
   refine st hA61 (op_assign rfl (hA61.ev rfl)) rfl rfl (by decide) fun a62 hA63 => ?_; clear hA61 a60
   refine wl_nil ?_
   refine then_n ?_
   rcases Bool.eq_false_or_eq_true (((List.range b.tabs.length).all (fun i => decide (((b.tabs.getD i tab0).rows.length : Int) ≤ 8)))) with hb64 | hb64
   ·skip
    rw [hb64] at hA63
    refine c_false hA63 rfl ?_
    refine c_seq ?_
    refine c_region ?_
    refine st hA63 (op_field rfl fd_37_2 (hA63.ev rfl)) rfl rfl (by decide) fun a65 hA66 => ?_; clear hA63 a62
    refine st hA66 (op_load1 rfl ty_35 (hA66.ev rfl) (hS59.bk 0 rfl) rfl) rfl rfl (by decide) fun a67 hA68 => ?_; clear hA66 a65
    refine stw hA68 (op_call rfl en_63 (ev2 (hA68.ev rfl) (evf _ _)) (all_mac b.macs lk _ 64 #[] #[] (fun i => decide (((b.macs.getD i mac0).blocks.length : Int) ≤ 5)) _ (macs_at (hS59.ok 2 _ rfl)).macs (by have := hth.ml; omega) ⟨en_64, fun i hi W hW => mshort_ok (b.macs.getD i mac0) _ W ((macs_at ((hS59.step hW).ok 2 _ rfl)).blk hi)⟩ (fun i hi => ((macs_at (hS59.ok 2 _ rfl)).blk hi).one))) rfl rfl (by decide) ?_
    rintro a69 _ w71 ⟨rfl, hE72⟩ hA70; have hS73 := hS59.step hE72; clear hE72 hA68 hS59 a67
    refine st hA70 (op_not rfl (hA70.ev rfl)) rfl rfl (by decide) fun a74 hA75 => ?_; clear hA70 a69
    refine st hA75 (op_assign rfl (hA75.ev rfl)) rfl rfl (by decide) fun a76 hA77 => ?_; clear hA75 a74
    refine wl_nil ?_
    refine then_n ?_
    rcases Bool.eq_false_or_eq_true (((List.range b.macs.length).all (fun i => decide (((b.macs.getD i mac0).blocks.length : Int) ≤ 5)))) with hb78 | hb78
    ·skip
     rw [hb78] at hA77
     refine c_false hA77 rfl ?_
     refine c_seq ?_
     have hA79 := hA77.as [(1, (bptr b4 0))] rfl; clear hA77
     refine c_region ?_
     refine st hA79 (op_field rfl fd_37_0 (hA79.ev rfl)) rfl rfl (by decide) fun a80 hA81 => ?_; clear hA79 a76
     refine st hA81 (op_load1 rfl ty_3 (hA81.ev rfl) (hS73.bk 0 rfl) rfl) rfl rfl (by decide) fun a82 hA83 => ?_; clear hA81 a80
     refine stw hA83 (op_call rfl en_47 (ev3 (hA83.ev rfl) (evc _ _) (evc _ _)) (within_ok _ _ _ _)) rfl rfl (by decide) ?_
     rintro a84 _ W_ ⟨rfl, hW_⟩ hA85; have hW2_ := hW_.symm; subst hW2_; clear hW_ hA83 a82
     refine st hA85 (op_not rfl (hA85.ev rfl)) rfl rfl (by decide) fun a87 hA88 => ?_; clear hA85 a84
     refine st hA88 (op_move rfl (hA88.ev rfl)) rfl rfl (by decide) fun a89 hA90 => ?_; clear hA88 a87
     rcases Bool.eq_false_or_eq_true ((inB b.scales 1 4)) with hb91 | hb91
     ·skip
      rw [hb91] at hA90
      refine stg hA90 (op_field rfl fd_37_1 (hA90.ev rfl)) rfl rfl rfl rfl (by decide) fun a92 hA93 => ?_; clear hA90 a89
      refine stg hA93 (op_load1 rfl ty_34 (hA93.ev rfl) (hS73.bk 0 rfl) rfl) rfl rfl rfl rfl (by decide) fun a94 hA95 => ?_; clear hA93 a92
      refine stg hA95 (op_loadA rfl ty_37 (hA95.ev rfl) (hS73.bk 0 rfl) (l := [(Value.int .i64 b.scales), vt, vm]) rfl rfl) rfl rfl rfl rfl (by decide) fun a96 hA97 => ?_; clear hA95 a94
      refine stg hA97 (op_makeFunc rfl (ev1 (hA97.ev rfl)) ev0) rfl rfl rfl rfl (by decide) fun a98 hA99 => ?_; clear hA97 a96
      refine stwg hA99 (op_call rfl en_61 (ev2 (hA99.ev rfl) (hA99.ev rfl)) (all_tab b.tabs lr lb _ 65 #[(Value.agg #[(Value.int .i64 b.scales), vt, vm])] #[] (fun i => tabB b.scales (b.tabs.getD i tab0)) _ (tabs_at (hS73.ok 1 _ rfl)).tabs (by have := hth.tl; omega) ⟨en_65, fun i hi W hW => table_ok b.scales vt vm (tabs_at (hS73.ok 1 _ rfl)).tabs.one (macs_at (hS73.ok 2 _ rfl)).macs.one (inB_iff.1 (by assumption)) (b.tabs.getD i tab0) _ _ W ((tabs_at ((hS73.step hW).ok 1 _ rfl)).row hi) ((tabs_at ((hS73.step hW).ok 1 _ rfl)).brk hi) (hth.rl i) (hth.bl i)⟩ (fun i hi => ⟨((tabs_at (hS73.ok 1 _ rfl)).row hi).one, ((tabs_at (hS73.ok 1 _ rfl)).brk hi).one⟩))) rfl rfl rfl rfl (by decide) ?_
      rintro a100 _ w102 ⟨rfl, hE103⟩ hA101; have hS104 := hS73.step hE103; clear hE103 hA99 hS73 a98
      refine stg hA101 (op_not rfl (hA101.ev rfl)) rfl rfl rfl rfl (by decide) fun a105 hA106 => ?_; clear hA101 a100
      refine st hA106 (op_pick_f rfl (hA106.ev rfl) (hA106.ev rfl)) rfl rfl (by decide) fun a107 hA108 => ?_; clear hA106 a105
      refine st hA108 (op_move rfl (hA108.ev rfl)) rfl rfl (by decide) fun a109 hA110 => ?_; clear hA108 a107
      rcases Bool.eq_false_or_eq_true (((List.range b.tabs.length).all (fun i => tabB b.scales (b.tabs.getD i tab0)))) with hb111 | hb111
      ·skip
       rw [hb111] at hA110
       refine stg hA110 (op_field rfl fd_37_2 (hA110.ev rfl)) rfl rfl rfl rfl (by decide) fun a112 hA113 => ?_; clear hA110 a109
       refine stg hA113 (op_load1 rfl ty_35 (hA113.ev rfl) (hS104.bk 0 rfl) rfl) rfl rfl rfl rfl (by decide) fun a114 hA115 => ?_; clear hA113 a112
       refine stg hA115 (op_loadA rfl ty_37 (hA115.ev rfl) (hS104.bk 0 rfl) (l := [(Value.int .i64 b.scales), vt, vm]) rfl rfl) rfl rfl rfl rfl (by decide) fun a116 hA117 => ?_; clear hA115 a114
       refine stg hA117 (op_makeFunc rfl (ev1 (hA117.ev rfl)) ev0) rfl rfl rfl rfl (by decide) fun a118 hA119 => ?_; clear hA117 a116
       refine stwg hA119 (op_call rfl en_63 (ev2 (hA119.ev rfl) (hA119.ev rfl)) (all_mac b.macs lk _ 66 #[(Value.agg #[(Value.int .i64 b.scales), vt, vm])] #[] (fun i => macB b.scales (b.macs.getD i mac0)) _ (macs_at (hS104.ok 2 _ rfl)).macs (by have := hth.ml; omega) ⟨en_66, fun i hi W hW => machine_ok b.scales vt vm W (tabs_at (hS104.ok 1 _ rfl)).tabs.one (macs_at (hS104.ok 2 _ rfl)).macs.one (inB_iff.1 (by assumption)) (b.macs.getD i mac0) _ ((macs_at ((hS104.step hW).ok 2 _ rfl)).blk hi) (hth.kl i)⟩ (fun i hi => ((macs_at (hS104.ok 2 _ rfl)).blk hi).one))) rfl rfl rfl rfl (by decide) ?_
       rintro a120 _ w122 ⟨rfl, hE123⟩ hA121; have hS124 := hS104.step hE123; clear hE123 hA119 hS104 a118
       refine stg hA121 (op_not rfl (hA121.ev rfl)) rfl rfl rfl rfl (by decide) fun a125 hA126 => ?_; clear hA121 a120
       refine st hA126 (op_pick_f rfl (hA126.ev rfl) (hA126.ev rfl)) rfl rfl (by decide) fun a127 hA128 => ?_; clear hA126 a125
       refine st hA128 (op_assign rfl (hA128.ev rfl)) rfl rfl (by decide) fun a129 hA130 => ?_; clear hA128 a127
       refine wl_nil ?_
       refine then_n ?_
       rcases Bool.eq_false_or_eq_true (((List.range b.macs.length).all (fun i => macB b.scales (b.macs.getD i mac0)))) with hb131 | hb131
       ·skip
        rw [hb131] at hA130
        refine c_false hA130 rfl ?_
        refine c_skip ?_
        refine blk_n ?_
        refine then_n ?_
        refine c_seq ?_
        have hA132 := hA130.as [] rfl; clear hA130
        refine c_region ?_
        refine st hA132 (op_assign rfl (evc _ _)) rfl rfl (by decide) fun a133 hA134 => ?_; clear hA132 a129
        refine wl_nil ?_
        refine then_n ?_
        refine c_ret ?_
        refine fin_run hA134 (.inl rfl) (run_results1 hA134 rfl (.tmp rfl)) ?_
        exact ⟨ret_int (Eq.symm (check_0' (short_of (by omega) (by omega) (by assumption) (by assumption)) (by assumption) (by assumption) (by assumption))), hS124.ext⟩
       ·skip
        rw [hb131] at hA130
        refine c_true hA130 rfl ?_
        refine c_seq ?_
        have hA135 := hA130.as [] rfl; clear hA130
        refine c_region ?_
        refine st hA135 (op_assign rfl (evc _ _)) rfl rfl (by decide) fun a136 hA137 => ?_; clear hA135 a129
        refine wl_nil ?_
        refine then_n ?_
        refine c_ret ?_
        refine blk_ret ?_
        refine then_ret ?_
        refine fin_run hA137 (.inl rfl) (run_results1 hA137 rfl (.tmp rfl)) ?_
        exact ⟨ret_int (Eq.symm (by first | exact check_1a (short_of (by omega) (by omega) (by assumption) (by assumption)) (by assumption) | exact check_1b' (short_of (by omega) (by omega) (by assumption) (by assumption)) (by assumption) | exact check_1c' (short_of (by omega) (by omega) (by assumption) (by assumption)) (by assumption))), hS124.ext⟩
      ·skip
       rw [hb111] at hA110
       refine skp hA110 rfl rfl rfl rfl rfl (by decide) fun a138 hA139 => ?_; clear hA110 a109
       refine skp hA139 rfl rfl rfl rfl rfl (by decide) fun a140 hA141 => ?_; clear hA139 a138
       refine skp hA141 rfl rfl rfl rfl rfl (by decide) fun a142 hA143 => ?_; clear hA141 a140
       refine skp hA143 rfl rfl rfl rfl rfl (by decide) fun a144 hA145 => ?_; clear hA143 a142
       refine skp hA145 rfl rfl rfl rfl rfl (by decide) fun a146 hA147 => ?_; clear hA145 a144
       refine skp hA147 rfl rfl rfl rfl rfl (by decide) fun a148 hA149 => ?_; clear hA147 a146
       refine st hA149 (op_pick_t rfl (hA149.ev rfl) (evc _ _)) rfl rfl (by decide) fun a150 hA151 => ?_; clear hA149 a148
       refine st hA151 (op_assign rfl (hA151.ev rfl)) rfl rfl (by decide) fun a152 hA153 => ?_; clear hA151 a150
       refine wl_nil ?_
       refine then_n ?_
       refine c_true hA153 rfl ?_
       refine c_seq ?_
       have hA154 := hA153.as [] rfl; clear hA153
       refine c_region ?_
       refine st hA154 (op_assign rfl (evc _ _)) rfl rfl (by decide) fun a155 hA156 => ?_; clear hA154 a152
       refine wl_nil ?_
       refine then_n ?_
       refine c_ret ?_
       refine blk_ret ?_
       refine then_ret ?_
       refine fin_run hA156 (.inl rfl) (run_results1 hA156 rfl (.tmp rfl)) ?_
       exact ⟨ret_int (Eq.symm (by first | exact check_1a (short_of (by omega) (by omega) (by assumption) (by assumption)) (by assumption) | exact check_1b' (short_of (by omega) (by omega) (by assumption) (by assumption)) (by assumption) | exact check_1c' (short_of (by omega) (by omega) (by assumption) (by assumption)) (by assumption))), hS104.ext⟩
     ·skip
      rw [hb91] at hA90
      refine skp hA90 rfl rfl rfl rfl rfl (by decide) fun a157 hA158 => ?_; clear hA90 a89
      refine skp hA158 rfl rfl rfl rfl rfl (by decide) fun a159 hA160 => ?_; clear hA158 a157
      refine skp hA160 rfl rfl rfl rfl rfl (by decide) fun a161 hA162 => ?_; clear hA160 a159
      refine skp hA162 rfl rfl rfl rfl rfl (by decide) fun a163 hA164 => ?_; clear hA162 a161
      refine skp hA164 rfl rfl rfl rfl rfl (by decide) fun a165 hA166 => ?_; clear hA164 a163
      refine skp hA166 rfl rfl rfl rfl rfl (by decide) fun a167 hA168 => ?_; clear hA166 a165
      refine st hA168 (op_pick_t rfl (hA168.ev rfl) (evc _ _)) rfl rfl (by decide) fun a169 hA170 => ?_; clear hA168 a167
      refine st hA170 (op_move rfl (hA170.ev rfl)) rfl rfl (by decide) fun a171 hA172 => ?_; clear hA170 a169
      refine skp hA172 rfl rfl rfl rfl rfl (by decide) fun a173 hA174 => ?_; clear hA172 a171
      refine skp hA174 rfl rfl rfl rfl rfl (by decide) fun a175 hA176 => ?_; clear hA174 a173
      refine skp hA176 rfl rfl rfl rfl rfl (by decide) fun a177 hA178 => ?_; clear hA176 a175
      refine skp hA178 rfl rfl rfl rfl rfl (by decide) fun a179 hA180 => ?_; clear hA178 a177
      refine skp hA180 rfl rfl rfl rfl rfl (by decide) fun a181 hA182 => ?_; clear hA180 a179
      refine skp hA182 rfl rfl rfl rfl rfl (by decide) fun a183 hA184 => ?_; clear hA182 a181
      refine st hA184 (op_pick_t rfl (hA184.ev rfl) (evc _ _)) rfl rfl (by decide) fun a185 hA186 => ?_; clear hA184 a183
      refine st hA186 (op_assign rfl (hA186.ev rfl)) rfl rfl (by decide) fun a187 hA188 => ?_; clear hA186 a185
      refine wl_nil ?_
      refine then_n ?_
      refine c_true hA188 rfl ?_
      refine c_seq ?_
      have hA189 := hA188.as [] rfl; clear hA188
      refine c_region ?_
      refine st hA189 (op_assign rfl (evc _ _)) rfl rfl (by decide) fun a190 hA191 => ?_; clear hA189 a187
      refine wl_nil ?_
      refine then_n ?_
      refine c_ret ?_
      refine blk_ret ?_
      refine then_ret ?_
      refine fin_run hA191 (.inl rfl) (run_results1 hA191 rfl (.tmp rfl)) ?_
      exact ⟨ret_int (Eq.symm (by first | exact check_1a (short_of (by omega) (by omega) (by assumption) (by assumption)) (by assumption) | exact check_1b' (short_of (by omega) (by omega) (by assumption) (by assumption)) (by assumption) | exact check_1c' (short_of (by omega) (by omega) (by assumption) (by assumption)) (by assumption))), hS73.ext⟩
    ·skip
     rw [hb78] at hA77
     refine c_true hA77 rfl ?_
     refine c_seq ?_
     have hA192 := hA77.as [] rfl; clear hA77
     refine c_region ?_
     refine st hA192 (op_assign rfl (evc _ _)) rfl rfl (by decide) fun a193 hA194 => ?_; clear hA192 a76
     refine wl_nil ?_
     refine then_n ?_
     refine c_ret ?_
     refine blk_ret ?_
     refine then_ret ?_
     refine fin_run hA194 (.inl rfl) (run_results1 hA194 rfl (.tmp rfl)) ?_
     exact ⟨ret_int (Eq.symm (by first | exact check_3a (by omega) | exact check_3b' (by assumption) | exact check_3c' (by assumption))), hS73.ext⟩
   ·skip
    rw [hb64] at hA63
    refine c_true hA63 rfl ?_
    refine c_seq ?_
    have hA195 := hA63.as [] rfl; clear hA63
    refine c_region ?_
    refine st hA195 (op_assign rfl (evc _ _)) rfl rfl (by decide) fun a196 hA197 => ?_; clear hA195 a62
    refine wl_nil ?_
    refine then_n ?_
    refine c_ret ?_
    refine blk_ret ?_
    refine then_ret ?_
    refine fin_run hA197 (.inl rfl) (run_results1 hA197 rfl (.tmp rfl)) ?_
    exact ⟨ret_int (Eq.symm (by first | exact check_3a (by omega) | exact check_3b' (by assumption) | exact check_3c' (by assumption))), hS59.ext⟩
end Go.Proofs.Ytohgladndklciaa

namespace Go.Hard
section
variable {b : BookD} {l : List (Int × Int)} {k : Nat} {i : Int}
theorem BookV.mac (h : BookV b) (hi : k < b.macs.length) : MacV b.scales (b.macs.getD k mac0) := h.macs _ (by simp only [List.getD, List.getElem?_eq_getElem hi, Option.getD_some]; exact List.getElem_mem hi)
theorem BookV.tab (h : BookV b) (hi : k < b.tabs.length) : TabV b.scales (b.tabs.getD k tab0) := h.tabs _ (by simp only [List.getD, List.getElem?_eq_getElem hi, Option.getD_some]; exact List.getElem_mem hi)
theorem read_3 (h : checkF b = 0) (h2 : 8 < l.length) : readF b l = 3 := by unfold readF; rw [if_neg (not_not_intro h), if_pos h2]
theorem read_2' (h : checkF b = 0) (h2 : ¬ 8 < l.length) (h3 : (List.range l.length).all (fun i => readB b (l.getD i (0, 0))) = false) : readF b l = 2 := by
  unfold readF; rw [if_neg (not_not_intro h), if_neg h2, if_pos (show allI l.length (fun i => readB b (l.getD i (0, 0))) = false from h3)]
theorem read_11' (h : checkF b = 0) (h2 : ¬ 8 < l.length) (h3 : (List.range l.length).all (fun i => readB b (l.getD i (0, 0))) = true) (h4 : (List.range l.length).all (fun i => !offB (b.macs.getD (l.getD i (0, 0)).1.toNat mac0)) = false) : readF b l = 11 := by
  unfold readF; rw [if_neg (not_not_intro h), if_neg h2, if_neg (by rw [show allI l.length (fun i => readB b (l.getD i (0, 0))) = true from h3]; decide), if_pos (show allI l.length (fun i => !offB (b.macs.getD (l.getD i (0, 0)).1.toNat mac0)) = false from h4)]
theorem read_check (h : readF b l = 0) : checkF b = 0 := by
  unfold readF at h
  split at h
  · rename_i h1; exact absurd h h1
  · rename_i h1; exact Decidable.not_not.1 h1
theorem readB_is (h : readB b (l.getD k (0, 0)) = true) : (0 ≤ (l.getD k (0, 0)).1 ∧ (l.getD k (0, 0)).1 ≤ (b.macs.length : Int) - 1) ∧ 0 ≤ (l.getD k (0, 0)).2 ∧ (l.getD k (0, 0)).2 ≤ 100000 := by
  unfold readB at h; rwa [Bool.and_eq_true, inB_iff, inB_iff] at h
end
def biasE (b : BookD) (i : Int) : Int := if checkF b ≠ 0 then checkF b else if inB i 0 ((b.macs.length : Int) - 1) = false then 2 else if offB (b.macs.getD i.toNat mac0) = true then 11 else 0
def biasR (b : BookD) (i : Int) : Rng := if biasE b i = 0 then biasF (b.macs.getD i.toNat mac0) else (0, 0)
theorem biasE_c {b : BookD} {i : Int} (h : checkF b ≠ 0) : biasE b i = checkF b := by unfold biasE; rw [if_pos h]
theorem biasE_2 {b : BookD} {i : Int} (h : checkF b = 0) (h2 : inB i 0 ((b.macs.length : Int) - 1) = false) : biasE b i = 2 := by unfold biasE; rw [if_neg (not_not_intro h), if_pos h2]
theorem biasE_11 {b : BookD} {i : Int} (h : checkF b = 0) (h2 : inB i 0 ((b.macs.length : Int) - 1) = true) (h3 : offB (b.macs.getD i.toNat mac0) = true) : biasE b i = 11 := by unfold biasE; rw [if_neg (not_not_intro h), if_neg (by rw [h2]; decide), if_pos h3]
theorem biasE_0 {b : BookD} {i : Int} (h : checkF b = 0) (h2 : inB i 0 ((b.macs.length : Int) - 1) = true) (h3 : offB (b.macs.getD i.toNat mac0) = false) : biasE b i = 0 := by unfold biasE; rw [if_neg (not_not_intro h), if_neg (by rw [h2]; decide), if_neg (by rw [h3]; decide)]
theorem biasR_n {b : BookD} {i : Int} (h : biasE b i ≠ 0) : biasR b i = (0, 0) := if_neg h
theorem biasR_y {b : BookD} {i : Int} (h : biasE b i = 0) : biasR b i = biasF (b.macs.getD i.toNat mac0) := if_pos h
def offU (b : BookD) : Nat → List Int
  | 0 => []
  | k + 1 => if offB (b.macs.getD k mac0) = true then offU b k ++ [(k : Int)] else offU b k
def offL (b : BookD) : List Int := offU b b.macs.length
theorem offU_len (b : BookD) : ∀ k, (offU b k).length ≤ k
  | 0 => Nat.le_refl _
  | k + 1 => by
    have := offU_len b k
    unfold offU; split
    · rw [List.length_append, List.length_singleton]; omega
    · omega
theorem offU_y {b : BookD} {k : Nat} (h : offB (b.macs.getD k mac0) = true) : offU b (k + 1) = offU b k ++ [(k : Int)] := by rw [offU, if_pos h]
theorem offU_n {b : BookD} {k : Nat} (h : offB (b.macs.getD k mac0) = false) : offU b (k + 1) = offU b k := by rw [offU, if_neg (by rw [h]; decide)]
theorem off_t {m : MacD} (h : (biasF m).2 < (biasF m).1) : offB m = true := decide_eq_true h
theorem off_f {m : MacD} (h : ¬ (biasF m).2 < (biasF m).1) : offB m = false := decide_eq_false h
def convE (b : BookD) (i : Int) (r : Rng) : Int := if checkF b ≠ 0 then checkF b else if inB i 0 ((b.tabs.length : Int) - 1) = false ∨ spanB r = false then 2 else if convB (b.tabs.getD i.toNat tab0) r = false then 10 else 0
def convR (b : BookD) (i : Int) (r : Rng) : Rng := if convE b i r = 0 then convF (b.tabs.getD i.toNat tab0) r else (0, 0)
section
variable {b : BookD} {i : Int} {r : Rng}
theorem convE_c (h : checkF b ≠ 0) : convE b i r = checkF b := by unfold convE; rw [if_pos h]
theorem convE_2 (h : checkF b = 0) (h2 : inB i 0 ((b.tabs.length : Int) - 1) = false ∨ spanB r = false) : convE b i r = 2 := by unfold convE; rw [if_neg (not_not_intro h), if_pos h2]
theorem convE_10 (h : checkF b = 0) (h2 : inB i 0 ((b.tabs.length : Int) - 1) = true) (h3 : spanB r = true) (h4 : convB (b.tabs.getD i.toNat tab0) r = false) : convE b i r = 10 := by unfold convE; rw [if_neg (not_not_intro h), if_neg (by rw [h2, h3]; decide), if_pos h4]
theorem convE_0 (h : checkF b = 0) (h2 : inB i 0 ((b.tabs.length : Int) - 1) = true) (h3 : spanB r = true) (h4 : convB (b.tabs.getD i.toNat tab0) r = true) : convE b i r = 0 := by unfold convE; rw [if_neg (not_not_intro h), if_neg (by rw [h2, h3]; decide), if_neg (by rw [h4]; decide)]
theorem convR_n (h : convE b i r ≠ 0) : convR b i r = (0, 0) := if_neg h
theorem convR_y (h : convE b i r = 0) : convR b i r = convF (b.tabs.getD i.toNat tab0) r := if_pos h
end
end Go.Hard

namespace Go.Proofs.Ytohgladndklciaa
open Go.RowKit Go.Shelf Go.Eng Go.Hard
theorem ty_25 : tyK Try.prog 25 = some (true, 3) := by kernel_rfl
theorem en_21 : ∀ args w, (callFunc 21 args).run Try.prog w = .ok (.enter 21 args) w := enters_of Try.func21 (by kernel_rfl) rfl
theorem en_35 : ∀ args w, (callFunc 35 args).run Try.prog w = .ok (.enter 35 args) w := enters_of Try.func35 (by kernel_rfl) rfl
theorem en_32 : ∀ args w, (callFunc 32 args).run Try.prog w = .ok (.enter 32 args) w := enters_of Try.func32 (by kernel_rfl) rfl
theorem en_67 : ∀ args w, (callFunc 67 args).run Try.prog w = .ok (.enter 67 args) w := enters_of Try.func67 (by kernel_rfl) rfl
theorem en_68 : ∀ args w, (callFunc 68 args).run Try.prog w = .ok (.enter 68 args) w := enters_of Try.func68 (by kernel_rfl) rfl
theorem bd_30_  (w : World) : (Instr.build 30 #[]).run Try.prog w = .ok (.agg #[(Value.int .i64 0), (Value.int .i64 0)]) w := by kernel_rfl
theorem en_49 : ∀ args w, (callFunc 49 args).run Try.prog w = .ok (.enter 49 args) w := enters_of Try.func49 (by kernel_rfl) rfl
theorem en_50 : ∀ args w, (callFunc 50 args).run Try.prog w = .ok (.enter 50 args) w := enters_of Try.func50 (by kernel_rfl) rfl
theorem ze_103 : (Try.prog.info? 103).bind (·.zero) = some (Value.agg #[(Value.int .i64 0), (Value.slice none 0 0)]) := by kernel_rfl
theorem bs_3_1_0i (x0_0 : Int) : Instr.fill (fun i => some (i * 1, 1)) ((Array.range (1 * 1)).map ((Value.int .i64 0).cells[· % (Value.int .i64 0).cells.size]!)) [(0, (.int .i64 x0_0))] = some (([(.int .i64 x0_0)] : List Value).toArray) := by kernel_rfl
theorem el_3 : elK Try.prog 3 = some ((Value.int .i64 0), 1, 8) := by kernel_rfl
set_option maxHeartbeats 4000000 in
theorem Bias_ok (b : BookD) (vt vm : Value) (lr lb lk : Nat → Value) (w : World) (hT : TabsAt w vt lr lb b.tabs) (hM : MacsAt w vm lk b.macs) (hth : ThinB b) (i : Int) :
  Calls Try.prog 33 #[(Value.agg #[(Value.int .i64 b.scales), vt, vm]), (Value.int .i64 i)] w (Ret fun v w' => v = .tuple #[.agg #[.int .i64 (biasR b i).1, .int .i64 (biasR b i).2], .int .i64 (biasE b i)] ∧ Ext NoB w w') := by
 refine calls_enter Try.func33 rfl fun a0 hA0 => ?_
 replace hA0 : Fr 32 [] [(0, (Value.agg #[(Value.int .i64 b.scales), vt, vm])), (1, (Value.int .i64 i))] a0 := hA0
 have hml9 := hth.ml
 have hS0 : Sep NoB w w [(tabsR false vt lr lb b.tabs), (macsR false vm lk b.macs)] := sep_ro ⟨rfl, hT, rfl, hM, trivial⟩
 refine c_seq ?_
 refine c_region ?_
 refine stw hA0 (op_box hS0 rfl (hA0.ev rfl) (cs := [(Value.int .i64 b.scales), vt, vm]) rfl) rfl rfl (by decide) ?_
 rintro a1 _ w3 ⟨b4, rfl, hS5⟩ hA2; clear hA0 hS0 a0
 refine stw hA2 (op_alloc hS5 rfl ze_30 (cs := [(Value.int .i64 0), (Value.int .i64 0)]) rfl) rfl rfl (by decide) ?_
 rintro a6 _ w8 ⟨b9, rfl, hS10⟩ hA7; clear hA2 hS5 a1
 refine st hA7 (op_assign rfl (evc _ _)) rfl rfl (by decide) fun a11 hA12 => ?_; clear hA7 a6
 refine wl_nil ?_
 refine then_n ?_
 refine c_seq ?_
 refine c_seq ?_
 refine c_region ?_
 refine st hA12 (op_loadA rfl ty_37 (hA12.ev rfl) (hS10.bk 1 rfl) (l := [(Value.int .i64 b.scales), vt, vm]) rfl rfl) rfl rfl (by decide) fun a13 hA14 => ?_; clear hA12 a11
 refine stw hA14 (op_call rfl en_32 (ev1 (hA14.ev rfl)) (check_book b vt vm lr lb lk _ (tabs_at (hS10.ok 2 _ rfl)) (macs_at (hS10.ok 3 _ rfl)) hth)) rfl rfl (by decide) ?_
 rintro a15 _ w17 ⟨rfl, hE18⟩ hA16; have hS19 := hS10.step hE18; clear hE18 hA14 hS10 a13
 refine st hA16 (op_assign rfl (hA16.ev rfl)) rfl rfl (by decide) fun a20 hA21 => ?_; clear hA16 a15
 refine wl_nil ?_
 refine then_n ?_
 refine c_seq ?_
 refine c_region ?_
 refine st hA21 (op_move rfl (hA21.ev rfl)) rfl rfl (by decide) fun a22 hA23 => ?_; clear hA21 a20
 refine st hA23 (op_neq rfl (hA23.ev rfl) (evc _ _)) rfl rfl (by decide) fun a24 hA25 => ?_; clear hA23 a22
 refine wl_nil ?_
 refine then_n ?_
 by_cases hb26 : (checkF b) = 0
 ·skip
  rw [decide_eq_true hb26] at hA25
  refine c_false hA25 rfl ?_
  refine c_skip ?_
  refine then_n ?_
  refine c_seq ?_
  refine c_seq ?_
  have hA27 := hA25.as [(4, (bptr b9 0)), (2, (bptr b4 0)), (1, (Value.int .i64 i))] rfl; clear hA25
  refine c_region ?_
  refine st hA27 (op_move rfl (hA27.ev rfl)) rfl rfl (by decide) fun a28 hA29 => ?_; clear hA27 a24
  refine st hA29 (op_field rfl fd_37_2 (hA29.ev rfl)) rfl rfl (by decide) fun a30 hA31 => ?_; clear hA29 a28
  refine st hA31 (op_load1 rfl ty_35 (hA31.ev rfl) (hS19.bk 1 rfl) rfl) rfl rfl (by decide) fun a32 hA33 => ?_; clear hA31 a30
  refine st hA33 (op_lenS rfl un_35 (hA33.ev rfl) (macs_at (hS19.ok 3 _ rfl)).macs) rfl rfl (by decide) fun a34 hA35 => ?_; clear hA33 a32
  refine st hA35 (op_sub rfl (hA35.ev rfl) (evc _ _) (by omega) (by omega)) rfl rfl (by decide) fun a36 hA37 => ?_; clear hA35 a34
  refine stw hA37 (op_call rfl en_47 (ev3 (hA37.ev rfl) (evc _ _) (hA37.ev rfl)) (within_ok _ _ _ _)) rfl rfl (by decide) ?_
  rintro a38 _ W_ ⟨rfl, hW_⟩ hA39; have hW2_ := hW_.symm; subst hW2_; clear hW_ hA37 a36
  refine st hA39 (op_not rfl (hA39.ev rfl)) rfl rfl (by decide) fun a41 hA42 => ?_; clear hA39 a38
  refine wl_nil ?_
  refine then_n ?_
  rcases Bool.eq_false_or_eq_true ((inB i 0 ((b.macs.length : Int) - 1))) with hb43 | hb43
  ·skip
   rw [hb43] at hA42
   have hib := inB_iff.1 hb43
   refine c_false hA42 rfl ?_
   refine c_skip ?_
   refine then_n ?_
   refine c_seq ?_
   have hA44 := hA42.as [(4, (bptr b9 0)), (2, (bptr b4 0)), (1, (Value.int .i64 i))] rfl; clear hA42
   refine c_region ?_
   refine st hA44 (op_field rfl fd_37_2 (hA44.ev rfl)) rfl rfl (by decide) fun a45 hA46 => ?_; clear hA44 a41
   refine st hA46 (op_load1 rfl ty_35 (hA46.ev rfl) (hS19.bk 1 rfl) rfl) rfl rfl (by decide) fun a47 hA48 => ?_; clear hA46 a45
   refine st hA48 (op_move rfl (hA48.ev rfl)) rfl rfl (by decide) fun a49 hA50 => ?_; clear hA48 a47
   refine st hA50 (op_indexS rfl un_35 ty_103 (hA50.ev rfl) (i := i.toNat) ((hA50.ev rfl).trans (int_nat (by omega))) (macs_at (hS19.ok 3 _ rfl)).macs (by decide) (by omega)) rfl rfl (by decide) fun a51 hA52 => ?_; clear hA50 a49
   refine st hA52 (op_loadAE rfl ty_103 (hA52.ev rfl) (macs_at (hS19.ok 3 _ rfl)).macs (macs_all (by omega)) rfl (by decide)) rfl rfl (by decide) fun a53 hA54 => ?_; clear hA52 a51
   refine stw hA54 (op_call rfl en_67 (ev1 (hA54.ev rfl)) (bias_ok _ (b.macs.getD i.toNat mac0) _ _ ((macs_at (hS19.ok 3 _ rfl)).blk (i := i.toNat) (by omega)) ((check_ok (by assumption)).mac (by omega)) (hth.kl _))) rfl rfl (by decide) ?_
   rintro a55 _ w57 ⟨rfl, hE58⟩ hA56; have hS59 := hS19.step hE58; clear hE58 hA54 hS19 a53
   refine stw hA56 (op_alloc hS59 rfl ze_30 (cs := [(Value.int .i64 0), (Value.int .i64 0)]) rfl) rfl rfl (by decide) ?_
   rintro a60 _ w62 ⟨b63, rfl, hS64⟩ hA61; clear hA56 hS59 a55
   refine sts hA61 (op_store hS64 rfl ty_30 (hA61.ev rfl) (hA61.ev rfl) (i := 0) rfl (vs := [(Value.int .i64 ((biasF (b.macs.getD i.toNat mac0)).1)), (Value.int .i64 ((biasF (b.macs.getD i.toNat mac0)).2))]) rfl rfl rfl (Nat.le_of_ble_eq_true rfl)) rfl rfl ?_
   intro _ w65 hS66 hA67; clear hA61
   have hS68 : Sep NoB w w65 [(blk b63 30 [(Value.int .i64 ((biasF (b.macs.getD i.toNat mac0)).1)), (Value.int .i64 ((biasF (b.macs.getD i.toNat mac0)).2))]), (blk b9 30 [(Value.int .i64 0), (Value.int .i64 0)]), (blk b4 37 [(Value.int .i64 b.scales), vt, vm]), (tabsR false vt lr lb b.tabs), (macsR false vm lk b.macs)] := hS66; clear hS66 hS64
   refine wl_nil ?_
   refine then_n ?_
   refine c_seq ?_
   refine c_seq ?_
   have hA69 := hA67.as [(7, (bptr b63 0)), (4, (bptr b9 0))] rfl; clear hA67
   refine c_region ?_
   refine st hA69 (op_loadA rfl ty_30 (hA69.ev rfl) (hS68.bk 0 rfl) (l := [(Value.int .i64 ((biasF (b.macs.getD i.toNat mac0)).1)), (Value.int .i64 ((biasF (b.macs.getD i.toNat mac0)).2))]) rfl rfl) rfl rfl (by decide) fun a70 hA71 => ?_; clear hA69 a60
   refine stw hA71 (op_call rfl en_68 (ev1 (hA71.ev rfl)) (empty_ok _ _ _)) rfl rfl (by decide) ?_
   rintro a72 _ w74 ⟨rfl, hE75⟩ hA73; have hS76 := hS68.step hE75; clear hE75 hA71 hS68 a70
   refine wl_nil ?_
   refine then_n ?_
   by_cases hb77 : ((biasF (b.macs.getD i.toNat mac0)).2) < ((biasF (b.macs.getD i.toNat mac0)).1)
   ·skip
    rw [decide_eq_true hb77] at hA73
    refine c_true hA73 rfl ?_
    refine c_seq ?_
    refine c_region ?_
    refine st hA73 (op_build rfl pv0 bd_30_) rfl rfl (by decide) fun a78 hA79 => ?_; clear hA73 a72
    refine sts hA79 (op_store hS76 rfl ty_30 (hA79.ev rfl) (hA79.ev rfl) (i := 1) rfl (vs := [(Value.int .i64 0), (Value.int .i64 0)]) rfl rfl rfl (Nat.le_of_ble_eq_true rfl)) rfl rfl ?_
    intro _ w80 hS81 hA82; clear hA79
    have hS83 : Sep NoB w w80 [(blk b63 30 [(Value.int .i64 ((biasF (b.macs.getD i.toNat mac0)).1)), (Value.int .i64 ((biasF (b.macs.getD i.toNat mac0)).2))]), (blk b9 30 [(Value.int .i64 0), (Value.int .i64 0)]), (blk b4 37 [(Value.int .i64 b.scales), vt, vm]), (tabsR false vt lr lb b.tabs), (macsR false vm lk b.macs)] := hS81; clear hS81 hS76
    refine st hA82 (op_assign rfl (evc _ _)) rfl rfl (by decide) fun a84 hA85 => ?_; clear hA82 a78
    refine wl_nil ?_
    refine then_n ?_
    refine c_ret ?_
    refine then_ret ?_
    refine fin_run hA85 (.inl rfl) (run_results2 hA85 rfl (.cellA rfl ty_30 (hS83.bk 1 rfl) (l := [(Value.int .i64 0), (Value.int .i64 0)]) rfl rfl) (.tmp rfl)) ?_
    have he_ := (biasE_11 (i := i) (by assumption) (by assumption) (off_t (by assumption)))
    exact ⟨by rw [biasR_n (by rw [he_]; first | assumption | decide), he_], hS83.ext⟩
   ·skip
    rw [decide_eq_false hb77] at hA73
    refine c_false hA73 rfl ?_
    refine c_skip ?_
    refine then_n ?_
    refine c_seq ?_
    refine c_region ?_
    refine st hA73 (op_loadA rfl ty_30 (hA73.ev rfl) (hS76.bk 0 rfl) (l := [(Value.int .i64 ((biasF (b.macs.getD i.toNat mac0)).1)), (Value.int .i64 ((biasF (b.macs.getD i.toNat mac0)).2))]) rfl rfl) rfl rfl (by decide) fun a86 hA87 => ?_; clear hA73 a72
    refine sts hA87 (op_store hS76 rfl ty_30 (hA87.ev rfl) (hA87.ev rfl) (i := 1) rfl (vs := [(Value.int .i64 ((biasF (b.macs.getD i.toNat mac0)).1)), (Value.int .i64 ((biasF (b.macs.getD i.toNat mac0)).2))]) rfl rfl rfl (Nat.le_of_ble_eq_true rfl)) rfl rfl ?_
    intro _ w88 hS89 hA90; clear hA87
    have hS91 : Sep NoB w w88 [(blk b63 30 [(Value.int .i64 ((biasF (b.macs.getD i.toNat mac0)).1)), (Value.int .i64 ((biasF (b.macs.getD i.toNat mac0)).2))]), (blk b9 30 [(Value.int .i64 ((biasF (b.macs.getD i.toNat mac0)).1)), (Value.int .i64 ((biasF (b.macs.getD i.toNat mac0)).2))]), (blk b4 37 [(Value.int .i64 b.scales), vt, vm]), (tabsR false vt lr lb b.tabs), (macsR false vm lk b.macs)] := hS89; clear hS89 hS76
    refine st hA90 (op_assign rfl (evc _ _)) rfl rfl (by decide) fun a92 hA93 => ?_; clear hA90 a86
    refine wl_nil ?_
    refine then_n ?_
    refine c_ret ?_
    refine fin_run hA93 (.inl rfl) (run_results2 hA93 rfl (.cellA rfl ty_30 (hS91.bk 1 rfl) (l := [(Value.int .i64 ((biasF (b.macs.getD i.toNat mac0)).1)), (Value.int .i64 ((biasF (b.macs.getD i.toNat mac0)).2))]) rfl rfl) (.tmp rfl)) ?_
    have he_ := (biasE_0 (i := i) (by assumption) (by assumption) (off_f (by assumption)))
    exact ⟨by rw [biasR_y he_, he_], hS91.ext⟩
  ·skip
   rw [hb43] at hA42
   refine c_true hA42 rfl ?_
   refine c_seq ?_
   have hA94 := hA42.as [(4, (bptr b9 0))] rfl; clear hA42
   refine c_region ?_
   refine st hA94 (op_build rfl pv0 bd_30_) rfl rfl (by decide) fun a95 hA96 => ?_; clear hA94 a41
   refine sts hA96 (op_store hS19 rfl ty_30 (hA96.ev rfl) (hA96.ev rfl) (i := 0) rfl (vs := [(Value.int .i64 0), (Value.int .i64 0)]) rfl rfl rfl (Nat.le_of_ble_eq_true rfl)) rfl rfl ?_
   intro _ w97 hS98 hA99; clear hA96
   have hS100 : Sep NoB w w97 [(blk b9 30 [(Value.int .i64 0), (Value.int .i64 0)]), (blk b4 37 [(Value.int .i64 b.scales), vt, vm]), (tabsR false vt lr lb b.tabs), (macsR false vm lk b.macs)] := hS98; clear hS98 hS19
   refine st hA99 (op_assign rfl (evc _ _)) rfl rfl (by decide) fun a101 hA102 => ?_; clear hA99 a95
   refine wl_nil ?_
   refine then_n ?_
   refine c_ret ?_
   refine then_ret ?_
   refine fin_run hA102 (.inl rfl) (run_results2 hA102 rfl (.cellA rfl ty_30 (hS100.bk 0 rfl) (l := [(Value.int .i64 0), (Value.int .i64 0)]) rfl rfl) (.tmp rfl)) ?_
   have he_ := (biasE_2 (i := i) (by assumption) (by assumption))
   exact ⟨by rw [biasR_n (by rw [he_]; first | assumption | decide), he_], hS100.ext⟩
 ·skip
  rw [decide_eq_false hb26] at hA25
  refine c_true hA25 rfl ?_
  refine c_seq ?_
  have hA103 := hA25.as [(6, (Value.int .i64 (checkF b))), (4, (bptr b9 0))] rfl; clear hA25
  refine c_region ?_
  refine st hA103 (op_build rfl pv0 bd_30_) rfl rfl (by decide) fun a104 hA105 => ?_; clear hA103 a24
  refine st hA105 (op_move rfl (hA105.ev rfl)) rfl rfl (by decide) fun a106 hA107 => ?_; clear hA105 a104
  refine sts hA107 (op_store hS19 rfl ty_30 (hA107.ev rfl) (hA107.ev rfl) (i := 0) rfl (vs := [(Value.int .i64 0), (Value.int .i64 0)]) rfl rfl rfl (Nat.le_of_ble_eq_true rfl)) rfl rfl ?_
  intro _ w108 hS109 hA110; clear hA107
  have hS111 : Sep NoB w w108 [(blk b9 30 [(Value.int .i64 0), (Value.int .i64 0)]), (blk b4 37 [(Value.int .i64 b.scales), vt, vm]), (tabsR false vt lr lb b.tabs), (macsR false vm lk b.macs)] := hS109; clear hS109 hS19
  refine st hA110 (op_assign rfl (hA110.ev rfl)) rfl rfl (by decide) fun a112 hA113 => ?_; clear hA110 a106
  refine wl_nil ?_
  refine then_n ?_
  refine c_ret ?_
  refine then_ret ?_
  refine fin_run hA113 (.inl rfl) (run_results2 hA113 rfl (.cellA rfl ty_30 (hS111.bk 0 rfl) (l := [(Value.int .i64 0), (Value.int .i64 0)]) rfl rfl) (.tmp rfl)) ?_
  have he_ := (biasE_c (i := i) (by assumption))
  exact ⟨by rw [biasR_n (by rw [he_]; first | assumption | decide), he_], hS111.ext⟩
set_option maxHeartbeats 4000000 in
theorem Convert_ok (b : BookD) (vt vm : Value) (lr lb lk : Nat → Value) (w : World) (hT : TabsAt w vt lr lb b.tabs) (hM : MacsAt w vm lk b.macs) (hth : ThinB b) (i r1 r2 : Int) :
  Calls Try.prog 18 #[(Value.agg #[(Value.int .i64 b.scales), vt, vm]), (Value.int .i64 i), (Value.agg #[(Value.int .i64 r1), (Value.int .i64 r2)])] w (Ret fun v w' => v = .tuple #[.agg #[.int .i64 (convR b i (r1, r2)).1, .int .i64 (convR b i (r1, r2)).2], .int .i64 (convE b i (r1, r2))] ∧ Ext NoB w w') := by
 refine calls_enter Try.func18 rfl fun a0 hA0 => ?_
 replace hA0 : Fr 47 [] [(0, (Value.agg #[(Value.int .i64 b.scales), vt, vm])), (1, (Value.int .i64 i)), (2, (Value.agg #[(Value.int .i64 r1), (Value.int .i64 r2)]))] a0 := hA0
 have htl9 := hth.tl
 have hS0 : Sep NoB w w [(tabsR false vt lr lb b.tabs), (macsR false vm lk b.macs)] := sep_ro ⟨rfl, hT, rfl, hM, trivial⟩
 refine c_seq ?_
 refine c_region ?_
 refine stw hA0 (op_box hS0 rfl (hA0.ev rfl) (cs := [(Value.int .i64 b.scales), vt, vm]) rfl) rfl rfl (by decide) ?_
 rintro a1 _ w3 ⟨b4, rfl, hS5⟩ hA2; clear hA0 hS0 a0
 refine stw hA2 (op_box hS5 rfl (hA2.ev rfl) (cs := [(Value.int .i64 r1), (Value.int .i64 r2)]) rfl) rfl rfl (by decide) ?_
 rintro a6 _ w8 ⟨b9, rfl, hS10⟩ hA7; clear hA2 hS5 a1
 refine stw hA7 (op_alloc hS10 rfl ze_30 (cs := [(Value.int .i64 0), (Value.int .i64 0)]) rfl) rfl rfl (by decide) ?_
 rintro a11 _ w13 ⟨b14, rfl, hS15⟩ hA12; clear hA7 hS10 a6
 refine st hA12 (op_assign rfl (evc _ _)) rfl rfl (by decide) fun a16 hA17 => ?_; clear hA12 a11
 refine wl_nil ?_
 refine then_n ?_
 refine c_seq ?_
 refine c_seq ?_
 refine c_region ?_
 refine st hA17 (op_loadA rfl ty_37 (hA17.ev rfl) (hS15.bk 2 rfl) (l := [(Value.int .i64 b.scales), vt, vm]) rfl rfl) rfl rfl (by decide) fun a18 hA19 => ?_; clear hA17 a16
 refine stw hA19 (op_call rfl en_32 (ev1 (hA19.ev rfl)) (check_book b vt vm lr lb lk _ (tabs_at (hS15.ok 3 _ rfl)) (macs_at (hS15.ok 4 _ rfl)) hth)) rfl rfl (by decide) ?_
 rintro a20 _ w22 ⟨rfl, hE23⟩ hA21; have hS24 := hS15.step hE23; clear hE23 hA19 hS15 a18
 refine st hA21 (op_assign rfl (hA21.ev rfl)) rfl rfl (by decide) fun a25 hA26 => ?_; clear hA21 a20
 refine wl_nil ?_
 refine then_n ?_
 refine c_seq ?_
 refine c_region ?_
 refine st hA26 (op_move rfl (hA26.ev rfl)) rfl rfl (by decide) fun a27 hA28 => ?_; clear hA26 a25
 refine st hA28 (op_neq rfl (hA28.ev rfl) (evc _ _)) rfl rfl (by decide) fun a29 hA30 => ?_; clear hA28 a27
 refine wl_nil ?_
 refine then_n ?_
 by_cases hb31 : (checkF b) = 0
 ·skip
  rw [decide_eq_true hb31] at hA30
  refine c_false hA30 rfl ?_
  refine c_skip ?_
  refine then_n ?_
  refine c_seq ?_
  refine c_seq ?_
  have hA32 := hA30.as [(6, (bptr b14 0)), (5, (bptr b9 0)), (3, (bptr b4 0)), (1, (Value.int .i64 i))] rfl; clear hA30
  refine c_region ?_
  refine st hA32 (op_move rfl (hA32.ev rfl)) rfl rfl (by decide) fun a33 hA34 => ?_; clear hA32 a29
  refine st hA34 (op_field rfl fd_37_1 (hA34.ev rfl)) rfl rfl (by decide) fun a35 hA36 => ?_; clear hA34 a33
  refine st hA36 (op_load1 rfl ty_34 (hA36.ev rfl) (hS24.bk 2 rfl) rfl) rfl rfl (by decide) fun a37 hA38 => ?_; clear hA36 a35
  refine st hA38 (op_lenS rfl un_34 (hA38.ev rfl) (tabs_at (hS24.ok 3 _ rfl)).tabs) rfl rfl (by decide) fun a39 hA40 => ?_; clear hA38 a37
  refine st hA40 (op_sub rfl (hA40.ev rfl) (evc _ _) (by omega) (by omega)) rfl rfl (by decide) fun a41 hA42 => ?_; clear hA40 a39
  refine stw hA42 (op_call rfl en_47 (ev3 (hA42.ev rfl) (evc _ _) (hA42.ev rfl)) (within_ok _ _ _ _)) rfl rfl (by decide) ?_
  rintro a43 _ W_ ⟨rfl, hW_⟩ hA44; have hW2_ := hW_.symm; subst hW2_; clear hW_ hA42 a41
  refine st hA44 (op_not rfl (hA44.ev rfl)) rfl rfl (by decide) fun a46 hA47 => ?_; clear hA44 a43
  refine st hA47 (op_move rfl (hA47.ev rfl)) rfl rfl (by decide) fun a48 hA49 => ?_; clear hA47 a46
  rcases Bool.eq_false_or_eq_true ((inB i 0 ((b.tabs.length : Int) - 1))) with hb50 | hb50
  ·skip
   rw [hb50] at hA49
   have hib := inB_iff.1 hb50
   refine stg hA49 (op_loadA rfl ty_30 (hA49.ev rfl) (hS24.bk 1 rfl) (l := [(Value.int .i64 r1), (Value.int .i64 r2)]) rfl rfl) rfl rfl rfl rfl (by decide) fun a51 hA52 => ?_; clear hA49 a48
   refine stwg hA52 (op_call rfl en_48 (ev1 (hA52.ev rfl)) (values_ok _ _ _)) rfl rfl rfl rfl (by decide) ?_
   rintro a53 _ w55 ⟨rfl, hE56⟩ hA54; have hS57 := hS24.step hE56; clear hE56 hA52 hS24 a51
   refine stg hA54 (op_not rfl (hA54.ev rfl)) rfl rfl rfl rfl (by decide) fun a58 hA59 => ?_; clear hA54 a53
   refine st hA59 (op_pick_f rfl (hA59.ev rfl) (hA59.ev rfl)) rfl rfl (by decide) fun a60 hA61 => ?_; clear hA59 a58
   refine wl_nil ?_
   refine then_n ?_
   rcases Bool.eq_false_or_eq_true ((spanB (r1, r2))) with hb62 | hb62
   ·skip
    rw [hb62] at hA61
    refine c_false hA61 rfl ?_
    refine c_skip ?_
    refine then_n ?_
    refine c_seq ?_
    refine c_seq ?_
    have hA63 := hA61.as [(6, (bptr b14 0)), (5, (bptr b9 0)), (3, (bptr b4 0)), (1, (Value.int .i64 i))] rfl; clear hA61
    refine c_region ?_
    refine st hA63 (op_field rfl fd_37_1 (hA63.ev rfl)) rfl rfl (by decide) fun a64 hA65 => ?_; clear hA63 a60
    refine st hA65 (op_load1 rfl ty_34 (hA65.ev rfl) (hS57.bk 2 rfl) rfl) rfl rfl (by decide) fun a66 hA67 => ?_; clear hA65 a64
    refine st hA67 (op_move rfl (hA67.ev rfl)) rfl rfl (by decide) fun a68 hA69 => ?_; clear hA67 a66
    refine st hA69 (op_indexS rfl un_34 ty_106 (hA69.ev rfl) (i := i.toNat) ((hA69.ev rfl).trans (int_nat (by omega))) (tabs_at (hS57.ok 3 _ rfl)).tabs (by decide) (by omega)) rfl rfl (by decide) fun a70 hA71 => ?_; clear hA69 a68
    refine st hA71 (op_loadAE rfl ty_106 (hA71.ev rfl) (tabs_at (hS57.ok 3 _ rfl)).tabs (tabs_all (by omega)) rfl (by decide)) rfl rfl (by decide) fun a72 hA73 => ?_; clear hA71 a70
    refine st hA73 (op_makeFunc rfl (ev1 (hA73.ev rfl)) ev0) rfl rfl (by decide) fun a74 hA75 => ?_; clear hA73 a72
    refine st hA75 (op_assign rfl (hA75.ev rfl)) rfl rfl (by decide) fun a76 hA77 => ?_; clear hA75 a74
    refine wl_nil ?_
    refine then_n ?_
    refine c_seq ?_
    have hA78 := hA77.as [(9, (Value.func (.func 49) #[(Value.agg #[(Value.int .i64 ((b.tabs.getD i.toNat tab0).frm)), (Value.int .i64 ((b.tabs.getD i.toNat tab0).dst)), (lr i.toNat), (lb i.toNat), (Value.int .i64 ((b.tabs.getD i.toNat tab0).err))])] #[])), (6, (bptr b14 0)), (5, (bptr b9 0)), (3, (bptr b4 0)), (1, (Value.int .i64 i))] rfl; clear hA77
    refine c_region ?_
    refine st hA78 (op_move rfl (hA78.ev rfl)) rfl rfl (by decide) fun a79 hA80 => ?_; clear hA78 a76
    refine st hA80 (op_loadA rfl ty_30 (hA80.ev rfl) (hS57.bk 1 rfl) (l := [(Value.int .i64 r1), (Value.int .i64 r2)]) rfl rfl) rfl rfl (by decide) fun a81 hA82 => ?_; clear hA80 a79
    refine stw hA82 (op_callv rfl (hA82.ev rfl) en_49 (ev1 (hA82.ev rfl)) (converts_ok r1 r2 (b.tabs.getD i.toNat tab0) _ _ _ ((tabs_at (hS57.ok 3 _ rfl)).row (i := i.toNat) (by omega)) ((tabs_at (hS57.ok 3 _ rfl)).brk (i := i.toNat) (by omega)) (hth.rl _) (hth.bl _) _ ((check_ok (by assumption)).tab (by omega)))) rfl rfl (by decide) ?_
    rintro a83 _ w85 ⟨rfl, hE86⟩ hA84; have hS87 := hS57.step hE86; clear hE86 hA82 hS57 a81
    refine st hA84 (op_not rfl (hA84.ev rfl)) rfl rfl (by decide) fun a88 hA89 => ?_; clear hA84 a83
    refine wl_nil ?_
    refine then_n ?_
    rcases Bool.eq_false_or_eq_true ((convB (b.tabs.getD i.toNat tab0) (r1, r2))) with hb90 | hb90
    ·skip
     rw [hb90] at hA89
     refine c_false hA89 rfl ?_
     refine c_skip ?_
     refine then_n ?_
     refine c_seq ?_
     have hA91 := hA89.as [(6, (bptr b14 0)), (5, (bptr b9 0)), (3, (bptr b4 0)), (1, (Value.int .i64 i))] rfl; clear hA89
     refine c_drawn mixed hA91 hS87 6 [[], [0], [], [1, 2], [3], []] [(Yd.val (bptr b4 1)), (Yd.val vt), (Yd.val (Value.int .i64 i)), (Yd.val (eptr vt (i.toNat * 5))), (Yd.val (Value.agg #[(Value.int .i64 ((b.tabs.getD i.toNat tab0).frm)), (Value.int .i64 ((b.tabs.getD i.toNat tab0).dst)), (lr i.toNat), (lb i.toNat), (Value.int .i64 ((b.tabs.getD i.toNat tab0).err))])), (Yd.val (Value.agg #[(Value.int .i64 r1), (Value.int .i64 r2)]))] (by decide +kernel) rfl rfl ?_ ?_
     ·skip
      refine ⟨fun a w hA hS hd => by exact opG_of rfl (dv (op_field rfl fd_37_1 (hA.ev rfl)) hS rfl), ?_⟩
      refine ⟨fun a w hA hS hd => by have e0 := has_ev (hd 0 (by decide)) rfl (fun _ h => h); exact opG_of rfl (dv (op_load1 rfl ty_34 (tmp_ev e0) (hS.bk 2 rfl) rfl) hS rfl), ?_⟩
      refine ⟨fun a w hA hS hd => by exact opG_of rfl (dv (op_move rfl (hA.ev rfl)) hS rfl), ?_⟩
      refine ⟨fun a w hA hS hd => by have e1 := has_ev (hd 1 (by decide)) rfl (fun _ h => h); have e2 := has_ev (hd 2 (by decide)) rfl (fun _ h => h); exact opG_of rfl (dv (op_indexS rfl un_34 ty_106 (tmp_ev e1) (i := i.toNat) ((tmp_ev e2).trans (int_nat (by omega))) (tabs_at (hS.ok 3 _ rfl)).tabs (by decide) (by omega)) hS rfl), ?_⟩
      refine ⟨fun a w hA hS hd => by have e3 := has_ev (hd 3 (by decide)) rfl (fun _ h => h); exact opG_of rfl (dv (op_loadAE rfl ty_106 (tmp_ev e3) (tabs_at (hS.ok 3 _ rfl)).tabs (tabs_all (by omega)) rfl (by decide)) hS rfl), ?_⟩
      refine ⟨fun a w hA hS hd => by exact opG_of rfl (dv (op_loadA rfl ty_30 (hA.ev rfl) (hS.bk 1 rfl) (l := [(Value.int .i64 r1), (Value.int .i64 r2)]) rfl rfl) hS rfl), ?_⟩
      trivial
     intro a93 w94 hA95 hS96 hH97; clear hA91 hS87
     have hA98 := hA95.add (has_ev (hH97 4 (by decide)) rfl (fun _ h => h)); clear hA95
     have hA99 := hA98.add (has_ev (hH97 5 (by decide)) rfl (fun _ h => h)); clear hA98
     clear hH97
     refine stw hA99 (op_call rfl en_50 (ev2 (hA99.ev rfl) (hA99.ev rfl)) (convert_ok r1 r2 (b.tabs.getD i.toNat tab0) _ _ _ ((tabs_at (hS96.ok 3 _ rfl)).row (i := i.toNat) (by omega)) ((tabs_at (hS96.ok 3 _ rfl)).brk (i := i.toNat) (by omega)) (hth.rl _) (hth.bl _) _ ((check_ok (by assumption)).tab (by omega)))) rfl rfl (by decide) ?_
     rintro a100 _ w102 ⟨rfl, hE103⟩ hA101; have hS104 := hS96.step hE103; clear hE103 hA99 hS96 a93
     refine sts hA101 (op_store hS104 rfl ty_30 (hA101.ev rfl) (hA101.ev rfl) (i := 0) rfl (vs := [(Value.int .i64 ((convF (b.tabs.getD i.toNat tab0) (r1, r2)).1)), (Value.int .i64 ((convF (b.tabs.getD i.toNat tab0) (r1, r2)).2))]) rfl rfl rfl (Nat.le_of_ble_eq_true rfl)) rfl rfl ?_
     intro _ w105 hS106 hA107; clear hA101
     have hS108 : Sep NoB w w105 [(blk b14 30 [(Value.int .i64 ((convF (b.tabs.getD i.toNat tab0) (r1, r2)).1)), (Value.int .i64 ((convF (b.tabs.getD i.toNat tab0) (r1, r2)).2))]), (blk b9 30 [(Value.int .i64 r1), (Value.int .i64 r2)]), (blk b4 37 [(Value.int .i64 b.scales), vt, vm]), (tabsR false vt lr lb b.tabs), (macsR false vm lk b.macs)] := hS106; clear hS106 hS104
     refine st hA107 (op_assign rfl (evc _ _)) rfl rfl (by decide) fun a109 hA110 => ?_; clear hA107 a100
     refine wl_nil ?_
     refine then_n ?_
     refine c_ret ?_
     refine fin_run hA110 (.inl rfl) (run_results2 hA110 rfl (.cellA rfl ty_30 (hS108.bk 0 rfl) (l := [(Value.int .i64 ((convF (b.tabs.getD i.toNat tab0) (r1, r2)).1)), (Value.int .i64 ((convF (b.tabs.getD i.toNat tab0) (r1, r2)).2))]) rfl rfl) (.tmp rfl)) ?_
     have he_ := (convE_0 (i := i) (r := (r1, r2)) (by assumption) (by assumption) (by assumption) (by assumption))
     exact ⟨by rw [convR_y he_, he_], hS108.ext⟩
    ·skip
     rw [hb90] at hA89
     refine c_true hA89 rfl ?_
     refine c_seq ?_
     have hA111 := hA89.as [(6, (bptr b14 0))] rfl; clear hA89
     refine c_region ?_
     refine st hA111 (op_build rfl pv0 bd_30_) rfl rfl (by decide) fun a112 hA113 => ?_; clear hA111 a88
     refine sts hA113 (op_store hS87 rfl ty_30 (hA113.ev rfl) (hA113.ev rfl) (i := 0) rfl (vs := [(Value.int .i64 0), (Value.int .i64 0)]) rfl rfl rfl (Nat.le_of_ble_eq_true rfl)) rfl rfl ?_
     intro _ w114 hS115 hA116; clear hA113
     have hS117 : Sep NoB w w114 [(blk b14 30 [(Value.int .i64 0), (Value.int .i64 0)]), (blk b9 30 [(Value.int .i64 r1), (Value.int .i64 r2)]), (blk b4 37 [(Value.int .i64 b.scales), vt, vm]), (tabsR false vt lr lb b.tabs), (macsR false vm lk b.macs)] := hS115; clear hS115 hS87
     refine st hA116 (op_assign rfl (evc _ _)) rfl rfl (by decide) fun a118 hA119 => ?_; clear hA116 a112
     refine wl_nil ?_
     refine then_n ?_
     refine c_ret ?_
     refine then_ret ?_
     refine fin_run hA119 (.inl rfl) (run_results2 hA119 rfl (.cellA rfl ty_30 (hS117.bk 0 rfl) (l := [(Value.int .i64 0), (Value.int .i64 0)]) rfl rfl) (.tmp rfl)) ?_
     have he_ := (convE_10 (i := i) (r := (r1, r2)) (by assumption) (by assumption) (by assumption) (by assumption))
     exact ⟨by rw [convR_n (by rw [he_]; first | assumption | decide), he_], hS117.ext⟩
   ·skip
    rw [hb62] at hA61
    refine c_true hA61 rfl ?_
    refine c_seq ?_
    have hA120 := hA61.as [(6, (bptr b14 0))] rfl; clear hA61
    refine c_region ?_
    refine st hA120 (op_build rfl pv0 bd_30_) rfl rfl (by decide) fun a121 hA122 => ?_; clear hA120 a60
    refine sts hA122 (op_store hS57 rfl ty_30 (hA122.ev rfl) (hA122.ev rfl) (i := 0) rfl (vs := [(Value.int .i64 0), (Value.int .i64 0)]) rfl rfl rfl (Nat.le_of_ble_eq_true rfl)) rfl rfl ?_
    intro _ w123 hS124 hA125; clear hA122
    have hS126 : Sep NoB w w123 [(blk b14 30 [(Value.int .i64 0), (Value.int .i64 0)]), (blk b9 30 [(Value.int .i64 r1), (Value.int .i64 r2)]), (blk b4 37 [(Value.int .i64 b.scales), vt, vm]), (tabsR false vt lr lb b.tabs), (macsR false vm lk b.macs)] := hS124; clear hS124 hS57
    refine st hA125 (op_assign rfl (evc _ _)) rfl rfl (by decide) fun a127 hA128 => ?_; clear hA125 a121
    refine wl_nil ?_
    refine then_n ?_
    refine c_ret ?_
    refine then_ret ?_
    refine fin_run hA128 (.inl rfl) (run_results2 hA128 rfl (.cellA rfl ty_30 (hS126.bk 0 rfl) (l := [(Value.int .i64 0), (Value.int .i64 0)]) rfl rfl) (.tmp rfl)) ?_
    have he_ := (convE_2 (i := i) (r := (r1, r2)) (by assumption) (by first | exact .inl (by assumption) | exact .inr (by assumption)))
    exact ⟨by rw [convR_n (by rw [he_]; first | assumption | decide), he_], hS126.ext⟩
  ·skip
   rw [hb50] at hA49
   refine skp hA49 rfl rfl rfl rfl rfl (by decide) fun a129 hA130 => ?_; clear hA49 a48
   refine skp hA130 rfl rfl rfl rfl rfl (by decide) fun a131 hA132 => ?_; clear hA130 a129
   refine skp hA132 rfl rfl rfl rfl rfl (by decide) fun a133 hA134 => ?_; clear hA132 a131
   refine st hA134 (op_pick_t rfl (hA134.ev rfl) (evc _ _)) rfl rfl (by decide) fun a135 hA136 => ?_; clear hA134 a133
   refine wl_nil ?_
   refine then_n ?_
   refine c_true hA136 rfl ?_
   refine c_seq ?_
   have hA137 := hA136.as [(6, (bptr b14 0))] rfl; clear hA136
   refine c_region ?_
   refine st hA137 (op_build rfl pv0 bd_30_) rfl rfl (by decide) fun a138 hA139 => ?_; clear hA137 a135
   refine sts hA139 (op_store hS24 rfl ty_30 (hA139.ev rfl) (hA139.ev rfl) (i := 0) rfl (vs := [(Value.int .i64 0), (Value.int .i64 0)]) rfl rfl rfl (Nat.le_of_ble_eq_true rfl)) rfl rfl ?_
   intro _ w140 hS141 hA142; clear hA139
   have hS143 : Sep NoB w w140 [(blk b14 30 [(Value.int .i64 0), (Value.int .i64 0)]), (blk b9 30 [(Value.int .i64 r1), (Value.int .i64 r2)]), (blk b4 37 [(Value.int .i64 b.scales), vt, vm]), (tabsR false vt lr lb b.tabs), (macsR false vm lk b.macs)] := hS141; clear hS141 hS24
   refine st hA142 (op_assign rfl (evc _ _)) rfl rfl (by decide) fun a144 hA145 => ?_; clear hA142 a138
   refine wl_nil ?_
   refine then_n ?_
   refine c_ret ?_
   refine then_ret ?_
   refine fin_run hA145 (.inl rfl) (run_results2 hA145 rfl (.cellA rfl ty_30 (hS143.bk 0 rfl) (l := [(Value.int .i64 0), (Value.int .i64 0)]) rfl rfl) (.tmp rfl)) ?_
   have he_ := (convE_2 (i := i) (r := (r1, r2)) (by assumption) (by first | exact .inl (by assumption) | exact .inr (by assumption)))
   exact ⟨by rw [convR_n (by rw [he_]; first | assumption | decide), he_], hS143.ext⟩
 ·skip
  rw [decide_eq_false hb31] at hA30
  refine c_true hA30 rfl ?_
  refine c_seq ?_
  have hA146 := hA30.as [(8, (Value.int .i64 (checkF b))), (6, (bptr b14 0))] rfl; clear hA30
  refine c_region ?_
  refine st hA146 (op_build rfl pv0 bd_30_) rfl rfl (by decide) fun a147 hA148 => ?_; clear hA146 a29
  refine st hA148 (op_move rfl (hA148.ev rfl)) rfl rfl (by decide) fun a149 hA150 => ?_; clear hA148 a147
  refine sts hA150 (op_store hS24 rfl ty_30 (hA150.ev rfl) (hA150.ev rfl) (i := 0) rfl (vs := [(Value.int .i64 0), (Value.int .i64 0)]) rfl rfl rfl (Nat.le_of_ble_eq_true rfl)) rfl rfl ?_
  intro _ w151 hS152 hA153; clear hA150
  have hS154 : Sep NoB w w151 [(blk b14 30 [(Value.int .i64 0), (Value.int .i64 0)]), (blk b9 30 [(Value.int .i64 r1), (Value.int .i64 r2)]), (blk b4 37 [(Value.int .i64 b.scales), vt, vm]), (tabsR false vt lr lb b.tabs), (macsR false vm lk b.macs)] := hS152; clear hS152 hS24
  refine st hA153 (op_assign rfl (hA153.ev rfl)) rfl rfl (by decide) fun a155 hA156 => ?_; clear hA153 a149
  refine wl_nil ?_
  refine then_n ?_
  refine c_ret ?_
  refine then_ret ?_
  refine fin_run hA156 (.inl rfl) (run_results2 hA156 rfl (.cellA rfl ty_30 (hS154.bk 0 rfl) (l := [(Value.int .i64 0), (Value.int .i64 0)]) rfl rfl) (.tmp rfl)) ?_
  have he_ := (convE_c (i := i) (r := (r1, r2)) (by assumption))
  exact ⟨by rw [convR_n (by rw [he_]; first | assumption | decide), he_], hS154.ext⟩
theorem Off_bad (b : BookD) (vt vm : Value) (lr lb lk : Nat → Value) (w : World) (hT : TabsAt w vt lr lb b.tabs) (hM : MacsAt w vm lk b.macs) (hth : ThinB b) (he : checkF b ≠ 0) :
  Calls Try.prog 34 #[(Value.agg #[(Value.int .i64 b.scales), vt, vm])] w (Ret fun v w' => v = .tuple #[.slice none 0 0, .int .i64 (checkF b)] ∧ Ext NoB w w') := by
 refine calls_enter Try.func34 rfl fun a0 hA0 => ?_
 replace hA0 : Fr 30 [] [(0, (Value.agg #[(Value.int .i64 b.scales), vt, vm]))] a0 := hA0
 have hS0 : Sep NoB w w [(tabsR false vt lr lb b.tabs), (macsR false vm lk b.macs)] := sep_ro ⟨rfl, hT, rfl, hM, trivial⟩
 refine c_seq ?_
 refine c_region ?_
 refine stw hA0 (op_box hS0 rfl (hA0.ev rfl) (cs := [(Value.int .i64 b.scales), vt, vm]) rfl) rfl rfl (by decide) ?_
 rintro a1 _ w3 ⟨b4, rfl, hS5⟩ hA2; clear hA0 hS0 a0
 refine st hA2 (op_assign rfl (evc _ _)) rfl rfl (by decide) fun a6 hA7 => ?_; clear hA2 a1
 refine st hA7 (op_assign rfl (evc _ _)) rfl rfl (by decide) fun a8 hA9 => ?_; clear hA7 a6
 refine wl_nil ?_
 refine then_n ?_
 refine c_seq ?_
 refine c_seq ?_
 refine c_region ?_
 refine st hA9 (op_loadA rfl ty_37 (hA9.ev rfl) (hS5.bk 0 rfl) (l := [(Value.int .i64 b.scales), vt, vm]) rfl rfl) rfl rfl (by decide) fun a10 hA11 => ?_; clear hA9 a8
 refine stw hA11 (op_call rfl en_32 (ev1 (hA11.ev rfl)) (check_book b vt vm lr lb lk _ (tabs_at (hS5.ok 1 _ rfl)) (macs_at (hS5.ok 2 _ rfl)) hth)) rfl rfl (by decide) ?_
 rintro a12 _ w14 ⟨rfl, hE15⟩ hA13; have hS16 := hS5.step hE15; clear hE15 hA11 hS5 a10
 refine st hA13 (op_assign rfl (hA13.ev rfl)) rfl rfl (by decide) fun a17 hA18 => ?_; clear hA13 a12
 refine wl_nil ?_
 refine then_n ?_
 refine c_seq ?_
 refine c_region ?_
 refine st hA18 (op_move rfl (hA18.ev rfl)) rfl rfl (by decide) fun a19 hA20 => ?_; clear hA18 a17
 refine st hA20 (op_neq rfl (hA20.ev rfl) (evc _ _)) rfl rfl (by decide) fun a21 hA22 => ?_; clear hA20 a19
 have hd23 : ¬ ((checkF b) = 0) := he
 rw [decide_eq_false hd23] at hA22
 refine wl_nil ?_
 refine then_n ?_
 refine c_true hA22 rfl ?_
 refine c_seq ?_
 have hA24 := hA22.as [(4, (Value.int .i64 (checkF b)))] rfl; clear hA22
 refine c_region ?_
 refine st hA24 (op_move rfl (hA24.ev rfl)) rfl rfl (by decide) fun a25 hA26 => ?_; clear hA24 a21
 refine st hA26 (op_assign rfl (evc _ _)) rfl rfl (by decide) fun a27 hA28 => ?_; clear hA26 a25
 refine st hA28 (op_assign rfl (hA28.ev rfl)) rfl rfl (by decide) fun a29 hA30 => ?_; clear hA28 a27
 refine wl_nil ?_
 refine then_n ?_
 refine c_ret ?_
 refine then_ret ?_
 refine fin_run hA30 (.inl rfl) (run_results2 hA30 rfl (.tmp rfl) (.tmp rfl)) ?_
 exact ⟨rfl, hS16.ext⟩
theorem Off_ok (b : BookD) (vt vm : Value) (lr lb lk : Nat → Value) (w : World) (hT : TabsAt w vt lr lb b.tabs) (hM : MacsAt w vm lk b.macs) (hth : ThinB b) (he : checkF b = 0) :
  Calls Try.prog 34 #[(Value.agg #[(Value.int .i64 b.scales), vt, vm])] w (Ret fun v w' => ∃ u, v = .tuple #[u, .int .i64 0] ∧ Sep NoB w w' [row u 3 1 (offL b).length (ints (offL b))]) := by
 refine calls_enter Try.func34 rfl fun a0 hA0 => ?_
 replace hA0 : Fr 30 [] [(0, (Value.agg #[(Value.int .i64 b.scales), vt, vm]))] a0 := hA0
 have hml9 := hth.ml
 have hS0 : Sep NoB w w [(tabsR false vt lr lb b.tabs), (macsR false vm lk b.macs)] := sep_ro ⟨rfl, hT, rfl, hM, trivial⟩
 refine c_seq ?_
 refine c_region ?_
 refine stw hA0 (op_box hS0 rfl (hA0.ev rfl) (cs := [(Value.int .i64 b.scales), vt, vm]) rfl) rfl rfl (by decide) ?_
 rintro a1 _ w3 ⟨b4, rfl, hS5⟩ hA2; clear hA0 hS0 a0
 refine st hA2 (op_assign rfl (evc _ _)) rfl rfl (by decide) fun a6 hA7 => ?_; clear hA2 a1
 refine st hA7 (op_assign rfl (evc _ _)) rfl rfl (by decide) fun a8 hA9 => ?_; clear hA7 a6
 refine wl_nil ?_
 refine then_n ?_
 refine c_seq ?_
 refine c_seq ?_
 refine c_region ?_
 refine st hA9 (op_loadA rfl ty_37 (hA9.ev rfl) (hS5.bk 0 rfl) (l := [(Value.int .i64 b.scales), vt, vm]) rfl rfl) rfl rfl (by decide) fun a10 hA11 => ?_; clear hA9 a8
 refine stw hA11 (op_call rfl en_32 (ev1 (hA11.ev rfl)) (check_book b vt vm lr lb lk _ (tabs_at (hS5.ok 1 _ rfl)) (macs_at (hS5.ok 2 _ rfl)) hth)) rfl rfl (by decide) ?_
 rintro a12 _ w14 ⟨rfl, hE15⟩ hA13; have hS16 := hS5.step hE15; clear hE15 hA11 hS5 a10
 refine st hA13 (op_assign rfl (hA13.ev rfl)) rfl rfl (by decide) fun a17 hA18 => ?_; clear hA13 a12
 refine wl_nil ?_
 refine then_n ?_
 refine c_seq ?_
 refine c_region ?_
 refine st hA18 (op_move rfl (hA18.ev rfl)) rfl rfl (by decide) fun a19 hA20 => ?_; clear hA18 a17
 refine st hA20 (op_neq rfl (hA20.ev rfl) (evc _ _)) rfl rfl (by decide) fun a21 hA22 => ?_; clear hA20 a19
 have hd23 : (checkF b) = 0 := he
 rw [decide_eq_true hd23] at hA22
 refine wl_nil ?_
 refine then_n ?_
 refine c_false hA22 rfl ?_
 refine c_skip ?_
 refine then_n ?_
 refine c_seq ?_
 have hA24 := hA22.as [(1, (bptr b4 0))] rfl; clear hA22
 refine c_region ?_
 refine st hA24 (op_assign rfl (evc _ _)) rfl rfl (by decide) fun a25 hA26 => ?_; clear hA24 a21
 have hS27 := hS16.nil_row 3 1; clear hS16
 refine wl_nil ?_
 refine then_n ?_
 refine c_seq ?_
 refine c_seq ?_
 refine c_region ?_
 refine st hA26 (op_field rfl fd_37_2 (hA26.ev rfl)) rfl rfl (by decide) fun a28 hA29 => ?_; clear hA26 a25
 refine st hA29 (op_load1 rfl ty_35 (hA29.ev rfl) (hS27.bk 1 rfl) rfl) rfl rfl (by decide) fun a30 hA31 => ?_; clear hA29 a28
 refine st hA31 (op_lenS rfl un_35 (hA31.ev rfl) (macs_at (hS27.ok 3 _ rfl)).macs) rfl rfl (by decide) fun a32 hA33 => ?_; clear hA31 a30
 refine st hA33 (op_move rfl (evc _ _)) rfl rfl (by decide) fun a34 hA35 => ?_; clear hA33 a32
 refine wl_nil ?_
 refine then_n ?_
 refine c_block ?_
 have hA36 := hA35.as [(16, (Value.int .i64 0)), (15, (Value.int .i64 (b.macs.length : Int))), (14, vm), (5, (Value.slice none 0 0))] rfl; clear hA35
 refine c_loop (G := Nat) (fun (k : Nat) a_ w_ => ∃ v5_ : Value, Fr 30 [] [(16, (Value.int .i64 (k : Int))), (15, (Value.int .i64 (b.macs.length : Int))), (14, vm), (5, v5_)] a_ ∧ Sep NoB w w_ [(row v5_ 3 1 ((offU b k).length) (ints (offU b k))), (blk b4 37 [(Value.int .i64 b.scales), vt, vm]), (tabsR false vt lr lb b.tabs), (macsR false vm lk b.macs)] ∧ (k ≤ b.macs.length)) (fun k => b.macs.length - k) 0 ⟨(Value.slice none 0 0), hA36.as _ rfl, (hS27.row_say (i := 0) rfl (by rfl) (by rfl)), by omega⟩ ?_
 clear hA36 hS27 a34
 rintro k a37 w39 ⟨v5_, hA38, hS40, hkk⟩
 refine c_seq ?_
 refine c_region ?_
 refine st hA38 (op_lss rfl (hA38.ev rfl) (hA38.ev rfl)) rfl rfl (by decide) fun a41 hA42 => ?_; clear hA38 a37
 refine wl_nil ?_
 refine then_n ?_
 refine c_seq ?_
 by_cases hb43 : (k : Int) < (b.macs.length : Int)
 ·skip
  rw [decide_eq_true hb43] at hA42
  refine c_true hA42 rfl ?_
  refine c_skip ?_
  refine then_n ?_
  refine c_seq ?_
  refine c_block ?_
  refine c_seq ?_
  refine c_region ?_
  refine st hA42 (op_move rfl (hA42.ev rfl)) rfl rfl (by decide) fun a44 hA45 => ?_; clear hA42 a41
  refine st hA45 (op_indexS rfl un_35 ty_103 (hA45.ev rfl) (i := k) (hA45.ev rfl) (macs_at (hS40.ok 3 _ rfl)).macs (by decide) (by omega)) rfl rfl (by decide) fun a46 hA47 => ?_; clear hA45 a44
  refine st hA47 (op_loadAE rfl ty_103 (hA47.ev rfl) (macs_at (hS40.ok 3 _ rfl)).macs (macs_all (by omega)) rfl (by decide)) rfl rfl (by decide) fun a48 hA49 => ?_; clear hA47 a46
  refine stw hA49 (op_alloc hS40 rfl ze_103 (cs := [(Value.int .i64 0), (Value.slice none 0 0)]) rfl) rfl rfl (by decide) ?_
  rintro a50 _ w52 ⟨b53, rfl, hS54⟩ hA51; clear hA49 hS40 a48
  refine st hA51 (op_assign rfl (hA51.ev rfl)) rfl rfl (by decide) fun a55 hA56 => ?_; clear hA51 a50
  refine sts hA56 (op_store hS54 rfl ty_103 (hA56.ev rfl) (hA56.ev rfl) (i := 0) rfl (vs := [(Value.int .i64 ((b.macs.getD k mac0).scale)), (lk k)]) rfl rfl (all_c rfl (all_c (SlAt.one ((macs_at (hS54.ok 4 _ rfl)).blk (i := k) (by omega))) all_n)) (Nat.le_of_ble_eq_true rfl)) rfl rfl ?_
  intro _ w57 hS58 hA59; clear hA56
  have hS60 : Sep NoB w w57 [(blk b53 103 [(Value.int .i64 ((b.macs.getD k mac0).scale)), (lk k)]), (row v5_ 3 1 ((offU b k).length) (ints (offU b k))), (blk b4 37 [(Value.int .i64 b.scales), vt, vm]), (tabsR false vt lr lb b.tabs), (macsR false vm lk b.macs)] := hS58; clear hS58 hS54
  refine wl_nil ?_
  refine then_n ?_
  refine c_seq ?_
  refine c_region ?_
  refine st hA59 (op_loadA rfl ty_103 (hA59.ev rfl) (hS60.bk 0 rfl) (l := [(Value.int .i64 ((b.macs.getD k mac0).scale)), (lk k)]) rfl rfl) rfl rfl (by decide) fun a61 hA62 => ?_; clear hA59 a55
  refine stw hA62 (op_call rfl en_67 (ev1 (hA62.ev rfl)) (bias_ok _ (b.macs.getD k mac0) _ _ ((macs_at (hS60.ok 4 _ rfl)).blk (i := k) (by omega)) ((check_ok he).mac (by omega)) (hth.kl _))) rfl rfl (by decide) ?_
  rintro a63 _ w65 ⟨rfl, hE66⟩ hA64; have hS67 := hS60.step hE66; clear hE66 hA62 hS60 a61
  refine stw hA64 (op_call rfl en_68 (ev1 (hA64.ev rfl)) (empty_ok _ _ _)) rfl rfl (by decide) ?_
  rintro a68 _ w70 ⟨rfl, hE71⟩ hA69; have hS72 := hS67.step hE71; clear hE71 hA64 hS67 a63
  refine wl_nil ?_
  refine then_n ?_
  by_cases hb73 : ((biasF (b.macs.getD k mac0)).2) < ((biasF (b.macs.getD k mac0)).1)
  ·skip
   rw [decide_eq_true hb73] at hA69
   refine c_true hA69 rfl ?_
   have hA74 := hA69.as [(6, (Value.int .i64 (k : Int))), (16, (Value.int .i64 (k : Int))), (15, (Value.int .i64 (b.macs.length : Int))), (14, vm), (5, v5_)] rfl; clear hA69
   refine c_region ?_
   refine st hA74 (op_move rfl (hA74.ev rfl)) rfl rfl (by decide) fun a75 hA76 => ?_; clear hA74 a68
   refine st hA76 (op_move rfl (hA76.ev rfl)) rfl rfl (by decide) fun a77 hA78 => ?_; clear hA76 a75
   refine stw hA78 (op_buildSlice hS72 rfl (pv1 (hA78.ev rfl)) un_44 ty_3 ze_3 (by decide) (cs := [(Value.int .i64 (k : Int))]) (bs_3_1_0i _)) rfl rfl (by decide) ?_
   rintro a79 _ w81 ⟨b82, rfl, hS83⟩ hA80; clear hA78 hS72 a77
   refine stw hA80 (op_append hS83 rfl un_44 el_3 (hA80.ev rfl) (hA80.ev rfl) (i := 2) rfl (SlAt.of_blk (hS83.bk 0 rfl) rfl (Nat.le_of_ble_eq_true rfl)) rfl (by have := offU_len b k; have := hth.ml; simp only [maxLen]; omega) (by have := offU_len b k; have := hth.ml; omega)) rfl rfl (by decide) ?_
   intro a84 v87 w86 hS88 hA85
   have hS89 := hS88.row_say (i := 2) rfl (n' := ((offU b k) ++ [(k : Int)]).length) (xs' := (ints ((offU b k) ++ [(k : Int)]))) (by simp) (by simp [ints]); clear hS88 hA80 hS83 a79
   refine st hA85 (op_assign rfl (hA85.ev rfl)) rfl rfl (by decide) fun a90 hA91 => ?_; clear hA85 a84
   refine wl_nil ?_
   refine blk_n ?_
   refine then_n ?_
   refine c_region ?_
   refine st hA91 (op_add rfl (hA91.ev rfl) (evc _ _) (by omega) (by omega)) rfl rfl (by decide) fun a92 hA93 => ?_; clear hA91 a90
   refine st hA93 (op_move rfl (hA93.ev rfl)) rfl rfl (by decide) fun a94 hA95 => ?_; clear hA93 a92
   refine wl_nil ?_
   have hS96 : Sep NoB w w86 [(row v87 3 1 (((offU b k) ++ [(k : Int)]).length) (ints ((offU b k) ++ [(k : Int)]))), (blk b4 37 [(Value.int .i64 b.scales), vt, vm]), (tabsR false vt lr lb b.tabs), (macsR false vm lk b.macs)] := hS89.keep [2, 3, 4, 5] (by decide) _ rfl rfl; clear hS89
   exact then_n ⟨k + 1, ⟨v87, hA95.as _ rfl, (hS96.row_say (i := 0) rfl (by first | rw [offU_y (off_t (by assumption))] | rw [offU_n (off_f (by assumption))]) (by first | rw [offU_y (off_t (by assumption))] | rw [offU_n (off_f (by assumption))])), by omega⟩, by omega⟩
  ·skip
   rw [decide_eq_false hb73] at hA69
   refine c_false hA69 rfl ?_
   refine c_skip ?_
   refine blk_n ?_
   refine then_n ?_
   have hA97 := hA69.as [(16, (Value.int .i64 (k : Int))), (15, (Value.int .i64 (b.macs.length : Int))), (14, vm), (5, v5_)] rfl; clear hA69
   refine c_region ?_
   refine st hA97 (op_add rfl (hA97.ev rfl) (evc _ _) (by omega) (by omega)) rfl rfl (by decide) fun a98 hA99 => ?_; clear hA97 a68
   refine st hA99 (op_move rfl (hA99.ev rfl)) rfl rfl (by decide) fun a100 hA101 => ?_; clear hA99 a98
   refine wl_nil ?_
   have hS102 : Sep NoB w w70 [(row v5_ 3 1 ((offU b k).length) (ints (offU b k))), (blk b4 37 [(Value.int .i64 b.scales), vt, vm]), (tabsR false vt lr lb b.tabs), (macsR false vm lk b.macs)] := hS72.keep [1, 2, 3, 4] (by decide) _ rfl rfl; clear hS72
   exact then_n ⟨k + 1, ⟨v5_, hA101.as _ rfl, (hS102.row_say (i := 0) rfl (by first | rw [offU_y (off_t (by assumption))] | rw [offU_n (off_f (by assumption))]) (by first | rw [offU_y (off_t (by assumption))] | rw [offU_n (off_f (by assumption))])), by omega⟩, by omega⟩
 ·skip
  rw [decide_eq_false hb43] at hA42
  refine c_false hA42 rfl ?_
  refine c_exit ?_
  refine then_exit ?_
  refine then_exit ?_
  refine blk_hit ?_
  refine then_n ?_
  refine c_seq ?_
  refine c_region ?_
  refine st hA42 (op_move rfl (hA42.ev rfl)) rfl rfl (by decide) fun a103 hA104 => ?_; clear hA42 a41
  refine st hA104 (op_assign rfl (hA104.ev rfl)) rfl rfl (by decide) fun a105 hA106 => ?_; clear hA104 a103
  refine st hA106 (op_assign rfl (evc _ _)) rfl rfl (by decide) fun a107 hA108 => ?_; clear hA106 a105
  refine wl_nil ?_
  refine then_n ?_
  refine c_ret ?_
  refine fin_run hA108 (.inl rfl) (run_results2 hA108 rfl (.tmp rfl) (.tmp rfl)) ?_
  have hz := hS40.keep [0] (by decide) [_] rfl rfl
  rw [show k = b.macs.length by omega] at hz
  exact ⟨_, rfl, hz⟩
end Go.Proofs.Ytohgladndklciaa

namespace Go.Hard
open Go.RowKit Go.Eng
def selU (ts : List TabD) (k : Nat) (i j : Int) : List Nat := (List.range k).filter fun q => decide ((ts.getD q tab0).frm = i) && decide ((ts.getD q tab0).dst = j)
def selT (ts : List TabD) (l : List Nat) : List TabD := l.map fun q => ts.getD q tab0
def selV (v : Nat → Value) (l : List Nat) : Nat → Value := fun p => v (l.getD p 0)
def bN (ts : List TabD) (k : Nat) (i j : Int) : Nat := (selU ts k i j).length
def bC (lr lb : Nat → Value) (ts : List TabD) (k : Nat) (i j : Int) : List Value := tabsC (selV lr (selU ts k i j)) (selV lb (selU ts k i j)) (selT ts (selU ts k i j))
theorem selT_len (ts : List TabD) (l : List Nat) : (selT ts l).length = l.length := by simp [selT]
theorem selU_lt {ts : List TabD} {k q : Nat} {i j : Int} (h : q ∈ selU ts k i j) : q < k := by
  unfold selU at h
  rw [List.mem_filter, List.mem_range] at h; exact h.1
section
variable {lr lb : Nat → Value} {ts : List TabD} {k : Nat} {i j : Int}
theorem bC_zero (h : bN ts k i j = 0) : bC lr lb ts k i j = [] := by
  have : selU ts k i j = [] := List.eq_nil_of_length_eq_zero h
  unfold bC; rw [this]; rfl
theorem sel_no (h : ¬ (i = (ts.getD k tab0).frm ∧ j = (ts.getD k tab0).dst)) : selU ts (k + 1) i j = selU ts k i j := by
  unfold selU; rw [List.range_succ, List.filter_append]
  have : (decide ((ts.getD k tab0).frm = i) && decide ((ts.getD k tab0).dst = j)) = false := by
    rw [Bool.and_eq_false_iff]
    rcases Decidable.em ((ts.getD k tab0).frm = i) with h1 | h1
    · exact .inr (decide_eq_false fun h2 => h ⟨h1.symm, h2.symm⟩)
    · exact .inl (decide_eq_false h1)
  rw [List.filter_cons, if_neg (by rw [this]; decide), List.filter_nil, List.append_nil]
theorem sel_yes : selU ts (k + 1) (ts.getD k tab0).frm (ts.getD k tab0).dst = selU ts k (ts.getD k tab0).frm (ts.getD k tab0).dst ++ [k] := by
  unfold selU; rw [List.range_succ, List.filter_append]; simp
theorem b_other (lr lb : Nat → Value) : ∀ a b, ¬ (a = (ts.getD k tab0).frm ∧ b = (ts.getD k tab0).dst) → bN ts (k + 1) a b = bN ts k a b ∧ bC lr lb ts (k + 1) a b = bC lr lb ts k a b := fun a b h => by
  unfold bN bC; rw [sel_no h]; exact ⟨rfl, rfl⟩
theorem bN_next : bN ts (k + 1) (ts.getD k tab0).frm (ts.getD k tab0).dst = bN ts k (ts.getD k tab0).frm (ts.getD k tab0).dst + 1 := by
  unfold bN; rw [sel_yes, List.length_append]; rfl
theorem bC_next : bC lr lb ts (k + 1) (ts.getD k tab0).frm (ts.getD k tab0).dst = bC lr lb ts k (ts.getD k tab0).frm (ts.getD k tab0).dst ++ [.int .i64 (ts.getD k tab0).frm, .int .i64 (ts.getD k tab0).dst, lr k, lb k, .int .i64 (ts.getD k tab0).err] := by
  unfold bC
  rw [sel_yes]
  generalize selU ts k (ts.getD k tab0).frm (ts.getD k tab0).dst = l
  rw [tabs_snoc]
  have e : selT ts (l ++ [k]) = selT ts l ++ [ts.getD k tab0] := by simp [selT]
  rw [e]
  unfold tabsC
  refine flatI_congr fun p hp => ?_
  rw [List.length_append, List.length_singleton, selT_len] at hp
  unfold tabC selV
  rw [selT_len]
  rcases Nat.lt_or_ge p l.length with h | h
  · rw [putV_old _ _ h, putV_old _ _ h, getD_old h]
  · obtain rfl : p = l.length := by omega
    rw [putV_new, putV_new, getD_new]
theorem tabs_sel {w : World} {v u : Value} {l : List Nat} (h : TabsAt w v lr lb ts) (hl : ∀ q ∈ l, q < ts.length) (hs : SlAt w u 5 l.length (tabsC (selV lr l) (selV lb l) (selT ts l))) : TabsAt w u (selV lr l) (selV lb l) (selT ts l) := by
  have at' : ∀ p, p < (selT ts l).length → (selT ts l).getD p tab0 = ts.getD (l.getD p 0) tab0 ∧ l.getD p 0 < ts.length := fun p hp => by
    rw [selT_len] at hp
    refine ⟨?_, hl _ ?_⟩
    · simp [selT, List.getD, List.getElem?_map, List.getElem?_eq_getElem hp]
    · simp only [List.getD, List.getElem?_eq_getElem hp, Option.getD_some]; exact List.getElem_mem hp
  refine ⟨by rw [selT_len]; exact hs, fun p hp => ?_, fun p hp => ?_⟩
  · have := h.rows _ (at' p hp).2
    unfold rowsN rowsC at this ⊢
    rw [(at' p hp).1]; exact this
  · have := h.brks _ (at' p hp).2
    unfold brkN brkC at this ⊢
    rw [(at' p hp).1]; exact this
theorem sel_at {l : List Nat} {p : Nat} (hp : p < l.length) : (selT ts l).getD p tab0 = ts.getD (l.getD p 0) tab0 := by
  simp [selT, List.getD, List.getElem?_map, List.getElem?_eq_getElem hp]
theorem bN_le (ts : List TabD) (k : Nat) (i j : Int) : bN ts k i j ≤ k := by
  unfold bN selU
  have := List.length_filter_le (fun q => decide ((ts.getD q tab0).frm = i) && decide ((ts.getD q tab0).dst = j)) (List.range k)
  rw [List.length_range] at this; exact this
end
end Go.Hard

namespace Go.Proofs.Ytohgladndklciaa
open Go.RowKit Go.Shelf Go.Eng Go.Hard
theorem bd_146_0ivva_1m (x0_0 : Int) (x0_1 : Value) (x0_2 : Value) (x1_0 : Option Nat) (w : World) : (Instr.build 146 #[(0, .agg #[(.int .i64 x0_0), x0_1, x0_2]), (1, (.map x1_0))]).run Try.prog w = .ok (.agg #[(.int .i64 x0_0), x0_1, x0_2, (.map x1_0)]) w := by kernel_rfl
theorem ze_106 : (Try.prog.info? 106).bind (·.zero) = some (Value.agg #[(Value.int .i64 0), (Value.int .i64 0), (Value.slice none 0 0), (Value.slice none 0 0), (Value.int .i64 0)]) := by kernel_rfl
theorem bd_162_0i_1i (x0_0 : Int) (x1_0 : Int) (w : World) : (Instr.build 162 #[(0, (.int .i64 x0_0)), (1, (.int .i64 x1_0))]).run Try.prog w = .ok (.agg #[(.int .i64 x0_0), (.int .i64 x1_0)]) w := by kernel_rfl
theorem ze_162 : (Try.prog.info? 162).bind (·.zero) = some (Value.agg #[(Value.int .i64 0), (Value.int .i64 0)]) := by kernel_rfl
theorem ty_162 : tyK Try.prog 162 = some (true, 2) := by kernel_rfl
theorem fd_146_1 : fldK Try.prog 146 1 = some 3 := by kernel_rfl
theorem ty_144 : tyK Try.prog 144 = some (false, 1) := by kernel_rfl
theorem bs_106_1_0iivvia (x0_0 : Int) (x0_1 : Int) (x0_2 : Value) (x0_3 : Value) (x0_4 : Int) : Instr.fill (fun i => some (i * 5, 5)) ((Array.range (1 * 5)).map ((Value.agg #[(Value.int .i64 0), (Value.int .i64 0), (Value.slice none 0 0), (Value.slice none 0 0), (Value.int .i64 0)]).cells[· % (Value.agg #[(Value.int .i64 0), (Value.int .i64 0), (Value.slice none 0 0), (Value.slice none 0 0), (Value.int .i64 0)]).cells.size]!)) [(0, .agg #[(.int .i64 x0_0), (.int .i64 x0_1), x0_2, x0_3, (.int .i64 x0_4)])] = some (([(.int .i64 x0_0), (.int .i64 x0_1), x0_2, x0_3, (.int .i64 x0_4)] : List Value).toArray) := by kernel_rfl
theorem zs_34 : (Try.prog.info? 34).bind (·.zero) = some (.slice none 0 0) := by kernel_rfl
theorem pair_162 : twoInts Try.prog 162 = true := by kernel_rfl
theorem un_144 : Try.prog.underlying 144 = some (.map 162 34) := by kernel_rfl
theorem el_106 : elK Try.prog 106 = some ((Value.agg #[(Value.int .i64 0), (Value.int .i64 0), (Value.slice none 0 0), (Value.slice none 0 0), (Value.int .i64 0)]), 5, 72) := by kernel_rfl
theorem bench_ok (b : BookD) (vt vm : Value) (lr lb lk : Nat → Value) (w : World) (hT : TabsAt w vt lr lb b.tabs) (hM : MacsAt w vm lk b.macs) (hth : ThinB b) :
  Calls Try.prog 86 #[(Value.agg #[(Value.int .i64 b.scales), vt, vm])] w (Ret fun v w' => ∃ bx bm es ck, v = bptr bx 0 ∧ MapOk bm es ck (bN b.tabs b.tabs.length) ∧ Sep NoB w w' [blk bx 146 [.int .i64 b.scales, vt, vm, .map (some bm)], (mapX true bm es ck es.size 106 5 (bN b.tabs b.tabs.length) (bC lr lb b.tabs b.tabs.length))]) := by
 refine calls_enter Try.func86 rfl fun a0 hA0 => ?_
 replace hA0 : Fr 36 [] [(0, (Value.agg #[(Value.int .i64 b.scales), vt, vm]))] a0 := hA0
 have htl9 := hth.tl
 have hS0 : Sep NoB w w [(tabsR false vt lr lb b.tabs), (macsR false vm lk b.macs)] := sep_ro ⟨rfl, hT, rfl, hM, trivial⟩
 refine c_seq ?_
 refine c_region ?_
 refine stw hA0 (op_box hS0 rfl (hA0.ev rfl) (cs := [(Value.int .i64 b.scales), vt, vm]) rfl) rfl rfl (by decide) ?_
 rintro a1 _ w3 ⟨b4, rfl, hS5⟩ hA2; clear hA0 hS0 a0
 refine st hA2 (op_assign rfl (evc _ _)) rfl rfl (by decide) fun a6 hA7 => ?_; clear hA2 a1
 refine wl_nil ?_
 refine then_n ?_
 refine c_seq ?_
 refine c_region ?_
 refine st hA7 (op_loadA rfl ty_37 (hA7.ev rfl) (hS5.bk 0 rfl) (l := [(Value.int .i64 b.scales), vt, vm]) rfl rfl) rfl rfl (by decide) fun a8 hA9 => ?_; clear hA7 a6
 refine stw hA9 (op_makeMapX (te := 106) (sz := 5) (n := bN b.tabs 0) (c := bC lr lb b.tabs 0) hS5 rfl) rfl rfl (by decide) ?_
 rintro a10 _ w12 ⟨bm, rfl, hS13⟩ hA11; clear hA9 hS5 a8
 refine st hA11 (op_build rfl (pv2 (hA11.ev rfl) (hA11.ev rfl)) (bd_146_0ivva_1m _ _ _ _)) rfl rfl (by decide) fun a14 hA15 => ?_; clear hA11 a10
 refine stw hA15 (op_box hS13 rfl (hA15.ev rfl) (cs := [(Value.int .i64 b.scales), vt, vm, (Value.map (some bm))]) rfl) rfl rfl (by decide) ?_
 rintro a16 _ w18 ⟨b19, rfl, hS20⟩ hA17; clear hA15 hS13 a14
 refine st hA17 (op_assign rfl (hA17.ev rfl)) rfl rfl (by decide) fun a21 hA22 => ?_; clear hA17 a16
 refine wl_nil ?_
 refine then_n ?_
 refine c_seq ?_
 refine c_seq ?_
 have hA23 := hA22.as [(3, (bptr b19 0)), (1, (bptr b4 0))] rfl; clear hA22
 refine c_region ?_
 refine st hA23 (op_field rfl fd_37_1 (hA23.ev rfl)) rfl rfl (by decide) fun a24 hA25 => ?_; clear hA23 a21
 refine st hA25 (op_load1 rfl ty_34 (hA25.ev rfl) (hS20.bk 2 rfl) rfl) rfl rfl (by decide) fun a26 hA27 => ?_; clear hA25 a24
 refine st hA27 (op_lenS rfl un_34 (hA27.ev rfl) (tabs_at (hS20.ok 3 _ rfl)).tabs) rfl rfl (by decide) fun a28 hA29 => ?_; clear hA27 a26
 refine st hA29 (op_move rfl (evc _ _)) rfl rfl (by decide) fun a30 hA31 => ?_; clear hA29 a28
 refine wl_nil ?_
 refine then_n ?_
 refine c_block ?_
 have hA32 := hA31.as [(14, (Value.int .i64 0)), (13, (Value.int .i64 (b.tabs.length : Int))), (12, vt), (3, (bptr b19 0))] rfl; clear hA31
 refine c_loop (G := Nat) (fun (k : Nat) a_ w_ => ∃ es_ : Array MapEntry, ∃ ck_ : Nat, Fr 36 [] [(14, (Value.int .i64 (k : Int))), (13, (Value.int .i64 (b.tabs.length : Int))), (12, vt), (3, (bptr b19 0))] a_ ∧ Sep NoB w w_ [(blk b19 146 [(Value.int .i64 b.scales), vt, vm, (Value.map (some bm))]), (mapX true bm es_ ck_ es_.size 106 5 (bN b.tabs k) (bC lr lb b.tabs k)), (blk b4 37 [(Value.int .i64 b.scales), vt, vm]), (tabsR false vt lr lb b.tabs), (macsR false vm lk b.macs)] ∧ (k ≤ b.tabs.length) ∧ (MapOk bm es_ ck_ (bN b.tabs k))) (fun k => b.tabs.length - k) 0 ⟨#[], 0, hA32.as _ rfl, hS20, by omega, (MapOk.none (fun _ _ => rfl))⟩ ?_
 clear hA32 hS20 a30
 rintro k a33 w35 ⟨es_, ck_, hA34, hS36, hk, hMO⟩
 refine c_seq ?_
 refine c_region ?_
 refine st hA34 (op_lss rfl (hA34.ev rfl) (hA34.ev rfl)) rfl rfl (by decide) fun a37 hA38 => ?_; clear hA34 a33
 refine wl_nil ?_
 refine then_n ?_
 refine c_seq ?_
 by_cases hb39 : (k : Int) < (b.tabs.length : Int)
 ·skip
  rw [decide_eq_true hb39] at hA38
  refine c_true hA38 rfl ?_
  refine c_skip ?_
  refine then_n ?_
  refine c_seq ?_
  refine c_block ?_
  refine c_seq ?_
  refine c_region ?_
  refine st hA38 (op_indexS rfl un_34 ty_106 (hA38.ev rfl) (i := k) (hA38.ev rfl) (tabs_at (hS36.ok 3 _ rfl)).tabs (by decide) (by omega)) rfl rfl (by decide) fun a40 hA41 => ?_; clear hA38 a37
  refine st hA41 (op_loadAE rfl ty_106 (hA41.ev rfl) (tabs_at (hS36.ok 3 _ rfl)).tabs (tabs_all (by omega)) rfl (by decide)) rfl rfl (by decide) fun a42 hA43 => ?_; clear hA41 a40
  refine stw hA43 (op_alloc hS36 rfl ze_106 (cs := [(Value.int .i64 0), (Value.int .i64 0), (Value.slice none 0 0), (Value.slice none 0 0), (Value.int .i64 0)]) rfl) rfl rfl (by decide) ?_
  rintro a44 _ w46 ⟨b47, rfl, hS48⟩ hA45; clear hA43 hS36 a42
  refine sts hA45 (op_store hS48 rfl ty_106 (hA45.ev rfl) (hA45.ev rfl) (i := 0) rfl (vs := [(Value.int .i64 ((b.tabs.getD k tab0).frm)), (Value.int .i64 ((b.tabs.getD k tab0).dst)), (lr k), (lb k), (Value.int .i64 ((b.tabs.getD k tab0).err))]) rfl rfl (all_c rfl (all_c rfl (all_c (SlAt.one ((tabs_at (hS48.ok 4 _ rfl)).row (i := k) (by omega))) (all_c (SlAt.one ((tabs_at (hS48.ok 4 _ rfl)).brk (i := k) (by omega))) (all_c rfl all_n))))) (Nat.le_of_ble_eq_true rfl)) rfl rfl ?_
  intro _ w49 hS50 hA51; clear hA45
  have hS52 : Sep NoB w w49 [(blk b47 106 [(Value.int .i64 ((b.tabs.getD k tab0).frm)), (Value.int .i64 ((b.tabs.getD k tab0).dst)), (lr k), (lb k), (Value.int .i64 ((b.tabs.getD k tab0).err))]), (blk b19 146 [(Value.int .i64 b.scales), vt, vm, (Value.map (some bm))]), (mapX true bm es_ ck_ es_.size 106 5 (bN b.tabs k) (bC lr lb b.tabs k)), (blk b4 37 [(Value.int .i64 b.scales), vt, vm]), (tabsR false vt lr lb b.tabs), (macsR false vm lk b.macs)] := hS50; clear hS50 hS48
  refine wl_nil ?_
  refine then_n ?_
  refine c_seq ?_
  refine c_region ?_
  refine st hA51 (op_field rfl fd_106_0 (hA51.ev rfl)) rfl rfl (by decide) fun a53 hA54 => ?_; clear hA51 a44
  refine st hA54 (op_load1 rfl ty_3 (hA54.ev rfl) (hS52.bk 0 rfl) rfl) rfl rfl (by decide) fun a55 hA56 => ?_; clear hA54 a53
  refine st hA56 (op_field rfl fd_106_1 (hA56.ev rfl)) rfl rfl (by decide) fun a57 hA58 => ?_; clear hA56 a55
  refine st hA58 (op_load1 rfl ty_3 (hA58.ev rfl) (hS52.bk 0 rfl) rfl) rfl rfl (by decide) fun a59 hA60 => ?_; clear hA58 a57
  refine st hA60 (op_build rfl (pv2 (hA60.ev rfl) (hA60.ev rfl)) (bd_162_0i_1i _ _)) rfl rfl (by decide) fun a61 hA62 => ?_; clear hA60 a59
  refine stw hA62 (op_alloc hS52 rfl ze_162 (cs := [(Value.int .i64 0), (Value.int .i64 0)]) rfl) rfl rfl (by decide) ?_
  rintro a63 _ w65 ⟨b66, rfl, hS67⟩ hA64; clear hA62 hS52 a61
  refine sts hA64 (op_store hS67 rfl ty_162 (hA64.ev rfl) (hA64.ev rfl) (i := 0) rfl (vs := [(Value.int .i64 ((b.tabs.getD k tab0).frm)), (Value.int .i64 ((b.tabs.getD k tab0).dst))]) rfl rfl rfl (Nat.le_of_ble_eq_true rfl)) rfl rfl ?_
  intro _ w68 hS69 hA70; clear hA64
  have hS71 : Sep NoB w w68 [(blk b66 162 [(Value.int .i64 ((b.tabs.getD k tab0).frm)), (Value.int .i64 ((b.tabs.getD k tab0).dst))]), (blk b47 106 [(Value.int .i64 ((b.tabs.getD k tab0).frm)), (Value.int .i64 ((b.tabs.getD k tab0).dst)), (lr k), (lb k), (Value.int .i64 ((b.tabs.getD k tab0).err))]), (blk b19 146 [(Value.int .i64 b.scales), vt, vm, (Value.map (some bm))]), (mapX true bm es_ ck_ es_.size 106 5 (bN b.tabs k) (bC lr lb b.tabs k)), (blk b4 37 [(Value.int .i64 b.scales), vt, vm]), (tabsR false vt lr lb b.tabs), (macsR false vm lk b.macs)] := hS69; clear hS69 hS67
  refine wl_nil ?_
  refine then_n ?_
  have hA72 := hA70.as [(6, (bptr b66 0)), (5, (bptr b47 0)), (14, (Value.int .i64 (k : Int))), (13, (Value.int .i64 (b.tabs.length : Int))), (12, vt), (3, (bptr b19 0))] rfl; clear hA70
  have hA73 := hA72.as [(6, (bptr b66 0)), (5, (bptr b47 0)), (14, (Value.int .i64 (k : Int))), (13, (Value.int .i64 (b.tabs.length : Int))), (12, vt), (3, (bptr b19 0))] rfl; clear hA72
  obtain ⟨es1, ck1, q, e, hMO1, hq1, hk1, hEn⟩ := map_entry ((b.tabs.getD k tab0).frm) ((b.tabs.getD k tab0).dst) hMO
  skip
  have hS74 : Sep NoB w w68 [(mapX true bm es_ ck_ es_.size 106 5 (bN b.tabs k) (bC lr lb b.tabs k)), (blk b66 162 [(Value.int .i64 ((b.tabs.getD k tab0).frm)), (Value.int .i64 ((b.tabs.getD k tab0).dst))]), (blk b47 106 [(Value.int .i64 ((b.tabs.getD k tab0).frm)), (Value.int .i64 ((b.tabs.getD k tab0).dst)), (lr k), (lb k), (Value.int .i64 ((b.tabs.getD k tab0).err))]), (blk b19 146 [(Value.int .i64 b.scales), vt, vm, (Value.map (some bm))]), (blk b4 37 [(Value.int .i64 b.scales), vt, vm]), (tabsR false vt lr lb b.tabs), (macsR false vm lk b.macs)] := hS71.keep [3, 0, 1, 2, 4, 5, 6] (by decide) _ rfl rfl; clear hS71
  refine c_drawCE mixed hA73 (mapX true bm es_ ck_ es_.size 106 5 (bN b.tabs k) (bC lr lb b.tabs k)) hS74 11 3 [(7, 3), (9, 7)] [[], [0], [1], [2], [], [], [5], [3, 4], [7], [6, 7, 8], [7]] [(fun (vs75 : Nat → Value) (v_ : Value) (rs_ : List Res) => v_ = (bptr b19 0) ∧ rs_ = []), (fun (vs75 : Nat → Value) (v_ : Value) (rs_ : List Res) => v_ = (bptr b19 0) ∧ rs_ = []), (fun (vs75 : Nat → Value) (v_ : Value) (rs_ : List Res) => v_ = (bptr b19 3) ∧ rs_ = []), (fun (vs75 : Nat → Value) (v_ : Value) (rs_ : List Res) => v_ = (Value.map (some bm)) ∧ rs_ = [(mapX true bm es_ ck_ es_.size 106 5 (bN b.tabs k) (bC lr lb b.tabs k))]), (fun (vs75 : Nat → Value) (v_ : Value) (rs_ : List Res) => v_ = (Value.agg #[(Value.int .i64 ((b.tabs.getD k tab0).frm)), (Value.int .i64 ((b.tabs.getD k tab0).dst))]) ∧ rs_ = []), (fun (vs75 : Nat → Value) (v_ : Value) (rs_ : List Res) => v_ = (Value.agg #[(Value.int .i64 ((b.tabs.getD k tab0).frm)), (Value.int .i64 ((b.tabs.getD k tab0).dst)), (lr k), (lb k), (Value.int .i64 ((b.tabs.getD k tab0).err))]) ∧ rs_ = []), (fun (vs75 : Nat → Value) (v_ : Value) (rs_ : List Res) => True ∧ rs_ = [(row v_ 106 5 1 [(Value.int .i64 ((b.tabs.getD k tab0).frm)), (Value.int .i64 ((b.tabs.getD k tab0).dst)), (lr k), (lb k), (Value.int .i64 ((b.tabs.getD k tab0).err))])]), (fun (vs75 : Nat → Value) (v_ : Value) (rs_ : List Res) => v_ = (Value.tuple #[e.val, .int .i64 (e.born : Int)]) ∧ rs_ = [(row e.val 106 5 (bN b.tabs k (b.tabs.getD k tab0).frm (b.tabs.getD k tab0).dst) (bC lr lb b.tabs k (b.tabs.getD k tab0).frm (b.tabs.getD k tab0).dst)), (mapX true bm es1 ck1 q 106 5 (bN b.tabs k) (bC lr lb b.tabs k))]), (fun (vs75 : Nat → Value) (v_ : Value) (rs_ : List Res) => v_ = e.val ∧ rs_ = []), (fun (vs75 : Nat → Value) (v_ : Value) (rs_ : List Res) => True ∧ rs_ = [(row v_ 106 5 (bN b.tabs k (b.tabs.getD k tab0).frm (b.tabs.getD k tab0).dst + 1) (bC lr lb b.tabs k (b.tabs.getD k tab0).frm (b.tabs.getD k tab0).dst ++ [.int .i64 (b.tabs.getD k tab0).frm, .int .i64 (b.tabs.getD k tab0).dst, lr k, lb k, .int .i64 (b.tabs.getD k tab0).err])), (mapX true bm es1 ck1 q 106 5 (bN b.tabs k) (bC lr lb b.tabs k))]), (fun (vs75 : Nat → Value) (v_ : Value) (rs_ : List Res) => v_ = (Value.int .i64 (e.born : Int)) ∧ rs_ = [])] (by decide +kernel) (by decide +kernel) (by decide +kernel) (by decide +kernel) (by decide +kernel) rfl rfl ⟨(fun _ _ _ _ _ h_ => h_), (fun _ _ _ _ _ h_ => h_), (fun _ _ _ _ _ h_ => h_), (fun _ _ _ _ _ h_ => h_), (fun _ _ _ _ _ h_ => h_), (fun _ _ _ _ _ h_ => h_), (fun _ _ _ _ _ h_ => h_), (fun _ _ _ _ _ h_ => h_), (fun _ _ _ _ _ h_ => h_), (fun _ _ _ _ _ h_ => h_), (fun _ _ _ _ _ h_ => h_), trivial⟩ ?_ ?_ ?_ ?_
  ·skip
   refine ⟨fun hj_ hj1_ a w vs75 hA hS hd => ?_, ?_⟩
   ·skip
    exact opG_of rfl (vv (op_move rfl (hA.ev rfl)) (And.intro rfl rfl))
   refine ⟨fun hj_ hj1_ a w vs75 hA hS hd => ?_, ?_⟩
   ·skip
    obtain ⟨e0, rs0, hy0, hp0⟩ := hd 0 (by decide)
    obtain ⟨hv0, hr0⟩ := hy0; subst hr0
    rw [hv0] at e0
    exact opG_of rfl (vv (op_nilCheck rfl (tmp_ev (slot_ev e0 rfl))) (And.intro rfl rfl))
   refine ⟨fun hj_ hj1_ a w vs75 hA hS hd => ?_, ?_⟩
   ·skip
    obtain ⟨e1, rs1, hy1, hp1⟩ := hd 1 (by decide)
    obtain ⟨hv1, hr1⟩ := hy1; subst hr1
    rw [hv1] at e1
    exact opG_of rfl (vv (op_field rfl fd_146_1 (tmp_ev (slot_ev e1 rfl))) (And.intro rfl rfl))
   refine ⟨fun _ hj_ => absurd rfl hj_, ?_⟩
   refine ⟨fun hj_ hj1_ a w vs75 hA hS hd => ?_, ?_⟩
   ·skip
    exact opG_of rfl (vv (op_loadA rfl ty_162 (hA.ev rfl) (hS.bk 0 rfl) (l := [(Value.int .i64 ((b.tabs.getD k tab0).frm)), (Value.int .i64 ((b.tabs.getD k tab0).dst))]) rfl rfl) (And.intro rfl rfl))
   refine ⟨fun hj_ hj1_ a w vs75 hA hS hd => ?_, ?_⟩
   ·skip
    exact opG_of rfl (vv (op_loadA rfl ty_106 (hA.ev rfl) (hS.bk 1 rfl) (l := [(Value.int .i64 ((b.tabs.getD k tab0).frm)), (Value.int .i64 ((b.tabs.getD k tab0).dst)), (lr k), (lb k), (Value.int .i64 ((b.tabs.getD k tab0).err))]) rfl rfl) (And.intro rfl rfl))
   refine ⟨fun hj_ hj1_ a w vs75 hA hS hd => ?_, ?_⟩
   ·skip
    obtain ⟨e5, rs5, hy5, hp5⟩ := hd 5 (by decide)
    obtain ⟨hv5, hr5⟩ := hy5; subst hr5
    rw [hv5] at e5
    exact opG_of rfl (vblt rfl (pv1 (tmp_ev (slot_ev e5 rfl))) un_34 ty_106 ze_106 (by decide) (cs := [(Value.int .i64 ((b.tabs.getD k tab0).frm)), (Value.int .i64 ((b.tabs.getD k tab0).dst)), (lr k), (lb k), (Value.int .i64 ((b.tabs.getD k tab0).err))]) (bs_106_1_0iivvia _ _ _ _ _) rfl (by decide) (fun _ => And.intro trivial rfl))
   refine ⟨fun hj_ => absurd hj_ (by decide), ?_⟩
   refine ⟨fun hj_ hj1_ a w vs75 hA hS hd => ?_, ?_⟩
   ·skip
    obtain ⟨e7, rs7, hy7, hp7⟩ := hd 7 (by decide)
    obtain ⟨hv7, hr7⟩ := hy7; subst hr7
    rw [hv7] at e7
    exact opG_of rfl (vv (op_extract rfl (tmp_ev (slot_ev e7 rfl)) rfl) (And.intro rfl rfl))
   refine ⟨fun hj_ => absurd hj_ (by decide), ?_⟩
   refine ⟨fun hj_ hj1_ a w vs75 hA hS hd => ?_, ?_⟩
   ·skip
    obtain ⟨e7, rs7, hy7, hp7⟩ := hd 7 (by decide)
    obtain ⟨hv7, hr7⟩ := hy7; subst hr7
    rw [hv7] at e7
    exact opG_of rfl (vv (op_extract rfl (tmp_ev (slot_ev e7 rfl)) rfl) (And.intro rfl rfl))
   trivial
  ·skip
   intro o_ ho_ a w vs75 Lr hA hd hL hS; obtain rfl := Option.some.inj ho_; clear ho_
   obtain ⟨e2, rs2, hy2, hp2⟩ := hd 2 (by decide)
   obtain ⟨hv2, hr2⟩ := hy2; subst hr2
   rw [hv2] at e2
   exact opG_of rfl (opY_mono (op_load1 rfl ty_144 (tmp_ev (slot_ev e2 rfl)) (hL.bk 2 rfl) rfl) (fun v_ w_ h_ => by obtain ⟨rfl, rfl⟩ := h_; exact ⟨⟨rfl, rfl⟩, hS⟩))
  ·skip
   refine ⟨fun o_ ho_ => ?_, ⟨fun o_ ho_ => ?_, trivial⟩⟩
   ·skip
    obtain rfl := Option.some.inj ho_; clear ho_
    intro a w vs75 rs0 Lr hA hs0 hy0 hd hL hS; obtain ⟨hv3, hr3⟩ := hy0; subst hr3; rw [hv3] at hs0
    obtain ⟨e4, rs4, hy4, hp4⟩ := hd 4 (by decide) (by decide)
    obtain ⟨hv4, hr4⟩ := hy4; subst hr4
    rw [hv4] at e4
    exact opG_of rfl (opY_mono (op_mapEntryF hS rfl un_144 pair_162 zs_34 (tmp_ev (slot_ev hs0 rfl)) (tmp_ev (slot_ev e4 rfl)) hMO (fun _ _ => bC_zero) hEn hq1 hk1) fun v_ w_ h_ => ⟨_, ⟨h_.1, rfl⟩, h_.2⟩)
   ·skip
    obtain rfl := Option.some.inj ho_; clear ho_
    intro a w vs75 rs0 Lr hA hs0 hy0 hd hL hS; obtain ⟨hv7, hr7⟩ := hy0; subst hr7; rw [hv7] at hs0
    obtain ⟨e6, rs6, hy6, hp6⟩ := hd 6 (by decide) (by decide)
    obtain ⟨hv6, hr6⟩ := hy6; subst hr6
    have hp6_0 := hp6 (by decide) _ (List.mem_of_getElem? (i := 0) rfl)
    obtain ⟨e8, rs8, hy8, hp8⟩ := hd 8 (by decide) (by decide)
    obtain ⟨hv8, hr8⟩ := hy8; subst hr8
    rw [hv8] at e8
    exact opG_of rfl (opY_mono (op_append hS rfl un_34 el_106 (tmp_ev (slot_ev e8 rfl)) (tmp_ev (slot_ev e6 rfl)) (i := 0) rfl (SlAt.of_row hp6_0) (all_c rfl (all_c rfl (all_c (((tabs_at (hL.ok 4 _ rfl)).row (i := k) (by omega)).one) (all_c (((tabs_at (hL.ok 4 _ rfl)).brk (i := k) (by omega)).one) (all_c rfl all_n))))) (by have := bN_le b.tabs k ((b.tabs.getD k tab0).frm) ((b.tabs.getD k tab0).dst); simp only [maxLen]; omega) (by have := bN_le b.tabs k ((b.tabs.getD k tab0).frm) ((b.tabs.getD k tab0).dst); omega)) fun v_ w_ h_ => ⟨_, And.intro trivial rfl, h_⟩)
  ·skip
   intro a76 w77 vs75 rsf hA78 hH hrq hS79; clear hA73 hS74
   have hrq_3 := hrq (7, 3) (by decide); have hrq_7 := hrq (9, 7) (by decide)
   obtain ⟨hs_0, rs_0, hy_0, hf_0⟩ := hH 0 (by decide); obtain ⟨hv_0, hr_0⟩ := hy_0; replace hf_0 := (hf_0 (by decide)).trans hr_0
   obtain ⟨hs_1, rs_1, hy_1, hf_1⟩ := hH 1 (by decide); obtain ⟨hv_1, hr_1⟩ := hy_1; replace hf_1 := (hf_1 (by decide)).trans hr_1
   obtain ⟨hs_2, rs_2, hy_2, hf_2⟩ := hH 2 (by decide); obtain ⟨hv_2, hr_2⟩ := hy_2; replace hf_2 := (hf_2 (by decide)).trans hr_2
   obtain ⟨hs_4, rs_4, hy_4, hf_4⟩ := hH 4 (by decide); obtain ⟨hv_4, hr_4⟩ := hy_4; replace hf_4 := (hf_4 (by decide)).trans hr_4
   obtain ⟨hs_5, rs_5, hy_5, hf_5⟩ := hH 5 (by decide); obtain ⟨hv_5, hr_5⟩ := hy_5; replace hf_5 := (hf_5 (by decide)).trans hr_5
   obtain ⟨hs_6, rs_6, hy_6, hf_6⟩ := hH 6 (by decide); obtain ⟨hv_6, hr_6⟩ := hy_6; replace hf_6 := (hf_6 (by decide)).trans hr_6
   obtain ⟨hs_8, rs_8, hy_8, hf_8⟩ := hH 8 (by decide); obtain ⟨hv_8, hr_8⟩ := hy_8; replace hf_8 := (hf_8 (by decide)).trans hr_8
   obtain ⟨hs_9, rs_9, hy_9, hf_9⟩ := hH 9 (by decide); obtain ⟨hv_9, hr_9⟩ := hy_9; replace hf_9 := (hf_9 (by decide)).trans hr_9
   obtain ⟨hs_10, rs_10, hy_10, hf_10⟩ := hH 10 (by decide); obtain ⟨hv_10, hr_10⟩ := hy_10; replace hf_10 := (hf_10 (by decide)).trans hr_10
   obtain ⟨hs_3, rs_3, hy_3, hf_3⟩ := hH 3 (by decide); obtain ⟨hv_3, hr_3⟩ := hy_3
   have hS80 : Sep NoB w w77 [(row (vs75 6) 106 5 1 [(Value.int .i64 ((b.tabs.getD k tab0).frm)), (Value.int .i64 ((b.tabs.getD k tab0).dst)), (lr k), (lb k), (Value.int .i64 ((b.tabs.getD k tab0).err))]), (row (vs75 9) 106 5 (bN b.tabs k (b.tabs.getD k tab0).frm (b.tabs.getD k tab0).dst + 1) (bC lr lb b.tabs k (b.tabs.getD k tab0).frm (b.tabs.getD k tab0).dst ++ [.int .i64 (b.tabs.getD k tab0).frm, .int .i64 (b.tabs.getD k tab0).dst, lr k, lb k, .int .i64 (b.tabs.getD k tab0).err])), (mapX true bm es1 ck1 q 106 5 (bN b.tabs k) (bC lr lb b.tabs k)), (blk b66 162 [(Value.int .i64 ((b.tabs.getD k tab0).frm)), (Value.int .i64 ((b.tabs.getD k tab0).dst))]), (blk b47 106 [(Value.int .i64 ((b.tabs.getD k tab0).frm)), (Value.int .i64 ((b.tabs.getD k tab0).dst)), (lr k), (lb k), (Value.int .i64 ((b.tabs.getD k tab0).err))]), (blk b19 146 [(Value.int .i64 b.scales), vt, vm, (Value.map (some bm))]), (blk b4 37 [(Value.int .i64 b.scales), vt, vm]), (tabsR false vt lr lb b.tabs), (macsR false vm lk b.macs)] := by rw [show catR rsf 0 11 = ([(row (vs75 6) 106 5 1 [(Value.int .i64 ((b.tabs.getD k tab0).frm)), (Value.int .i64 ((b.tabs.getD k tab0).dst)), (lr k), (lb k), (Value.int .i64 ((b.tabs.getD k tab0).err))]), (row (vs75 9) 106 5 (bN b.tabs k (b.tabs.getD k tab0).frm (b.tabs.getD k tab0).dst + 1) (bC lr lb b.tabs k (b.tabs.getD k tab0).frm (b.tabs.getD k tab0).dst ++ [.int .i64 (b.tabs.getD k tab0).frm, .int .i64 (b.tabs.getD k tab0).dst, lr k, lb k, .int .i64 (b.tabs.getD k tab0).err])), (mapX true bm es1 ck1 q 106 5 (bN b.tabs k) (bC lr lb b.tabs k))] : List Res) by (try simp only [catR, hf_0, hf_1, hf_2, hf_4, hf_5, hf_6, hf_8, hf_9, hf_10, hrq_3, hrq_7]); (try rfl)] at hS79; exact hS79
   rw [hv_3] at hs_3
   have hA81 : Fr 36 [] [(26, (Value.map (some bm))), (6, (bptr b66 0)), (5, (bptr b47 0)), (14, (Value.int .i64 (k : Int))), (13, (Value.int .i64 (b.tabs.length : Int))), (12, vt), (3, (bptr b19 0))] a76 := hA78.add (slot_ev hs_3 rfl); clear hA78
   rw [hv_10] at hs_10
   have hA82 : Fr 36 [] [(33, (Value.int .i64 (e.born : Int))), (26, (Value.map (some bm))), (6, (bptr b66 0)), (5, (bptr b47 0)), (14, (Value.int .i64 (k : Int))), (13, (Value.int .i64 (b.tabs.length : Int))), (12, vt), (3, (bptr b19 0))] a76 := hA81.add (slot_ev hs_10 rfl); clear hA81
   have hA83 : Fr 36 [] [(32, (vs75 9)), (33, (Value.int .i64 (e.born : Int))), (26, (Value.map (some bm))), (6, (bptr b66 0)), (5, (bptr b47 0)), (14, (Value.int .i64 (k : Int))), (13, (Value.int .i64 (b.tabs.length : Int))), (12, vt), (3, (bptr b19 0))] a76 := hA82.add (slot_ev hs_9 rfl); clear hA82
   clear hH hs_0 hs_1 hs_2 hs_4 hs_5 hs_6 hs_8 hs_9 hs_10 hs_3
   have hS84 : Sep NoB w w77 [(row (vs75 9) 106 5 (bN b.tabs k (b.tabs.getD k tab0).frm (b.tabs.getD k tab0).dst + 1) (bC lr lb b.tabs k (b.tabs.getD k tab0).frm (b.tabs.getD k tab0).dst ++ [.int .i64 (b.tabs.getD k tab0).frm, .int .i64 (b.tabs.getD k tab0).dst, lr k, lb k, .int .i64 (b.tabs.getD k tab0).err])), (mapX true bm es1 ck1 q 106 5 (bN b.tabs k) (bC lr lb b.tabs k)), (row (vs75 6) 106 5 1 [(Value.int .i64 ((b.tabs.getD k tab0).frm)), (Value.int .i64 ((b.tabs.getD k tab0).dst)), (lr k), (lb k), (Value.int .i64 ((b.tabs.getD k tab0).err))]), (blk b66 162 [(Value.int .i64 ((b.tabs.getD k tab0).frm)), (Value.int .i64 ((b.tabs.getD k tab0).dst))]), (blk b47 106 [(Value.int .i64 ((b.tabs.getD k tab0).frm)), (Value.int .i64 ((b.tabs.getD k tab0).dst)), (lr k), (lb k), (Value.int .i64 ((b.tabs.getD k tab0).err))]), (blk b19 146 [(Value.int .i64 b.scales), vt, vm, (Value.map (some bm))]), (blk b4 37 [(Value.int .i64 b.scales), vt, vm]), (tabsR false vt lr lb b.tabs), (macsR false vm lk b.macs)] := hS80.keep [1, 2, 0, 3, 4, 5, 6, 7, 8] (by decide) _ rfl rfl; clear hS80
   refine sts hA83 (op_entryStore (n' := bN b.tabs (k + 1)) (c' := bC lr lb b.tabs (k + 1)) hS84 rfl (hA83.ev rfl) (hA83.ev rfl) (hA83.ev rfl) hMO1 hq1 hk1 bN_next bC_next (b_other lr lb)) rfl rfl ?_
   intro _ w85 hS87 hA86; clear hA83 hS84
   refine wl_nil ?_
   refine blk_n ?_
   refine then_n ?_
   refine c_region ?_
   refine st hA86 (op_add rfl (hA86.ev rfl) (evc _ _) (by omega) (by omega)) rfl rfl (by decide) fun a88 hA89 => ?_; clear hA86 a76
   refine st hA89 (op_move rfl (hA89.ev rfl)) rfl rfl (by decide) fun a90 hA91 => ?_; clear hA89 a88
   refine wl_nil ?_
   have hS92 : Sep NoB w w85 [(blk b19 146 [(Value.int .i64 b.scales), vt, vm, (Value.map (some bm))]), (mapX true bm (es1.modify q fun e => { e with val := (vs75 9) }) ck1 ((es1.modify q fun e => { e with val := (vs75 9) }).size) 106 5 (bN b.tabs (k + 1)) (bC lr lb b.tabs (k + 1))), (blk b4 37 [(Value.int .i64 b.scales), vt, vm]), (tabsR false vt lr lb b.tabs), (macsR false vm lk b.macs)] := hS87.keep [4, 0, 5, 6, 7] (by decide) _ rfl rfl; clear hS87
   exact then_n ⟨k + 1, ⟨(es1.modify q fun e => { e with val := (vs75 9) }), ck1, hA91.as _ rfl, hS92, by omega, (hMO1.store hq1 hk1 (fun a_ b_ h_ => (b_other lr lb a_ b_ h_).1))⟩, by omega⟩
 ·skip
  rw [decide_eq_false hb39] at hA38
  refine c_false hA38 rfl ?_
  refine c_exit ?_
  refine then_exit ?_
  refine then_exit ?_
  refine blk_hit ?_
  refine then_n ?_
  refine c_seq ?_
  refine c_region ?_
  refine st hA38 (op_move rfl (hA38.ev rfl)) rfl rfl (by decide) fun a93 hA94 => ?_; clear hA38 a37
  refine st hA94 (op_assign rfl (hA94.ev rfl)) rfl rfl (by decide) fun a95 hA96 => ?_; clear hA94 a93
  refine wl_nil ?_
  refine then_n ?_
  refine c_ret ?_
  refine fin_run hA96 (.inl rfl) (run_results1 hA96 rfl (.tmp rfl)) ?_
  have hkk : k = b.tabs.length := by omega
  subst hkk
  exact ⟨_, bm, es_, ck_, rfl, hMO, hS36.keep [0, 1] (by decide) _ rfl rfl⟩
end Go.Proofs.Ytohgladndklciaa

namespace Go.Hard
open Go.RowKit Go.Eng
def fromTo (ts : List TabD) (i j : Int) : List TabD := ts.filter fun t => decide (t.frm = i) && decide (t.dst = j)
def toL (n : Nat) (ts : List TabD) (k : Nat) : List TabD := (List.range n).flatMap fun (f : Nat) => fromTo ts (f : Int) (k : Int)
def rest0 (n : Nat) (ts : List TabD) (k : Nat) : List TabD := ((List.range n).drop k).flatMap (toL n ts)
def rest1 (n : Nat) (ts : List TabD) (k k2 : Nat) : List TabD := ((List.range n).drop k2).flatMap fun (f : Nat) => fromTo ts (f : Int) (k : Int)
theorem drop_range {n k : Nat} (h : k < n) : (List.range n).drop k = k :: (List.range n).drop (k + 1) := by
  rw [List.drop_eq_getElem_cons (by simpa using h), List.getElem_range]
theorem rest0_next {n k : Nat} {ts : List TabD} (h : k < n) : rest0 n ts k = toL n ts k ++ rest0 n ts (k + 1) := by
  unfold rest0; rw [drop_range h, List.flatMap_cons]
theorem rest0_end {n k : Nat} {ts : List TabD} (h : n ≤ k) : rest0 n ts k = [] := by
  unfold rest0; rw [List.drop_eq_nil_of_le (by simpa using h)]; rfl
theorem rest1_zero (n k : Nat) (ts : List TabD) : rest1 n ts k 0 = toL n ts k := rfl
theorem rest1_next {n k k2 : Nat} {ts : List TabD} (h : k2 < n) : rest1 n ts k k2 = fromTo ts (k2 : Int) (k : Int) ++ rest1 n ts k (k2 + 1) := by
  unfold rest1; rw [drop_range h, List.flatMap_cons]
theorem rest1_end {n k k2 : Nat} {ts : List TabD} (h : n ≤ k2) : rest1 n ts k k2 = [] := by
  unfold rest1; rw [List.drop_eq_nil_of_le (by simpa using h)]; rfl
theorem getD_range_map (ts : List TabD) : (List.range ts.length).map (fun q => ts.getD q tab0) = ts := by
  refine List.ext_getElem (by simp) fun i h1 h2 => ?_
  simp [List.getD, List.getElem?_eq_getElem h2]
theorem sel_is (ts : List TabD) (i j : Int) : selT ts (selU ts ts.length i j) = fromTo ts i j := by
  unfold selT selU fromTo
  have h := getD_range_map ts
  conv => rhs; rw [← h]
  rw [List.filter_map]; rfl
theorem sel_scales {ts : List TabD} {i j : Int} {p : Nat} (hp : p < bN ts ts.length i j) : ((selT ts (selU ts ts.length i j)).getD p tab0).frm = i ∧ ((selT ts (selU ts ts.length i j)).getD p tab0).dst = j ∧ (selT ts (selU ts ts.length i j)).getD p tab0 ∈ ts := by
  have hl : p < (selT ts (selU ts ts.length i j)).length := by rw [selT_len]; exact hp
  have hm : (selT ts (selU ts ts.length i j)).getD p tab0 ∈ fromTo ts i j := by
    rw [← sel_is]; simp only [List.getD, List.getElem?_eq_getElem hl, Option.getD_some]; exact List.getElem_mem hl
  unfold fromTo at hm
  rw [List.mem_filter, Bool.and_eq_true, decide_eq_true_eq, decide_eq_true_eq] at hm
  exact ⟨hm.2.1, hm.2.2, hm.1⟩
theorem sel_rl {b : BookD} (h : ThinB b) (l : List Nat) (p : Nat) : ((selT b.tabs l).getD p tab0).rows.length ≤ 1000000 ∧ ((selT b.tabs l).getD p tab0).brk.length ≤ 1000000 := by
  rcases Nat.lt_or_ge p l.length with hp | hp
  · rw [sel_at hp]; exact ⟨h.rl _, h.bl _⟩
  · rw [getD_out (by rw [selT_len]; exact hp)]; exact ⟨by decide, by decide⟩
def Cut0 (n : Nat) (ts : List TabD) (s : Spans) (k : Nat) (x : Spans) : Prop := (rest0 n ts k).foldl goS (x, false) = passF (orderF n ts) s
def Cut1 (n : Nat) (ts : List TabD) (s : Spans) (k k2 : Nat) (x : Spans) : Prop := (rest1 n ts k k2 ++ rest0 n ts (k + 1)).foldl goS (x, false) = passF (orderF n ts) s
def Cut2 (n : Nat) (ts : List TabD) (s : Spans) (k k2 k3 : Nat) (x : Spans) : Prop := ((fromTo ts (k2 : Int) (k : Int)).drop k3 ++ (rest1 n ts k (k2 + 1) ++ rest0 n ts (k + 1))).foldl goS (x, false) = passF (orderF n ts) s
section
variable {n : Nat} {ts : List TabD} {s x : Spans} {k k2 k3 : Nat}
theorem cut_00 : Cut0 n ts s 0 s := rfl
theorem cut_01 (hk : k < n) (h : Cut0 n ts s k x) : Cut1 n ts s k 0 x := by
  unfold Cut1; rw [rest1_zero, ← rest0_next hk]; exact h
theorem cut_12 (hk : k2 < n) (h : Cut1 n ts s k k2 x) : Cut2 n ts s k k2 0 x := by
  unfold Cut2; rw [List.drop_zero, ← List.append_assoc, ← rest1_next hk]; exact h
theorem cut_21 (hk : bN ts ts.length (k2 : Int) (k : Int) ≤ k3) (h : Cut2 n ts s k k2 k3 x) : Cut1 n ts s k (k2 + 1) x := by
  unfold Cut2 at h
  rw [List.drop_eq_nil_of_le (by rw [← sel_is, selT_len]; exact hk), List.nil_append] at h; exact h
theorem cut_10 (hk : n ≤ k2) (h : Cut1 n ts s k k2 x) : Cut0 n ts s (k + 1) x := by
  unfold Cut1 at h; rw [rest1_end hk, List.nil_append] at h; exact h
theorem cut_end (hk : n ≤ k) (h : Cut0 n ts s k x) : passF (orderF n ts) s = (x, false) := by
  unfold Cut0 at h; rw [rest0_end hk] at h; exact h.symm
theorem cut_go (hk : k3 < bN ts ts.length (k2 : Int) (k : Int)) (h : Cut2 n ts s k k2 k3 x) : ((fromTo ts (k2 : Int) (k : Int)).drop (k3 + 1) ++ (rest1 n ts k (k2 + 1) ++ rest0 n ts (k + 1))).foldl goS (goS (x, false) ((selT ts (selU ts ts.length (k2 : Int) (k : Int))).getD k3 tab0)) = passF (orderF n ts) s := by
  unfold Cut2 at h
  have hl : k3 < (fromTo ts (k2 : Int) (k : Int)).length := by rw [← sel_is, selT_len]; exact hk
  rw [List.drop_eq_getElem_cons hl, List.cons_append, List.foldl_cons] at h
  rw [sel_is, show (fromTo ts (k2 : Int) (k : Int)).getD k3 tab0 = (fromTo ts (k2 : Int) (k : Int))[k3] by simp [List.getD, List.getElem?_eq_getElem hl]]
  exact h
theorem cut_brk (hk : k3 < bN ts ts.length (k2 : Int) (k : Int)) (h : Cut2 n ts s k k2 k3 x) (he : (at' x k).2 < (at' x k).1) : passF (orderF n ts) s = (x, true) := by
  have h1 := cut_go hk h
  have hd := (sel_scales hk).2.1
  have : goS (x, false) ((selT ts (selU ts ts.length (k2 : Int) (k : Int))).getD k3 tab0) = (x, true) := by
    unfold goS; rw [hd, Int.toNat_natCast, if_neg (show ¬ false = true by decide), if_pos he]
  rw [this, go_stop] at h1
  exact h1.symm
theorem cut_y (hk : k3 < bN ts ts.length (k2 : Int) (k : Int)) (h : Cut2 n ts s k k2 k3 x) (he : ¬ (at' x k).2 < (at' x k).1) (hc : convB ((selT ts (selU ts ts.length (k2 : Int) (k : Int))).getD k3 tab0) (at' x k2) = true) :
    Cut2 n ts s k k2 (k3 + 1) (x.set k (cutR (at' x k) (convF ((selT ts (selU ts ts.length (k2 : Int) (k : Int))).getD k3 tab0) (at' x k2)))) := by
  have h1 := cut_go hk h
  have hd := sel_scales hk
  unfold Cut2
  rw [← h1]
  congr 1
  unfold goS stepF
  rw [hd.2.1, hd.1, Int.toNat_natCast, Int.toNat_natCast, if_neg (show ¬ false = true by decide), if_neg he, if_pos hc]
theorem cut_n (hk : k3 < bN ts ts.length (k2 : Int) (k : Int)) (h : Cut2 n ts s k k2 k3 x) (he : ¬ (at' x k).2 < (at' x k).1) (hc : convB ((selT ts (selU ts ts.length (k2 : Int) (k : Int))).getD k3 tab0) (at' x k2) = false) :
    Cut2 n ts s k k2 (k3 + 1) x := by
  have h1 := cut_go hk h
  have hd := sel_scales hk
  unfold Cut2
  rw [← h1]
  congr 1
  unfold goS stepF
  rw [hd.2.1, hd.1, Int.toNat_natCast, Int.toNat_natCast, if_neg (show ¬ false = true by decide), if_neg he, if_neg (by rw [hc]; decide)]
end
theorem full_any {n : Nat} {s : Spans} (h : n ≤ s.length) : (!(List.range (s.take n).length).any fun i => decide (((s.take n).getD i (0, 0)).2 < ((s.take n).getD i (0, 0)).1)) = fullB n s := by
  rw [List.length_take, Nat.min_eq_left h, Bool.eq_iff_iff, Bool.not_eq_true', List.any_eq_false, full_iff]
  have at'' : ∀ i, i < n → (s.take n).getD i (0, 0) = at' s i := fun i hi => by
    unfold at'; simp [List.getD, List.getElem?_take, hi]
  constructor
  · intro h1 i hi
    have := h1 i (List.mem_range.2 hi)
    rw [at'' i hi, decide_eq_true_eq] at this
    omega
  · intro h1 i hi
    have hi := List.mem_range.1 hi
    have := h1 i hi
    rw [at'' i hi, decide_eq_true_eq]
    omega
end Go.Hard

namespace Go.Proofs.Ytohgladndklciaa
open Go.RowKit Go.Shelf Go.Eng Go.Hard
theorem fd_98_0 : fldK Try.prog 98 0 = some 0 := by kernel_rfl
theorem fd_98_1 : fldK Try.prog 98 1 = some 1 := by kernel_rfl
theorem en_83 : ∀ args w, (callFunc 83 args).run Try.prog w = .ok (.enter 83 args) w := enters_of Try.func83 (by kernel_rfl) rfl
theorem en_84 : ∀ args w, (callFunc 84 args).run Try.prog w = .ok (.enter 84 args) w := enters_of Try.func84 (by kernel_rfl) rfl
theorem en_85 : ∀ args w, (callFunc 85 args).run Try.prog w = .ok (.enter 85 args) w := enters_of Try.func85 (by kernel_rfl) rfl
theorem en_86 : ∀ args w, (callFunc 86 args).run Try.prog w = .ok (.enter 86 args) w := enters_of Try.func86 (by kernel_rfl) rfl
theorem right_ok (b : BookD) (vt vm : Value) (lr lb lk : Nat → Value) (w : World) (hT : TabsAt w vt lr lb b.tabs) (hM : MacsAt w vm lk b.macs) (hth : ThinB b) (x1 x2 : Int) (b2 : Nat) (g2 : (blk b2 37 [.int .i64 b.scales, vt, vm]).p w) :
  Calls Try.prog 83 #[(Value.agg #[(Value.int .i64 x1), (Value.int .i64 x2)]), (bptr b2 0)] w (Ret fun v w' => v = .bool (readB b (x1, x2)) ∧ Ext NoB w w') := by
 refine calls_enter Try.func83 rfl fun a0 hA0 => ?_
 replace hA0 : Fr 16 [] [(0, (Value.agg #[(Value.int .i64 x1), (Value.int .i64 x2)])), (1, (bptr b2 0))] a0 := hA0
 have hml9 := hth.ml
 have hS0 : Sep NoB w w [(rob b2 37 [(Value.int .i64 b.scales), vt, vm]), (tabsR false vt lr lb b.tabs), (macsR false vm lk b.macs)] := sep_ro ⟨rfl, g2, rfl, hT, rfl, hM, trivial⟩
 refine c_seq ?_
 refine c_region ?_
 refine stw hA0 (op_box hS0 rfl (hA0.ev rfl) (cs := [(Value.int .i64 x1), (Value.int .i64 x2)]) rfl) rfl rfl (by decide) ?_
 rintro a1 _ w3 ⟨b4, rfl, hS5⟩ hA2; clear hA0 hS0 a0
 refine st hA2 (op_assign rfl (evc _ _)) rfl rfl (by decide) fun a6 hA7 => ?_; clear hA2 a1
 refine wl_nil ?_
 refine then_n ?_
 refine c_seq ?_
 refine c_region ?_
 refine st hA7 (op_field rfl fd_98_0 (hA7.ev rfl)) rfl rfl (by decide) fun a8 hA9 => ?_; clear hA7 a6
 refine st hA9 (op_load1 rfl ty_3 (hA9.ev rfl) (hS5.bk 0 rfl) rfl) rfl rfl (by decide) fun a10 hA11 => ?_; clear hA9 a8
 refine st hA11 (op_field rfl fd_37_2 (hA11.ev rfl)) rfl rfl (by decide) fun a12 hA13 => ?_; clear hA11 a10
 refine st hA13 (op_load1 rfl ty_35 (hA13.ev rfl) (hS5.rk 1 rfl) rfl) rfl rfl (by decide) fun a14 hA15 => ?_; clear hA13 a12
 refine st hA15 (op_lenS rfl un_35 (hA15.ev rfl) (macs_at (hS5.ok 3 _ rfl)).macs) rfl rfl (by decide) fun a16 hA17 => ?_; clear hA15 a14
 refine st hA17 (op_sub rfl (hA17.ev rfl) (evc _ _) (by omega) (by omega)) rfl rfl (by decide) fun a18 hA19 => ?_; clear hA17 a16
 refine stw hA19 (op_call rfl en_47 (ev3 (hA19.ev rfl) (evc _ _) (hA19.ev rfl)) (within_ok _ _ _ _)) rfl rfl (by decide) ?_
 rintro a20 _ W_ ⟨rfl, hW_⟩ hA21; have hW2_ := hW_.symm; subst hW2_; clear hW_ hA19 a18
 refine st hA21 (op_move rfl (hA21.ev rfl)) rfl rfl (by decide) fun a23 hA24 => ?_; clear hA21 a20
 rcases Bool.eq_false_or_eq_true ((inB x1 0 ((b.macs.length : Int) - 1))) with hb25 | hb25
 ·skip
  rw [hb25] at hA24
  refine stg hA24 (op_field rfl fd_98_1 (hA24.ev rfl)) rfl rfl rfl rfl (by decide) fun a26 hA27 => ?_; clear hA24 a23
  refine stg hA27 (op_load1 rfl ty_3 (hA27.ev rfl) (hS5.bk 0 rfl) rfl) rfl rfl rfl rfl (by decide) fun a28 hA29 => ?_; clear hA27 a26
  refine stwg hA29 (op_call rfl en_70 (ev1 (hA29.ev rfl)) (value_ok _ _)) rfl rfl rfl rfl (by decide) ?_
  rintro a30 _ w32 ⟨rfl, hE33⟩ hA31; have hS34 := hS5.step hE33; clear hE33 hA29 hS5 a28
  refine st hA31 (op_pick_t rfl (hA31.ev rfl) (hA31.ev rfl)) rfl rfl (by decide) fun a35 hA36 => ?_; clear hA31 a30
  refine st hA36 (op_assign rfl (hA36.ev rfl)) rfl rfl (by decide) fun a37 hA38 => ?_; clear hA36 a35
  refine wl_nil ?_
  refine then_n ?_
  refine c_ret ?_
  refine fin_run hA38 (.inl rfl) (run_results1 hA38 rfl (.tmp rfl)) ?_
  exact ⟨congrArg Value.bool (by unfold readB; simp [*]), hS34.ext⟩
 ·skip
  rw [hb25] at hA24
  refine skp hA24 rfl rfl rfl rfl rfl (by decide) fun a39 hA40 => ?_; clear hA24 a23
  refine skp hA40 rfl rfl rfl rfl rfl (by decide) fun a41 hA42 => ?_; clear hA40 a39
  refine skp hA42 rfl rfl rfl rfl rfl (by decide) fun a43 hA44 => ?_; clear hA42 a41
  refine st hA44 (op_pick_f rfl (hA44.ev rfl) (evc _ _)) rfl rfl (by decide) fun a45 hA46 => ?_; clear hA44 a43
  refine st hA46 (op_assign rfl (hA46.ev rfl)) rfl rfl (by decide) fun a47 hA48 => ?_; clear hA46 a45
  refine wl_nil ?_
  refine then_n ?_
  refine c_ret ?_
  refine fin_run hA48 (.inl rfl) (run_results1 hA48 rfl (.tmp rfl)) ?_
  exact ⟨congrArg Value.bool (by unfold readB; simp [*]), hS5.ext⟩
theorem notoff_ok (b : BookD) (vt vm : Value) (lr lb lk : Nat → Value) (w : World) (hT : TabsAt w vt lr lb b.tabs) (hM : MacsAt w vm lk b.macs) (hth : ThinB b) (x1 x2 : Int) (b2 : Nat) (g2 : (blk b2 37 [.int .i64 b.scales, vt, vm]).p w) (hb : BookV b) (hx : 0 ≤ x1 ∧ x1 ≤ (b.macs.length : Int) - 1) :
  Calls Try.prog 85 #[(Value.agg #[(Value.int .i64 x1), (Value.int .i64 x2)]), (bptr b2 0)] w (Ret fun v w' => v = .bool (!offB (b.macs.getD x1.toNat mac0)) ∧ Ext NoB w w') := by
 refine calls_enter Try.func85 rfl fun a0 hA0 => ?_
 replace hA0 : Fr 13 [] [(0, (Value.agg #[(Value.int .i64 x1), (Value.int .i64 x2)])), (1, (bptr b2 0))] a0 := hA0
 have hml9 := hth.ml
 have hS0 : Sep NoB w w [(rob b2 37 [(Value.int .i64 b.scales), vt, vm]), (tabsR false vt lr lb b.tabs), (macsR false vm lk b.macs)] := sep_ro ⟨rfl, g2, rfl, hT, rfl, hM, trivial⟩
 refine c_seq ?_
 refine c_region ?_
 refine stw hA0 (op_box hS0 rfl (hA0.ev rfl) (cs := [(Value.int .i64 x1), (Value.int .i64 x2)]) rfl) rfl rfl (by decide) ?_
 rintro a1 _ w3 ⟨b4, rfl, hS5⟩ hA2; clear hA0 hS0 a0
 refine st hA2 (op_assign rfl (evc _ _)) rfl rfl (by decide) fun a6 hA7 => ?_; clear hA2 a1
 refine wl_nil ?_
 refine then_n ?_
 refine c_seq ?_
 refine c_region ?_
 refine st hA7 (op_field rfl fd_37_2 (hA7.ev rfl)) rfl rfl (by decide) fun a8 hA9 => ?_; clear hA7 a6
 refine st hA9 (op_load1 rfl ty_35 (hA9.ev rfl) (hS5.rk 1 rfl) rfl) rfl rfl (by decide) fun a10 hA11 => ?_; clear hA9 a8
 refine st hA11 (op_field rfl fd_98_0 (hA11.ev rfl)) rfl rfl (by decide) fun a12 hA13 => ?_; clear hA11 a10
 refine st hA13 (op_load1 rfl ty_3 (hA13.ev rfl) (hS5.bk 0 rfl) rfl) rfl rfl (by decide) fun a14 hA15 => ?_; clear hA13 a12
 refine st hA15 (op_indexS rfl un_35 ty_103 (hA15.ev rfl) (i := x1.toNat) ((hA15.ev rfl).trans (int_nat (by omega))) (macs_at (hS5.ok 3 _ rfl)).macs (by decide) (by omega)) rfl rfl (by decide) fun a16 hA17 => ?_; clear hA15 a14
 refine st hA17 (op_loadAE rfl ty_103 (hA17.ev rfl) (macs_at (hS5.ok 3 _ rfl)).macs (macs_all (by omega)) rfl (by decide)) rfl rfl (by decide) fun a18 hA19 => ?_; clear hA17 a16
 refine stw hA19 (op_call rfl en_67 (ev1 (hA19.ev rfl)) (bias_ok _ (b.macs.getD x1.toNat mac0) _ _ ((macs_at (hS5.ok 3 _ rfl)).blk (i := x1.toNat) (by omega)) (hb.mac (by omega)) (hth.kl _))) rfl rfl (by decide) ?_
 rintro a20 _ w22 ⟨rfl, hE23⟩ hA21; have hS24 := hS5.step hE23; clear hE23 hA19 hS5 a18
 refine stw hA21 (op_call rfl en_68 (ev1 (hA21.ev rfl)) (empty_ok _ _ _)) rfl rfl (by decide) ?_
 rintro a25 _ w27 ⟨rfl, hE28⟩ hA26; have hS29 := hS24.step hE28; clear hE28 hA21 hS24 a20
 refine st hA26 (op_not rfl (hA26.ev rfl)) rfl rfl (by decide) fun a30 hA31 => ?_; clear hA26 a25
 refine st hA31 (op_assign rfl (hA31.ev rfl)) rfl rfl (by decide) fun a32 hA33 => ?_; clear hA31 a30
 refine wl_nil ?_
 refine then_n ?_
 refine c_ret ?_
 refine fin_run hA33 (.inl rfl) (run_results1 hA33 rfl (.tmp rfl)) ?_
 exact ⟨rfl, hS29.ext⟩
theorem read_yes (b : BookD) (vt vm : Value) (lr lb lk : Nat → Value) (w : World) (hT : TabsAt w vt lr lb b.tabs) (hM : MacsAt w vm lk b.macs) (hth : ThinB b) (l : List (Int × Int)) (xl : Value) (hxl : SlAt w xl 2 l.length (pairs l)) (hlb : l.length ≤ 1000000) (he : checkF b = 0) (hr : readF b l = 0) :
  Calls Try.prog 56 #[(Value.agg #[(Value.int .i64 b.scales), vt, vm]), xl] w (Ret fun v w' => ∃ bx bm es ck, v = .tuple #[bptr bx 0, .int .i64 0] ∧ MapOk bm es ck (bN b.tabs b.tabs.length) ∧ Sep NoB w w' [blk bx 146 [.int .i64 b.scales, vt, vm, .map (some bm)], (mapX true bm es ck es.size 106 5 (bN b.tabs b.tabs.length) (bC lr lb b.tabs b.tabs.length))]) := by
 refine calls_enter Try.func56 rfl fun a0 hA0 => ?_
 replace hA0 : Fr 30 [] [(0, (Value.agg #[(Value.int .i64 b.scales), vt, vm])), (1, xl)] a0 := hA0
 have hS0 : Sep NoB w w [(tabsR false vt lr lb b.tabs), (macsR false vm lk b.macs), (sl xl 2 l.length (pairs l))] := sep_ro ⟨rfl, hT, rfl, hM, rfl, hxl, trivial⟩
 refine c_seq ?_
 refine c_region ?_
 refine stw hA0 (op_box hS0 rfl (hA0.ev rfl) (cs := [(Value.int .i64 b.scales), vt, vm]) rfl) rfl rfl (by decide) ?_
 rintro a1 _ w3 ⟨b4, rfl, hS5⟩ hA2; clear hA0 hS0 a0
 refine st hA2 (op_assign rfl (evc _ _)) rfl rfl (by decide) fun a6 hA7 => ?_; clear hA2 a1
 refine st hA7 (op_assign rfl (evc _ _)) rfl rfl (by decide) fun a8 hA9 => ?_; clear hA7 a6
 refine wl_nil ?_
 refine then_n ?_
 refine c_seq ?_
 refine c_seq ?_
 refine c_region ?_
 refine st hA9 (op_loadA rfl ty_37 (hA9.ev rfl) (hS5.bk 0 rfl) (l := [(Value.int .i64 b.scales), vt, vm]) rfl rfl) rfl rfl (by decide) fun a10 hA11 => ?_; clear hA9 a8
 refine stw hA11 (op_call rfl en_32 (ev1 (hA11.ev rfl)) (check_book b vt vm lr lb lk _ (tabs_at (hS5.ok 1 _ rfl)) (macs_at (hS5.ok 2 _ rfl)) hth)) rfl rfl (by decide) ?_
 rintro a12 _ w14 ⟨rfl, hE15⟩ hA13; have hS16 := hS5.step hE15; clear hE15 hA11 hS5 a10
 refine st hA13 (op_assign rfl (hA13.ev rfl)) rfl rfl (by decide) fun a17 hA18 => ?_; clear hA13 a12
 refine wl_nil ?_
 refine then_n ?_
 refine c_seq ?_
 refine c_region ?_
 refine st hA18 (op_move rfl (hA18.ev rfl)) rfl rfl (by decide) fun a19 hA20 => ?_; clear hA18 a17
 refine st hA20 (op_neq rfl (hA20.ev rfl) (evc _ _)) rfl rfl (by decide) fun a21 hA22 => ?_; clear hA20 a19
 have hd23 : (checkF b) = 0 := he
 rw [decide_eq_true hd23] at hA22
 refine wl_nil ?_
 refine then_n ?_
 refine c_false hA22 rfl ?_
 refine c_skip ?_
 refine then_n ?_
 refine c_seq ?_
 have hA24 := hA22.as [(2, (bptr b4 0)), (1, xl)] rfl; clear hA22
 refine c_region ?_
 refine st hA24 (op_makeFunc rfl ev0 (ev1 (hA24.ev rfl))) rfl rfl (by decide) fun a25 hA26 => ?_; clear hA24 a21
 refine st hA26 (op_assign rfl (hA26.ev rfl)) rfl rfl (by decide) fun a27 hA28 => ?_; clear hA26 a25
 refine wl_nil ?_
 refine then_n ?_
 refine c_seq ?_
 refine c_block ?_
 refine c_seq ?_
 refine c_region ?_
 refine st hA28 (op_move rfl (hA28.ev rfl)) rfl rfl (by decide) fun a29 hA30 => ?_; clear hA28 a27
 refine st hA30 (op_lenS rfl un_53 (hA30.ev rfl) (hS16.sk 3 rfl)) rfl rfl (by decide) fun a31 hA32 => ?_; clear hA30 a29
 refine st hA32 (op_gtr rfl (hA32.ev rfl) (evc _ _)) rfl rfl (by decide) fun a33 hA34 => ?_; clear hA32 a31
 refine st hA34 (op_assign rfl (hA34.ev rfl)) rfl rfl (by decide) fun a35 hA36 => ?_; clear hA34 a33
 refine wl_nil ?_
 refine then_n ?_
 by_cases hb37 : 8 < (l.length : Int)
 ·skip
  rw [decide_eq_true hb37] at hA36
  refine c_true hA36 rfl ?_
  refine c_seq ?_
  have hA38 := hA36.as [] rfl; clear hA36
  refine c_region ?_
  refine st hA38 (op_assign rfl (evc _ _)) rfl rfl (by decide) fun a39 hA40 => ?_; clear hA38 a35
  refine st hA40 (op_assign rfl (evc _ _)) rfl rfl (by decide) fun a41 hA42 => ?_; clear hA40 a39
  refine wl_nil ?_
  refine then_n ?_
  refine c_ret ?_
  refine blk_ret ?_
  refine then_ret ?_
  refine fin_run hA42 (.inl rfl) (run_results2 hA42 rfl (.tmp rfl) (.tmp rfl)) ?_
  exact absurd (hr.symm.trans (read_3 he (by omega))) (by decide)
 ·skip
  rw [decide_eq_false hb37] at hA36
  refine c_false hA36 rfl ?_
  refine c_seq ?_
  refine c_region ?_
  refine st hA36 (op_move rfl (hA36.ev rfl)) rfl rfl (by decide) fun a43 hA44 => ?_; clear hA36 a35
  refine st hA44 (op_move rfl (hA44.ev rfl)) rfl rfl (by decide) fun a45 hA46 => ?_; clear hA44 a43
  refine stw hA46 (op_call rfl en_84 (ev2 (hA46.ev rfl) (hA46.ev rfl)) (all_read l _ 83 #[] #[(bptr b4 0)] (fun i => readB b (l.getD i (0, 0))) _ (hS16.sk 3 rfl) (by omega) ⟨en_83, fun i hi W hW => right_ok b vt vm lr lb lk W (tabs_at ((hS16.step hW).ok 1 _ rfl)) (macs_at ((hS16.step hW).ok 2 _ rfl)) hth _ _ b4 ((hS16.step hW).bk 0 rfl)⟩)) rfl rfl (by decide) ?_
  rintro a47 _ w49 ⟨rfl, hE50⟩ hA48; have hS51 := hS16.step hE50; clear hE50 hA46 hS16 a45
  refine st hA48 (op_not rfl (hA48.ev rfl)) rfl rfl (by decide) fun a52 hA53 => ?_; clear hA48 a47
  refine st hA53 (op_assign rfl (hA53.ev rfl)) rfl rfl (by decide) fun a54 hA55 => ?_; clear hA53 a52
  refine wl_nil ?_
  refine then_n ?_
  rcases Bool.eq_false_or_eq_true (((List.range l.length).all (fun i => readB b (l.getD i (0, 0))))) with hb56 | hb56
  ·skip
   rw [hb56] at hA55
   refine c_false hA55 rfl ?_
   refine c_seq ?_
   have hA57 := hA55.as [(2, (bptr b4 0)), (1, xl)] rfl; clear hA55
   refine c_region ?_
   refine st hA57 (op_move rfl (hA57.ev rfl)) rfl rfl (by decide) fun a58 hA59 => ?_; clear hA57 a54
   refine st hA59 (op_makeFunc rfl ev0 (ev1 (hA59.ev rfl))) rfl rfl (by decide) fun a60 hA61 => ?_; clear hA59 a58
   refine stw hA61 (op_call rfl en_84 (ev2 (hA61.ev rfl) (hA61.ev rfl)) (all_read l _ 85 #[] #[(bptr b4 0)] (fun i => !offB (b.macs.getD (l.getD i (0, 0)).1.toNat mac0)) _ (hS51.sk 3 rfl) (by omega) ⟨en_85, fun i hi W hW => notoff_ok b vt vm lr lb lk W (tabs_at ((hS51.step hW).ok 1 _ rfl)) (macs_at ((hS51.step hW).ok 2 _ rfl)) hth _ _ b4 ((hS51.step hW).bk 0 rfl) (check_ok he) (readB_is (allI_iff.1 (show allI l.length (fun i => readB b (l.getD i (0, 0))) = true from (by assumption)) i hi)).1⟩)) rfl rfl (by decide) ?_
   rintro a62 _ w64 ⟨rfl, hE65⟩ hA63; have hS66 := hS51.step hE65; clear hE65 hA61 hS51 a60
   refine st hA63 (op_not rfl (hA63.ev rfl)) rfl rfl (by decide) fun a67 hA68 => ?_; clear hA63 a62
   refine st hA68 (op_assign rfl (hA68.ev rfl)) rfl rfl (by decide) fun a69 hA70 => ?_; clear hA68 a67
   refine wl_nil ?_
   refine then_n ?_
   rcases Bool.eq_false_or_eq_true (((List.range l.length).all (fun i => !offB (b.macs.getD (l.getD i (0, 0)).1.toNat mac0)))) with hb71 | hb71
   ·skip
    rw [hb71] at hA70
    refine c_false hA70 rfl ?_
    refine c_skip ?_
    refine blk_n ?_
    refine then_n ?_
    refine c_seq ?_
    have hA72 := hA70.as [(2, (bptr b4 0))] rfl; clear hA70
    refine c_region ?_
    refine st hA72 (op_loadA rfl ty_37 (hA72.ev rfl) (hS66.bk 0 rfl) (l := [(Value.int .i64 b.scales), vt, vm]) rfl rfl) rfl rfl (by decide) fun a73 hA74 => ?_; clear hA72 a69
    refine stw hA74 (op_call rfl en_86 (ev1 (hA74.ev rfl)) (bench_ok b vt vm lr lb lk _ (tabs_at (hS66.ok 1 _ rfl)) (macs_at (hS66.ok 2 _ rfl)) hth)) rfl rfl (by decide) ?_
    rintro a75 _ w77 ⟨bx80, bm81, es82, ck83, rfl, hMO84, hT78⟩ hA76; have hS79 := hS66.callS hT78 rfl; clear hT78 hA74 hS66 a73
    refine st hA76 (op_assign rfl (hA76.ev rfl)) rfl rfl (by decide) fun a85 hA86 => ?_; clear hA76 a75
    refine st hA86 (op_assign rfl (evc _ _)) rfl rfl (by decide) fun a87 hA88 => ?_; clear hA86 a85
    refine wl_nil ?_
    refine then_n ?_
    refine c_ret ?_
    refine fin_run hA88 (.inl rfl) (run_results2 hA88 rfl (.tmp rfl) (.tmp rfl)) ?_
    exact ⟨_, bm81, es82, ck83, rfl, hMO84, hS79.keep [0, 1] (by decide) _ rfl rfl⟩
   ·skip
    rw [hb71] at hA70
    refine c_true hA70 rfl ?_
    refine c_seq ?_
    have hA89 := hA70.as [] rfl; clear hA70
    refine c_region ?_
    refine st hA89 (op_assign rfl (evc _ _)) rfl rfl (by decide) fun a90 hA91 => ?_; clear hA89 a69
    refine st hA91 (op_assign rfl (evc _ _)) rfl rfl (by decide) fun a92 hA93 => ?_; clear hA91 a90
    refine wl_nil ?_
    refine then_n ?_
    refine c_ret ?_
    refine blk_ret ?_
    refine then_ret ?_
    refine fin_run hA93 (.inl rfl) (run_results2 hA93 rfl (.tmp rfl) (.tmp rfl)) ?_
    exact absurd (hr.symm.trans (read_11' he (by omega) (by assumption) (by assumption))) (by decide)
  ·skip
   rw [hb56] at hA55
   refine c_true hA55 rfl ?_
   refine c_seq ?_
   have hA94 := hA55.as [] rfl; clear hA55
   refine c_region ?_
   refine st hA94 (op_assign rfl (evc _ _)) rfl rfl (by decide) fun a95 hA96 => ?_; clear hA94 a54
   refine st hA96 (op_assign rfl (evc _ _)) rfl rfl (by decide) fun a97 hA98 => ?_; clear hA96 a95
   refine wl_nil ?_
   refine then_n ?_
   refine c_ret ?_
   refine blk_ret ?_
   refine then_ret ?_
   refine fin_run hA98 (.inl rfl) (run_results2 hA98 rfl (.tmp rfl) (.tmp rfl)) ?_
   exact absurd (hr.symm.trans (read_2' he (by omega) (by assumption))) (by decide)
end Go.Proofs.Ytohgladndklciaa
