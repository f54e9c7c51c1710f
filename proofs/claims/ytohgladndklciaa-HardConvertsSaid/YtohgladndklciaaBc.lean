/-
  When a table is one of a book: told by all its tests at once.
  The error of a book, told by the first thing that is not right; thin books.
  The errors of readings, of a machine's bias, of what a table makes of a range; which machines are off.
-/
import Derived.Test.YtohgladndklciaaBb
import Derived.Test.YtohgladndklciaaEnga
set_option linter.unusedSimpArgs false
set_option linter.unusedVariables false
namespace Go.Proofs.Ytohgladndklciaa
open Go.RowKit Go.Shelf Go.Eng Go.Hard
theorem ze_4 : (Try.prog.info? 4).bind (·.zero) = some (Value.bool false) := by kernel_rfl
theorem ty_4 : tyK Try.prog 4 = some (false, 1) := by kernel_rfl
theorem en_116 : ∀ args w, (callFunc 116 args).run Try.prog w = .ok (.enter 116 args) w := enters_of Try.func116 (by kernel_rfl) rfl
theorem en_121 : ∀ args w, (callFunc 121 args).run Try.prog w = .ok (.enter 121 args) w := enters_of Try.func121 (by kernel_rfl) rfl
theorem fd_159_0 : fldK Try.prog 159 0 = some 0 := by kernel_rfl
theorem ty_154 : tyK Try.prog 154 = some (false, 1) := by kernel_rfl
theorem en_103 : ∀ args w, (callFunc 103 args).run Try.prog w = .ok (.enter 103 args) w := enters_of Try.func103 (by kernel_rfl) rfl
theorem bd_159_0f (x0_0 : Fn) (x0_0a x0_0b : Array Value) (w : World) : (Instr.build 159 #[(0, (.func x0_0 x0_0a x0_0b))]).run Try.prog w = .ok (.agg #[(.func x0_0 x0_0a x0_0b)]) w := by kernel_rfl
theorem en_101 : ∀ args w, (callFunc 101 args).run Try.prog w = .ok (.enter 101 args) w := enters_of Try.func101 (by kernel_rfl) rfl
theorem en_72 : ∀ args w, (callFunc 72 args).run Try.prog w = .ok (.enter 72 args) w := enters_of Try.func72 (by kernel_rfl) rfl
theorem fd_106_4 : fldK Try.prog 106 4 = some 4 := by kernel_rfl
theorem makes_dn (t : TabD) (vr vb : Value) (w : World) (hr : SlAt w vr 2 t.rows.length (pairs t.rows)) (hb : SlAt w vb 1 t.brk.length (ints t.brk)) (hrl : t.rows.length ≤ 1000000) (hbl : t.brk.length ≤ 1000000) (n : Int) (hV : TabV n t) (x : Int) :
  Calls Try.prog 101 #[(Value.agg #[(Value.int .i64 t.frm), (Value.int .i64 t.dst), vr, vb, (Value.int .i64 t.err)]), (Value.int .i64 x), (Value.agg #[(Value.func (.func 102) #[] #[])])] w (Ret fun v w' => v = .tuple #[.int .i64 (madeV t x).1, .bool (madeF t x).isSome] ∧ Ext NoB w w') := by
 refine calls_enterM Try.func101 rfl fun a0 hA0 => ?_
 replace hA0 : Fr 62 (marks []) [(0, (Value.agg #[(Value.int .i64 t.frm), (Value.int .i64 t.dst), vr, vb, (Value.int .i64 t.err)])), (1, (Value.int .i64 x)), (2, (Value.agg #[(Value.func (.func 102) #[] #[])]))] a0 := hA0
 have hS0 : Sep NoB w w [(marksR []), (sl vr 2 t.rows.length (pairs t.rows)), (sl vb 1 t.brk.length (ints t.brk))] := sep_marks (sep_ro ⟨rfl, hr, rfl, hb, trivial⟩)
 refine m2 ?_
 refine s2 hA0 (op_box hS0 rfl (hA0.ev rfl) (cs := [(Value.int .i64 t.frm), (Value.int .i64 t.dst), vr, vb, (Value.int .i64 t.err)]) rfl) ?_
 rintro a1 _ w3 ⟨b4, rfl, hS5⟩ hA2; clear hA0 hS0 a0
 refine s2 hA2 (op_box hS5 rfl (hA2.ev rfl) (cs := [(Value.int .i64 x)]) rfl) ?_
 rintro a6 _ w8 ⟨b9, rfl, hS10⟩ hA7; clear hA2 hS5 a1
 refine s2 hA7 (op_box hS10 rfl (hA7.ev rfl) (cs := [(Value.func (.func 102) #[] #[])]) rfl) ?_
 rintro a11 _ w13 ⟨b14, rfl, hS15⟩ hA12; clear hA7 hS10 a6
 refine s2 hA12 (op_alloc hS15 rfl ze_3 (cs := [(Value.int .i64 0)]) rfl) ?_
 rintro a16 _ w18 ⟨b19, rfl, hS20⟩ hA17; clear hA12 hS15 a11
 refine s2 hA17 (op_alloc hS20 rfl ze_4 (cs := [(Value.bool false)]) rfl) ?_
 rintro a21 _ w23 ⟨b24, rfl, hS25⟩ hA22; clear hA17 hS20 a16
 refine n2 ?_
 refine m2 ?_
 refine s1 hA22 (op_field rfl fd_106_2 (hA22.ev rfl)) fun a26 hA27 => ?_; clear hA22 a21
 refine s1 hA27 (op_load1 rfl ty_104 (hA27.ev rfl) (hS25.bk 4 rfl) rfl) fun a28 hA29 => ?_; clear hA27 a26
 refine s1 hA29 (op_lenS rfl un_104 (hA29.ev rfl) (hS25.sk 6 rfl)) fun a30 hA31 => ?_; clear hA29 a28
 refine s1 hA31 (op_move rfl (evc _ _)) fun a32 hA33 => ?_; clear hA31 a30
 refine n1 ?_
 refine c_block ?_
 have hA34 := hA33.as [(15, (Value.int .i64 0)), (14, (Value.int .i64 (t.rows.length : Int))), (13, vr), (7, (bptr b24 0)), (6, (bptr b19 0)), (5, (bptr b14 0)), (4, (bptr b9 0)), (3, (bptr b4 0))] rfl; clear hA33
 refine c_loop (G := Nat) (fun (k : Nat) a_ w_ => Fr 62 (marks []) [(15, (Value.int .i64 (k : Int))), (14, (Value.int .i64 (t.rows.length : Int))), (13, vr), (7, (bptr b24 0)), (6, (bptr b19 0)), (5, (bptr b14 0)), (4, (bptr b9 0)), (3, (bptr b4 0))] a_ ∧ Sep NoB w w_ [(blk b24 4 [(Value.bool false)]), (blk b19 3 [(Value.int .i64 0)]), (blk b14 159 [(Value.func (.func 102) #[] #[])]), (blk b9 3 [(Value.int .i64 x)]), (blk b4 106 [(Value.int .i64 t.frm), (Value.int .i64 t.dst), vr, vb, (Value.int .i64 t.err)]), (marksR []), (sl vr 2 t.rows.length (pairs t.rows)), (sl vb 1 t.brk.length (ints t.brk))] ∧ (k ≤ t.rows.length) ∧ (∀ i, i < k → ¬ tx t i = x)) (fun k => t.rows.length - k) 0 ⟨hA34.as _ rfl, hS25, by omega, (fun _ h => absurd h (Nat.not_lt_zero _))⟩ ?_
 clear hA34 hS25 a32
 rintro k a35 w37 ⟨hA36, hS38, hkk, hrw⟩
 refine m2 ?_
 refine s1 hA36 (op_lss rfl (hA36.ev rfl) (hA36.ev rfl)) fun a39 hA40 => ?_; clear hA36 a35
 refine n2 ?_
 by_cases hb41 : (k : Int) < (t.rows.length : Int)
 ·skip
  rw [decide_eq_true hb41] at hA40
  refine c_true hA40 rfl ?_
  refine c_skip ?_
  refine then_n ?_
  refine c_seq ?_
  refine c_block ?_
  refine m2 ?_
  refine s1 hA40 (op_indexS rfl un_104 ty_107 (hA40.ev rfl) (i := k) (hA40.ev rfl) (hS38.sk 6 rfl) (by decide) (by omega)) fun a42 hA43 => ?_; clear hA40 a39
  refine s1 hA43 (op_loadAE rfl ty_107 (hA43.ev rfl) (hS38.sk 6 rfl) (pairs_all (by omega)) rfl (by decide)) fun a44 hA45 => ?_; clear hA43 a42
  refine s2 hA45 (op_alloc hS38 rfl ze_107 (cs := [(Value.int .i64 0), (Value.int .i64 0)]) rfl) ?_
  rintro a46 _ w48 ⟨b49, rfl, hS50⟩ hA47; clear hA45 hS38 a44
  refine s7 hA47 (op_store hS50 rfl ty_107 (hA47.ev rfl) (hA47.ev rfl) (i := 0) rfl (vs := [(Value.int .i64 ((t.rows.getD k (0, 0)).1)), (Value.int .i64 ((t.rows.getD k (0, 0)).2))]) rfl rfl rfl (Nat.le_of_ble_eq_true rfl)) ?_
  intro _ w51 hS52 hA53; clear hA47
  have hS54 : Sep NoB w w51 [(blk b49 107 [(Value.int .i64 ((t.rows.getD k (0, 0)).1)), (Value.int .i64 ((t.rows.getD k (0, 0)).2))]), (blk b24 4 [(Value.bool false)]), (blk b19 3 [(Value.int .i64 0)]), (blk b14 159 [(Value.func (.func 102) #[] #[])]), (blk b9 3 [(Value.int .i64 x)]), (blk b4 106 [(Value.int .i64 t.frm), (Value.int .i64 t.dst), vr, vb, (Value.int .i64 t.err)]), (marksR []), (sl vr 2 t.rows.length (pairs t.rows)), (sl vb 1 t.brk.length (ints t.brk))] := hS52; clear hS52 hS50
  refine n4 ?_
  refine s1 hA53 (op_field rfl fd_107_0 (hA53.ev rfl)) fun a55 hA56 => ?_; clear hA53 a46
  refine s1 hA56 (op_load1 rfl ty_3 (hA56.ev rfl) (hS54.bk 0 rfl) rfl) fun a57 hA58 => ?_; clear hA56 a55
  refine s1 hA58 (op_load1 rfl ty_3 (hA58.ev rfl) (hS54.bk 4 rfl) rfl) fun a59 hA60 => ?_; clear hA58 a57
  refine s1 hA60 (op_eql rfl (hA60.ev rfl) (hA60.ev rfl)) fun a61 hA62 => ?_; clear hA60 a59
  refine n1 ?_
  by_cases hb63 : ((t.rows.getD k (0, 0)).1) = x
  ·skip
   rw [decide_eq_true hb63] at hA62
   refine c_true hA62 rfl ?_
   refine c_seq ?_
   have hA64 := hA62.as [(9, (bptr b49 0)), (7, (bptr b24 0)), (6, (bptr b19 0))] rfl; clear hA62
   refine c_region ?_
   refine s1 hA64 (op_field rfl fd_107_1 (hA64.ev rfl)) fun a65 hA66 => ?_; clear hA64 a61
   refine s1 hA66 (op_load1 rfl ty_3 (hA66.ev rfl) (hS54.bk 0 rfl) rfl) fun a67 hA68 => ?_; clear hA66 a65
   refine s7 hA68 (op_store hS54 rfl ty_3 (hA68.ev rfl) (hA68.ev rfl) (i := 2) rfl (vs := [(Value.int .i64 ((t.rows.getD k (0, 0)).2))]) rfl rfl rfl (Nat.le_of_ble_eq_true rfl)) ?_
   intro _ w69 hS70 hA71; clear hA68
   have hS72 : Sep NoB w w69 [(blk b49 107 [(Value.int .i64 ((t.rows.getD k (0, 0)).1)), (Value.int .i64 ((t.rows.getD k (0, 0)).2))]), (blk b24 4 [(Value.bool false)]), (blk b19 3 [(Value.int .i64 ((t.rows.getD k (0, 0)).2))]), (blk b14 159 [(Value.func (.func 102) #[] #[])]), (blk b9 3 [(Value.int .i64 x)]), (blk b4 106 [(Value.int .i64 t.frm), (Value.int .i64 t.dst), vr, vb, (Value.int .i64 t.err)]), (marksR []), (sl vr 2 t.rows.length (pairs t.rows)), (sl vb 1 t.brk.length (ints t.brk))] := hS70; clear hS70 hS54
   refine s7 hA71 (op_store hS72 rfl ty_4 (hA71.ev rfl) (evc _ _) (i := 1) rfl (vs := [(Value.bool true)]) rfl rfl rfl (Nat.le_of_ble_eq_true rfl)) ?_
   intro _ w73 hS74 hA75; clear hA71
   have hS76 : Sep NoB w w73 [(blk b49 107 [(Value.int .i64 ((t.rows.getD k (0, 0)).1)), (Value.int .i64 ((t.rows.getD k (0, 0)).2))]), (blk b24 4 [(Value.bool true)]), (blk b19 3 [(Value.int .i64 ((t.rows.getD k (0, 0)).2))]), (blk b14 159 [(Value.func (.func 102) #[] #[])]), (blk b9 3 [(Value.int .i64 x)]), (blk b4 106 [(Value.int .i64 t.frm), (Value.int .i64 t.dst), vr, vb, (Value.int .i64 t.err)]), (marksR []), (sl vr 2 t.rows.length (pairs t.rows)), (sl vb 1 t.brk.length (ints t.brk))] := hS74; clear hS74 hS72
   refine n1 ?_
   refine c_ret ?_
   refine blk_ret ?_
   refine then_ret ?_
   refine then_ret ?_
   refine blk_ret ?_
   refine then_ret ?_
   have hS77 : Sep NoB w w73 [(marksR []), (blk b49 107 [(Value.int .i64 ((t.rows.getD k (0, 0)).1)), (Value.int .i64 ((t.rows.getD k (0, 0)).2))]), (blk b24 4 [(Value.bool true)]), (blk b19 3 [(Value.int .i64 ((t.rows.getD k (0, 0)).2))]), (blk b14 159 [(Value.func (.func 102) #[] #[])]), (blk b9 3 [(Value.int .i64 x)]), (blk b4 106 [(Value.int .i64 t.frm), (Value.int .i64 t.dst), vr, vb, (Value.int .i64 t.err)]), (sl vr 2 t.rows.length (pairs t.rows)), (sl vb 1 t.brk.length (ints t.brk))] := hS76.keep [6, 0, 1, 2, 3, 4, 5, 7, 8] (by decide) _ rfl rfl; clear hS76
   refine fin_runM hA75 (.inl rfl) hS77 ?_
   intro w78 hS79; clear hS77
   refine ⟨_, (run_results2 hA75 rfl (.cell1 rfl ty_3 (hS79.bk 2 rfl) rfl) (.cell1 rfl ty_4 (hS79.bk 1 rfl) rfl)), ?_⟩
   have hz := (made_row (k := k) (by omega) (fun i hi => hrw i (by omega)) (by assumption))
   exact ⟨by unfold madeV; rw [hz]; rfl, hS79.ext⟩
  ·skip
   rw [decide_eq_false hb63] at hA62
   refine c_false hA62 rfl ?_
   refine c_skip ?_
   refine blk_n ?_
   refine then_n ?_
   have hA80 := hA62.as [(15, (Value.int .i64 (k : Int))), (14, (Value.int .i64 (t.rows.length : Int))), (13, vr), (7, (bptr b24 0)), (6, (bptr b19 0)), (5, (bptr b14 0)), (4, (bptr b9 0)), (3, (bptr b4 0))] rfl; clear hA62
   refine c_region ?_
   refine s1 hA80 (op_add rfl (hA80.ev rfl) (evc _ _) (by omega) (by omega)) fun a81 hA82 => ?_; clear hA80 a61
   refine s1 hA82 (op_move rfl (hA82.ev rfl)) fun a83 hA84 => ?_; clear hA82 a81
   refine wl_nil ?_
   have hS85 : Sep NoB w w51 [(blk b24 4 [(Value.bool false)]), (blk b19 3 [(Value.int .i64 0)]), (blk b14 159 [(Value.func (.func 102) #[] #[])]), (blk b9 3 [(Value.int .i64 x)]), (blk b4 106 [(Value.int .i64 t.frm), (Value.int .i64 t.dst), vr, vb, (Value.int .i64 t.err)]), (marksR []), (sl vr 2 t.rows.length (pairs t.rows)), (sl vb 1 t.brk.length (ints t.brk))] := hS54.keep [1, 2, 3, 4, 5, 6, 7, 8] (by decide) _ rfl rfl; clear hS54
   exact then_n ⟨k + 1, ⟨hA84.as _ rfl, hS85, by omega, (fun i hi => by rcases Nat.lt_succ_iff_lt_or_eq.1 hi with h | h; exact hrw i h; subst h; assumption)⟩, by omega⟩
 ·skip
  rw [decide_eq_false hb41] at hA40
  refine c_false hA40 rfl ?_
  refine c_exit ?_
  refine then_exit ?_
  refine then_exit ?_
  refine blk_hit ?_
  refine then_n ?_
  refine c_seq ?_
  refine m2 ?_
  refine s1 hA40 (op_loadA rfl ty_106 (hA40.ev rfl) (hS38.bk 4 rfl) (l := [(Value.int .i64 t.frm), (Value.int .i64 t.dst), vr, vb, (Value.int .i64 t.err)]) rfl rfl) fun a86 hA87 => ?_; clear hA40 a39
  refine s2 hA87 (op_call rfl en_116 (ev1 (hA87.ev rfl)) (pieces_ok t vr vb _ hr.one hb.one)) ?_
  rintro a88 _ w90 ⟨bl93, rfl, hT91⟩ hA89; have hS92 := hS38.callS hT91 rfl; clear hT91 hA87 hS38 a86
  refine n1 ?_
  refine c_block ?_
  have hA94 := hA89.as [(27, (Value.func (.func 121) #[] #[(bptr bl93 0)])), (7, (bptr b24 0)), (6, (bptr b19 0)), (5, (bptr b14 0)), (4, (bptr b9 0))] rfl; clear hA89
  have hS95 := hS92.nilR; clear hS92
  have hS96 : Sep NoB w w90 [(marksR []), nilR, (blk bl93 106 [(Value.int .i64 t.frm), (Value.int .i64 t.dst), vr, vb, (Value.int .i64 t.err)]), (blk b24 4 [(Value.bool false)]), (blk b19 3 [(Value.int .i64 0)]), (blk b14 159 [(Value.func (.func 102) #[] #[])]), (blk b9 3 [(Value.int .i64 x)]), (blk b4 106 [(Value.int .i64 t.frm), (Value.int .i64 t.dst), vr, vb, (Value.int .i64 t.err)]), (sl vr 2 t.rows.length (pairs t.rows)), (sl vb 1 t.brk.length (ints t.brk))] := hS95.keep [7, 0, 1, 2, 3, 4, 5, 6, 8, 9] (by decide) _ rfl rfl; clear hS95
  refine c_rangeG hA94 nilR rfl hS96 (hA94.ev rfl) en_121 ((goodF t).length) (fun q => #[.agg #[.int .i64 (t.rows.getD ((goodF t).getD q 0) (0, 0)).1, .int .i64 (t.rows.getD ((goodF t).getD q 0) (0, 0)).2], .agg #[.int .i64 (t.rows.getD ((goodF t).getD q 0 + 1) (0, 0)).1, .int .i64 (t.rows.getD ((goodF t).getD q 0 + 1) (0, 0)).2]]) (fun _ => rfl) [rob bl93 106 [.int .i64 t.frm, .int .i64 t.dst, vr, vb, .int .i64 t.err], sl vr 2 t.rows.length (pairs t.rows), sl vb 1 t.brk.length (ints t.brk)] (fun r hr => by simp only [List.mem_cons, List.not_mem_nil, or_false] at hr; rcases hr with rfl | rfl | rfl <;> rfl) (pieces_it bl93 t vr vb hV.len hrl hbl) (fun q L_ => L_ = [(blk bl93 106 [(Value.int .i64 t.frm), (Value.int .i64 t.dst), vr, vb, (Value.int .i64 t.err)]), (blk b24 4 [(Value.bool false)]), (blk b19 3 [(Value.int .i64 0)]), (blk b14 159 [(Value.func (.func 102) #[] #[])]), (blk b9 3 [(Value.int .i64 x)]), (blk b4 106 [(Value.int .i64 t.frm), (Value.int .i64 t.dst), vr, vb, (Value.int .i64 t.err)]), (sl vr 2 t.rows.length (pairs t.rows)), (sl vb 1 t.brk.length (ints t.brk))] ∧ (∀ j, j < q → inPiece t x ((goodF t).getD j 0) = false)) (fun L_ => L_ = [(blk bl93 106 [(Value.int .i64 t.frm), (Value.int .i64 t.dst), vr, vb, (Value.int .i64 t.err)]), (blk b24 4 [(Value.bool true)]), (blk b19 3 [(Value.int .i64 ((madeV t x).1))]), (blk b14 159 [(Value.func (.func 102) #[] #[])]), (blk b9 3 [(Value.int .i64 x)]), (blk b4 106 [(Value.int .i64 t.frm), (Value.int .i64 t.dst), vr, vb, (Value.int .i64 t.err)]), (sl vr 2 t.rows.length (pairs t.rows)), (sl vb 1 t.brk.length (ints t.brk))] ∧ ((madeF t x).isSome = true)) (some .ret) ⟨rfl, (fun _ h => absurd h (Nat.not_lt_zero _))⟩ (fun q L_ hI_ G_ W_ r1_ r2_ hW_ => by obtain ⟨rfl, hpc⟩ := hI_; exact (Sep.keep (hW_.to_ro (i := 3) rfl) [2, 3, 9, 10] (by decide) _ rfl rfl)) (fun L_ hI_ G_ W_ r1_ r2_ hW_ => by obtain ⟨rfl, hsm⟩ := hI_; exact (Sep.keep (hW_.to_ro (i := 3) rfl) [2, 3, 9, 10] (by decide) _ rfl rfl)) ?_ ?_ ?_
  ·skip
   intro q hq L_ hL_ G105 hG106 l102 D103 rc104 a97 w98 ha101 hS99; obtain ⟨rfl, hpc⟩ := hL_
   have hA100 : Fr 62 [] [(29, (Value.agg #[(Value.int .i64 ((t.rows.getD (((goodF t).getD q 0) + 1) (0, 0)).1)), (Value.int .i64 ((t.rows.getD (((goodF t).getD q 0) + 1) (0, 0)).2))])), (28, (Value.agg #[(Value.int .i64 ((t.rows.getD (((goodF t).getD q 0)) (0, 0)).1)), (Value.int .i64 ((t.rows.getD (((goodF t).getD q 0)) (0, 0)).2))])), (27, (Value.func (.func 121) #[] #[(bptr bl93 0)])), (7, (bptr b24 0)), (6, (bptr b19 0)), (5, (bptr b14 0)), (4, (bptr b9 0))] a97 := by rw [ha101]; exact Fr.round2 hA94 (by decide) (by decide)
   clear ha101 hS96
   have hgq : ((goodF t).getD q 0) < t.rows.length - 1 := (good_mem hq).1; have hbn := hV.bnd _ (show ((goodF t).getD q 0) < t.rows.length by omega); have hbn1 := hV.bnd (((goodF t).getD q 0) + 1) (by omega); unfold tx ty at hbn hbn1
   refine m2 ?_
   refine s2 hA100 (op_alloc hS99 rfl ze_107 (cs := [(Value.int .i64 0), (Value.int .i64 0)]) rfl) ?_
   rintro a107 _ w109 ⟨b110, rfl, hS111⟩ hA108; clear hA100 hS99 a97
   refine s7 hA108 (op_store hS111 rfl ty_107 (hA108.ev rfl) (hA108.ev rfl) (i := 0) rfl (vs := [(Value.int .i64 ((t.rows.getD (((goodF t).getD q 0)) (0, 0)).1)), (Value.int .i64 ((t.rows.getD (((goodF t).getD q 0)) (0, 0)).2))]) rfl rfl rfl (Nat.le_of_ble_eq_true rfl)) ?_
   intro _ w112 hS113 hA114; clear hA108
   have hS115 : Sep NoB w w112 [(blk b110 107 [(Value.int .i64 ((t.rows.getD (((goodF t).getD q 0)) (0, 0)).1)), (Value.int .i64 ((t.rows.getD (((goodF t).getD q 0)) (0, 0)).2))]), (obR l102 (.loop (rc104 .ready none))), (marksR (D103 :: [])), G105, (blk bl93 106 [(Value.int .i64 t.frm), (Value.int .i64 t.dst), vr, vb, (Value.int .i64 t.err)]), (blk b24 4 [(Value.bool false)]), (blk b19 3 [(Value.int .i64 0)]), (blk b14 159 [(Value.func (.func 102) #[] #[])]), (blk b9 3 [(Value.int .i64 x)]), (blk b4 106 [(Value.int .i64 t.frm), (Value.int .i64 t.dst), vr, vb, (Value.int .i64 t.err)]), (sl vr 2 t.rows.length (pairs t.rows)), (sl vb 1 t.brk.length (ints t.brk))] := hS113; clear hS113 hS111
   refine n3 ?_
   refine s2 hA114 (op_alloc hS115 rfl ze_107 (cs := [(Value.int .i64 0), (Value.int .i64 0)]) rfl) ?_
   rintro a116 _ w118 ⟨b119, rfl, hS120⟩ hA117; clear hA114 hS115 a107
   refine s7 hA117 (op_store hS120 rfl ty_107 (hA117.ev rfl) (hA117.ev rfl) (i := 0) rfl (vs := [(Value.int .i64 ((t.rows.getD (((goodF t).getD q 0) + 1) (0, 0)).1)), (Value.int .i64 ((t.rows.getD (((goodF t).getD q 0) + 1) (0, 0)).2))]) rfl rfl rfl (Nat.le_of_ble_eq_true rfl)) ?_
   intro _ w121 hS122 hA123; clear hA117
   have hS124 : Sep NoB w w121 [(blk b119 107 [(Value.int .i64 ((t.rows.getD (((goodF t).getD q 0) + 1) (0, 0)).1)), (Value.int .i64 ((t.rows.getD (((goodF t).getD q 0) + 1) (0, 0)).2))]), (blk b110 107 [(Value.int .i64 ((t.rows.getD (((goodF t).getD q 0)) (0, 0)).1)), (Value.int .i64 ((t.rows.getD (((goodF t).getD q 0)) (0, 0)).2))]), (obR l102 (.loop (rc104 .ready none))), (marksR (D103 :: [])), G105, (blk bl93 106 [(Value.int .i64 t.frm), (Value.int .i64 t.dst), vr, vb, (Value.int .i64 t.err)]), (blk b24 4 [(Value.bool false)]), (blk b19 3 [(Value.int .i64 0)]), (blk b14 159 [(Value.func (.func 102) #[] #[])]), (blk b9 3 [(Value.int .i64 x)]), (blk b4 106 [(Value.int .i64 t.frm), (Value.int .i64 t.dst), vr, vb, (Value.int .i64 t.err)]), (sl vr 2 t.rows.length (pairs t.rows)), (sl vb 1 t.brk.length (ints t.brk))] := hS122; clear hS122 hS120
   refine wl_nil ?_
   have hS125 : Sep NoB w w121 [(obR l102 (.loop (rc104 .ready none))), (marksR (D103 :: [])), G105, (blk b119 107 [(Value.int .i64 ((t.rows.getD (((goodF t).getD q 0) + 1) (0, 0)).1)), (Value.int .i64 ((t.rows.getD (((goodF t).getD q 0) + 1) (0, 0)).2))]), (blk b110 107 [(Value.int .i64 ((t.rows.getD (((goodF t).getD q 0)) (0, 0)).1)), (Value.int .i64 ((t.rows.getD (((goodF t).getD q 0)) (0, 0)).2))]), (blk bl93 106 [(Value.int .i64 t.frm), (Value.int .i64 t.dst), vr, vb, (Value.int .i64 t.err)]), (blk b24 4 [(Value.bool false)]), (blk b19 3 [(Value.int .i64 0)]), (blk b14 159 [(Value.func (.func 102) #[] #[])]), (blk b9 3 [(Value.int .i64 x)]), (blk b4 106 [(Value.int .i64 t.frm), (Value.int .i64 t.dst), vr, vb, (Value.int .i64 t.err)]), (sl vr 2 t.rows.length (pairs t.rows)), (sl vb 1 t.brk.length (ints t.brk))] := hS124.keep [2, 3, 4, 0, 1, 5, 6, 7, 8, 9, 10, 11, 12] (by decide) _ rfl rfl; clear hS124
   refine ⟨rfl, _, hS125, ?_⟩; intro w126 hS127; clear hS125
   refine c_block ?_
   refine m2 ?_
   refine s1 hA123 (op_field rfl fd_107_0 (hA123.ev rfl)) fun a128 hA129 => ?_; clear hA123 a116
   refine s1 hA129 (op_load1 rfl ty_3 (hA129.ev rfl) (hS127.bk 4 rfl) rfl) fun a130 hA131 => ?_; clear hA129 a128
   refine s1 hA131 (op_load1 rfl ty_3 (hA131.ev rfl) (hS127.bk 9 rfl) rfl) fun a132 hA133 => ?_; clear hA131 a130
   refine s1 hA133 (op_lss rfl (hA133.ev rfl) (hA133.ev rfl)) fun a134 hA135 => ?_; clear hA133 a132
   refine s1 hA135 (op_move rfl (hA135.ev rfl)) fun a136 hA137 => ?_; clear hA135 a134
   by_cases hb138 : ((t.rows.getD (((goodF t).getD q 0)) (0, 0)).1) < x
   ·skip
    rw [decide_eq_true hb138] at hA137
    refine s5 hA137 (op_load1 rfl ty_3 (hA137.ev rfl) (hS127.bk 9 rfl) rfl) fun a139 hA140 => ?_; clear hA137 a136
    refine s5 hA140 (op_field rfl fd_107_0 (hA140.ev rfl)) fun a141 hA142 => ?_; clear hA140 a139
    refine s5 hA142 (op_load1 rfl ty_3 (hA142.ev rfl) (hS127.bk 3 rfl) rfl) fun a143 hA144 => ?_; clear hA142 a141
    refine s5 hA144 (op_lss rfl (hA144.ev rfl) (hA144.ev rfl)) fun a145 hA146 => ?_; clear hA144 a143
    refine s1 hA146 (op_pick_t rfl (hA146.ev rfl) (hA146.ev rfl)) fun a147 hA148 => ?_; clear hA146 a145
    refine n1 ?_
    by_cases hb149 : x < ((t.rows.getD (((goodF t).getD q 0) + 1) (0, 0)).1)
    ·skip
     rw [decide_eq_true hb149] at hA148
     have hpb := piece_bds (v := x) (k := ((goodF t).getD q 0)) hV (by omega) (by unfold tx; omega) (by unfold tx; omega); unfold pieceN pieceD tx ty at hpb; have hdb := downF_bd hpb.1 hpb.2; have hub := upF_bd hpb.1 hpb.2
     refine c_true hA148 rfl ?_
     refine c_seq ?_
     have hA150 := hA148.as [(11, (bptr b119 0)), (10, (bptr b110 0)), (7, (bptr b24 0)), (6, (bptr b19 0)), (5, (bptr b14 0)), (4, (bptr b9 0))] rfl; clear hA148
     have hA151 := hA150.as [(11, (bptr b119 0)), (10, (bptr b110 0)), (7, (bptr b24 0)), (6, (bptr b19 0)), (5, (bptr b14 0)), (4, (bptr b9 0))] rfl; clear hA150
     refine c_drawn mixed hA151 hS127 21 [[], [0], [], [2], [], [], [5], [4, 6], [], [8], [], [10], [9, 11], [7, 12], [], [14], [], [16], [15, 17], [13, 18], [3, 19]] [(Yd.val (bptr b110 1)), (Yd.val (Value.int .i64 ((t.rows.getD (((goodF t).getD q 0)) (0, 0)).2))), (Yd.val (bptr b14 0)), (Yd.val (Value.func (.func 102) #[] #[])), (Yd.val (Value.int .i64 x)), (Yd.val (bptr b110 0)), (Yd.val (Value.int .i64 ((t.rows.getD (((goodF t).getD q 0)) (0, 0)).1))), (Yd.val (Value.int .i64 (x - ((t.rows.getD (((goodF t).getD q 0)) (0, 0)).1)))), (Yd.val (bptr b119 1)), (Yd.val (Value.int .i64 ((t.rows.getD (((goodF t).getD q 0) + 1) (0, 0)).2))), (Yd.val (bptr b110 1)), (Yd.val (Value.int .i64 ((t.rows.getD (((goodF t).getD q 0)) (0, 0)).2))), (Yd.val (Value.int .i64 (((t.rows.getD (((goodF t).getD q 0) + 1) (0, 0)).2) - ((t.rows.getD (((goodF t).getD q 0)) (0, 0)).2)))), (Yd.val (Value.int .i64 ((x - ((t.rows.getD (((goodF t).getD q 0)) (0, 0)).1)) * (((t.rows.getD (((goodF t).getD q 0) + 1) (0, 0)).2) - ((t.rows.getD (((goodF t).getD q 0)) (0, 0)).2))))), (Yd.val (bptr b119 0)), (Yd.val (Value.int .i64 ((t.rows.getD (((goodF t).getD q 0) + 1) (0, 0)).1))), (Yd.val (bptr b110 0)), (Yd.val (Value.int .i64 ((t.rows.getD (((goodF t).getD q 0)) (0, 0)).1))), (Yd.val (Value.int .i64 (((t.rows.getD (((goodF t).getD q 0) + 1) (0, 0)).1) - ((t.rows.getD (((goodF t).getD q 0)) (0, 0)).1)))), (Yd.val (Value.agg #[(Value.int .i64 ((x - ((t.rows.getD (((goodF t).getD q 0)) (0, 0)).1)) * (((t.rows.getD (((goodF t).getD q 0) + 1) (0, 0)).2) - ((t.rows.getD (((goodF t).getD q 0)) (0, 0)).2)))), (Value.int .i64 (((t.rows.getD (((goodF t).getD q 0) + 1) (0, 0)).1) - ((t.rows.getD (((goodF t).getD q 0)) (0, 0)).1)))])), (Yd.val (Value.int .i64 (downF ((x - ((t.rows.getD (((goodF t).getD q 0)) (0, 0)).1)) * (((t.rows.getD (((goodF t).getD q 0) + 1) (0, 0)).2) - ((t.rows.getD (((goodF t).getD q 0)) (0, 0)).2))) (((t.rows.getD (((goodF t).getD q 0) + 1) (0, 0)).1) - ((t.rows.getD (((goodF t).getD q 0)) (0, 0)).1)))))] (by decide +kernel) rfl rfl ?_ ?_
     ·skip
      refine ⟨fun a w hA hS hd => ?_, ?_⟩
      ·skip
       exact opG_of rfl (dv (op_field rfl fd_107_1 (hA.ev rfl)) hS rfl)
      refine ⟨fun a w hA hS hd => ?_, ?_⟩
      ·skip
       have e0 := has_ev (hd 0 (by decide)) rfl (fun _ h => h)
       exact opG_of rfl (dv (op_load1 rfl ty_3 (tmp_ev e0) (hS.bk 4 rfl) rfl) hS rfl)
      refine ⟨fun a w hA hS hd => ?_, ?_⟩
      ·skip
       exact opG_of rfl (dv (op_field rfl fd_159_0 (hA.ev rfl)) hS rfl)
      refine ⟨fun a w hA hS hd => ?_, ?_⟩
      ·skip
       have e2 := has_ev (hd 2 (by decide)) rfl (fun _ h => h)
       exact opG_of rfl (dv (op_load1 rfl ty_154 (tmp_ev e2) (hS.bk 8 rfl) rfl) hS rfl)
      refine ⟨fun a w hA hS hd => ?_, ?_⟩
      ·skip
       exact opG_of rfl (dv (op_load1 rfl ty_3 (hA.ev rfl) (hS.bk 9 rfl) rfl) hS rfl)
      refine ⟨fun a w hA hS hd => ?_, ?_⟩
      ·skip
       exact opG_of rfl (dv (op_field rfl fd_107_0 (hA.ev rfl)) hS rfl)
      refine ⟨fun a w hA hS hd => ?_, ?_⟩
      ·skip
       have e5 := has_ev (hd 5 (by decide)) rfl (fun _ h => h)
       exact opG_of rfl (dv (op_load1 rfl ty_3 (tmp_ev e5) (hS.bk 4 rfl) rfl) hS rfl)
      refine ⟨fun a w hA hS hd => ?_, ?_⟩
      ·skip
       have e4 := has_ev (hd 4 (by decide)) rfl (fun _ h => h)
       have e6 := has_ev (hd 6 (by decide)) rfl (fun _ h => h)
       exact opG_of rfl (dv (op_sub rfl (tmp_ev e4) (tmp_ev e6) (by omega) (by omega)) hS rfl)
      refine ⟨fun a w hA hS hd => ?_, ?_⟩
      ·skip
       exact opG_of rfl (dv (op_field rfl fd_107_1 (hA.ev rfl)) hS rfl)
      refine ⟨fun a w hA hS hd => ?_, ?_⟩
      ·skip
       have e8 := has_ev (hd 8 (by decide)) rfl (fun _ h => h)
       exact opG_of rfl (dv (op_load1 rfl ty_3 (tmp_ev e8) (hS.bk 3 rfl) rfl) hS rfl)
      refine ⟨fun a w hA hS hd => ?_, ?_⟩
      ·skip
       exact opG_of rfl (dv (op_field rfl fd_107_1 (hA.ev rfl)) hS rfl)
      refine ⟨fun a w hA hS hd => ?_, ?_⟩
      ·skip
       have e10 := has_ev (hd 10 (by decide)) rfl (fun _ h => h)
       exact opG_of rfl (dv (op_load1 rfl ty_3 (tmp_ev e10) (hS.bk 4 rfl) rfl) hS rfl)
      refine ⟨fun a w hA hS hd => ?_, ?_⟩
      ·skip
       have e9 := has_ev (hd 9 (by decide)) rfl (fun _ h => h)
       have e11 := has_ev (hd 11 (by decide)) rfl (fun _ h => h)
       exact opG_of rfl (dv (op_sub rfl (tmp_ev e9) (tmp_ev e11) (by omega) (by omega)) hS rfl)
      refine ⟨fun a w hA hS hd => ?_, ?_⟩
      ·skip
       have e7 := has_ev (hd 7 (by decide)) rfl (fun _ h => h)
       have e12 := has_ev (hd 12 (by decide)) rfl (fun _ h => h)
       exact opG_of rfl (dv (op_mul rfl (tmp_ev e7) (tmp_ev e12) (by omega) (by omega)) hS rfl)
      refine ⟨fun a w hA hS hd => ?_, ?_⟩
      ·skip
       exact opG_of rfl (dv (op_field rfl fd_107_0 (hA.ev rfl)) hS rfl)
      refine ⟨fun a w hA hS hd => ?_, ?_⟩
      ·skip
       have e14 := has_ev (hd 14 (by decide)) rfl (fun _ h => h)
       exact opG_of rfl (dv (op_load1 rfl ty_3 (tmp_ev e14) (hS.bk 3 rfl) rfl) hS rfl)
      refine ⟨fun a w hA hS hd => ?_, ?_⟩
      ·skip
       exact opG_of rfl (dv (op_field rfl fd_107_0 (hA.ev rfl)) hS rfl)
      refine ⟨fun a w hA hS hd => ?_, ?_⟩
      ·skip
       have e16 := has_ev (hd 16 (by decide)) rfl (fun _ h => h)
       exact opG_of rfl (dv (op_load1 rfl ty_3 (tmp_ev e16) (hS.bk 4 rfl) rfl) hS rfl)
      refine ⟨fun a w hA hS hd => ?_, ?_⟩
      ·skip
       have e15 := has_ev (hd 15 (by decide)) rfl (fun _ h => h)
       have e17 := has_ev (hd 17 (by decide)) rfl (fun _ h => h)
       exact opG_of rfl (dv (op_sub rfl (tmp_ev e15) (tmp_ev e17) (by omega) (by omega)) hS rfl)
      refine ⟨fun a w hA hS hd => ?_, ?_⟩
      ·skip
       have e13 := has_ev (hd 13 (by decide)) rfl (fun _ h => h)
       have e18 := has_ev (hd 18 (by decide)) rfl (fun _ h => h)
       exact opG_of rfl (dv (op_build rfl (pv2 (tmp_ev e13) (tmp_ev e18)) (bd_157_0i_1i _ _)) hS rfl)
      refine ⟨fun a w hA hS hd => ?_, ?_⟩
      ·skip
       have e3 := has_ev (hd 3 (by decide)) rfl (fun _ h => h)
       have e19 := has_ev (hd 19 (by decide)) rfl (fun _ h => h)
       exact opG_of rfl (dx (op_callv rfl (tmp_ev e3) en_102 (ev1 (tmp_ev e19)) (down_ok _ _ _ (by omega) (by omega))) hS (fun _ => rfl))
      trivial
     intro a152 w153 hA154 hS155 hH156; clear hA151 hS127
     have hA158 := hA154.add (hz hH156 1); clear hA154
     have hA159 := hA158.add (hz hH156 20); clear hA158
     clear hH156
     refine s1 hA159 (op_add rfl (hA159.ev rfl) (hA159.ev rfl) (by omega) (by omega)) fun a160 hA161 => ?_; clear hA159 a152
     have hvl : ((t.rows.getD (((goodF t).getD q 0)) (0, 0)).2) + (downF ((x - ((t.rows.getD (((goodF t).getD q 0)) (0, 0)).1)) * (((t.rows.getD (((goodF t).getD q 0) + 1) (0, 0)).2) - ((t.rows.getD (((goodF t).getD q 0)) (0, 0)).2))) (((t.rows.getD (((goodF t).getD q 0) + 1) (0, 0)).1) - ((t.rows.getD (((goodF t).getD q 0)) (0, 0)).1))) = (madeV t x).1 := by unfold madeV; rw [made_good (fun i hi => hrw i (by omega)) hq hpc (good_piece hq (by assumption) (by assumption))]; rfl
     have hA162 : Fr 62 [] [(61, (Value.int .i64 ((madeV t x).1))), (60, (Value.int .i64 (downF ((x - ((t.rows.getD (((goodF t).getD q 0)) (0, 0)).1)) * (((t.rows.getD (((goodF t).getD q 0) + 1) (0, 0)).2) - ((t.rows.getD (((goodF t).getD q 0)) (0, 0)).2))) (((t.rows.getD (((goodF t).getD q 0) + 1) (0, 0)).1) - ((t.rows.getD (((goodF t).getD q 0)) (0, 0)).1))))), (41, (Value.int .i64 ((t.rows.getD (((goodF t).getD q 0)) (0, 0)).2))), (11, (bptr b119 0)), (10, (bptr b110 0)), (7, (bptr b24 0)), (6, (bptr b19 0)), (5, (bptr b14 0)), (4, (bptr b9 0))] a160 := by rw [← hvl]; exact hA161
     refine s7 hA162 (op_store hS155 rfl ty_3 (hA162.ev rfl) (hA162.ev rfl) (i := 7) rfl (vs := [(Value.int .i64 ((madeV t x).1))]) rfl rfl rfl (Nat.le_of_ble_eq_true rfl)) ?_
     intro _ w163 hS164 hA165; clear hA162
     have hS166 : Sep NoB w w163 [(obR l102 (.loop (rc104 .busy none))), (marksR (D103 :: [])), G105, (blk b119 107 [(Value.int .i64 ((t.rows.getD (((goodF t).getD q 0) + 1) (0, 0)).1)), (Value.int .i64 ((t.rows.getD (((goodF t).getD q 0) + 1) (0, 0)).2))]), (blk b110 107 [(Value.int .i64 ((t.rows.getD (((goodF t).getD q 0)) (0, 0)).1)), (Value.int .i64 ((t.rows.getD (((goodF t).getD q 0)) (0, 0)).2))]), (blk bl93 106 [(Value.int .i64 t.frm), (Value.int .i64 t.dst), vr, vb, (Value.int .i64 t.err)]), (blk b24 4 [(Value.bool false)]), (blk b19 3 [(Value.int .i64 ((madeV t x).1))]), (blk b14 159 [(Value.func (.func 102) #[] #[])]), (blk b9 3 [(Value.int .i64 x)]), (blk b4 106 [(Value.int .i64 t.frm), (Value.int .i64 t.dst), vr, vb, (Value.int .i64 t.err)]), (sl vr 2 t.rows.length (pairs t.rows)), (sl vb 1 t.brk.length (ints t.brk))] := hS164; clear hS164 hS155
     refine s7 hA165 (op_store hS166 rfl ty_4 (hA165.ev rfl) (evc _ _) (i := 6) rfl (vs := [(Value.bool true)]) rfl rfl rfl (Nat.le_of_ble_eq_true rfl)) ?_
     intro _ w167 hS168 hA169; clear hA165
     have hS170 : Sep NoB w w167 [(obR l102 (.loop (rc104 .busy none))), (marksR (D103 :: [])), G105, (blk b119 107 [(Value.int .i64 ((t.rows.getD (((goodF t).getD q 0) + 1) (0, 0)).1)), (Value.int .i64 ((t.rows.getD (((goodF t).getD q 0) + 1) (0, 0)).2))]), (blk b110 107 [(Value.int .i64 ((t.rows.getD (((goodF t).getD q 0)) (0, 0)).1)), (Value.int .i64 ((t.rows.getD (((goodF t).getD q 0)) (0, 0)).2))]), (blk bl93 106 [(Value.int .i64 t.frm), (Value.int .i64 t.dst), vr, vb, (Value.int .i64 t.err)]), (blk b24 4 [(Value.bool true)]), (blk b19 3 [(Value.int .i64 ((madeV t x).1))]), (blk b14 159 [(Value.func (.func 102) #[] #[])]), (blk b9 3 [(Value.int .i64 x)]), (blk b4 106 [(Value.int .i64 t.frm), (Value.int .i64 t.dst), vr, vb, (Value.int .i64 t.err)]), (sl vr 2 t.rows.length (pairs t.rows)), (sl vb 1 t.brk.length (ints t.brk))] := hS168; clear hS168 hS166
     refine n1 ?_
     refine c_ret ?_
     refine blk_ret ?_
     have hS171 : Sep NoB w w167 [(obR l102 (.loop (rc104 .busy none))), (marksR (D103 :: [])), G105, (blk bl93 106 [(Value.int .i64 t.frm), (Value.int .i64 t.dst), vr, vb, (Value.int .i64 t.err)]), (blk b24 4 [(Value.bool true)]), (blk b19 3 [(Value.int .i64 ((madeV t x).1))]), (blk b14 159 [(Value.func (.func 102) #[] #[])]), (blk b9 3 [(Value.int .i64 x)]), (blk b4 106 [(Value.int .i64 t.frm), (Value.int .i64 t.dst), vr, vb, (Value.int .i64 t.err)]), (sl vr 2 t.rows.length (pairs t.rows)), (sl vb 1 t.brk.length (ints t.brk))] := hS170.keep [0, 1, 2, 5, 6, 7, 8, 9, 10, 11, 12] (by decide) _ rfl rfl; clear hS170
     exact re_ret rfl ⟨_, rfl, ⟨rfl, (by rw [made_good (fun i hi => hrw i (by omega)) hq hpc (good_piece hq (by assumption) (by assumption))]; rfl)⟩⟩ hS171
    ·skip
     rw [decide_eq_false hb149] at hA148
     refine c_false hA148 rfl ?_
     refine c_skip ?_
     refine blk_n ?_
     have hS172 : Sep NoB w w126 [(obR l102 (.loop (rc104 .busy none))), (marksR (D103 :: [])), G105, (blk bl93 106 [(Value.int .i64 t.frm), (Value.int .i64 t.dst), vr, vb, (Value.int .i64 t.err)]), (blk b24 4 [(Value.bool false)]), (blk b19 3 [(Value.int .i64 0)]), (blk b14 159 [(Value.func (.func 102) #[] #[])]), (blk b9 3 [(Value.int .i64 x)]), (blk b4 106 [(Value.int .i64 t.frm), (Value.int .i64 t.dst), vr, vb, (Value.int .i64 t.err)]), (sl vr 2 t.rows.length (pairs t.rows)), (sl vb 1 t.brk.length (ints t.brk))] := hS127.keep [0, 1, 2, 5, 6, 7, 8, 9, 10, 11, 12] (by decide) _ rfl rfl; clear hS127
     exact re_n ⟨_, rfl, ⟨rfl, (fun j hj => by rcases Nat.lt_succ_iff_lt_or_eq.1 hj with h | h; exact hpc j h; subst h; first | exact piece_n (.inl (by assumption)) | exact piece_n (.inr (.inl (by assumption))))⟩⟩ hS172
   ·skip
    rw [decide_eq_false hb138] at hA137
    refine s3 hA137 fun a173 hA174 => ?_; clear hA137 a136
    refine s3 hA174 fun a175 hA176 => ?_; clear hA174 a173
    refine s3 hA176 fun a177 hA178 => ?_; clear hA176 a175
    refine s3 hA178 fun a179 hA180 => ?_; clear hA178 a177
    refine s1 hA180 (op_pick_f rfl (hA180.ev rfl) (evc _ _)) fun a181 hA182 => ?_; clear hA180 a179
    refine n1 ?_
    refine c_false hA182 rfl ?_
    refine c_skip ?_
    refine blk_n ?_
    have hS183 : Sep NoB w w126 [(obR l102 (.loop (rc104 .busy none))), (marksR (D103 :: [])), G105, (blk bl93 106 [(Value.int .i64 t.frm), (Value.int .i64 t.dst), vr, vb, (Value.int .i64 t.err)]), (blk b24 4 [(Value.bool false)]), (blk b19 3 [(Value.int .i64 0)]), (blk b14 159 [(Value.func (.func 102) #[] #[])]), (blk b9 3 [(Value.int .i64 x)]), (blk b4 106 [(Value.int .i64 t.frm), (Value.int .i64 t.dst), vr, vb, (Value.int .i64 t.err)]), (sl vr 2 t.rows.length (pairs t.rows)), (sl vb 1 t.brk.length (ints t.brk))] := hS127.keep [0, 1, 2, 5, 6, 7, 8, 9, 10, 11, 12] (by decide) _ rfl rfl; clear hS127
    exact re_n ⟨_, rfl, ⟨rfl, (fun j hj => by rcases Nat.lt_succ_iff_lt_or_eq.1 hj with h | h; exact hpc j h; subst h; first | exact piece_n (.inl (by assumption)) | exact piece_n (.inr (.inl (by assumption))))⟩⟩ hS183
  ·skip
   intro L_ hL_ D188 a184 w185 hA187 hS186; obtain ⟨rfl, hpc⟩ := hL_; clear hA94 hS96
   refine blk_n ?_
   refine then_n ?_
   refine m2 ?_
   refine s7 hA187 (op_store hS186 rfl ty_3 (hA187.ev rfl) (evc _ _) (i := 4) rfl (vs := [(Value.int .i64 0)]) rfl rfl rfl (Nat.le_of_ble_eq_true rfl)) ?_
   intro _ w189 hS190 hA191; clear hA187
   have hS192 : Sep NoB w w189 [(marksR (D188 :: [])), nilR, (blk bl93 106 [(Value.int .i64 t.frm), (Value.int .i64 t.dst), vr, vb, (Value.int .i64 t.err)]), (blk b24 4 [(Value.bool false)]), (blk b19 3 [(Value.int .i64 0)]), (blk b14 159 [(Value.func (.func 102) #[] #[])]), (blk b9 3 [(Value.int .i64 x)]), (blk b4 106 [(Value.int .i64 t.frm), (Value.int .i64 t.dst), vr, vb, (Value.int .i64 t.err)]), (sl vr 2 t.rows.length (pairs t.rows)), (sl vb 1 t.brk.length (ints t.brk))] := hS190; clear hS190 hS186
   refine s7 hA191 (op_store hS192 rfl ty_4 (hA191.ev rfl) (evc _ _) (i := 3) rfl (vs := [(Value.bool false)]) rfl rfl rfl (Nat.le_of_ble_eq_true rfl)) ?_
   intro _ w193 hS194 hA195; clear hA191
   have hS196 : Sep NoB w w193 [(marksR (D188 :: [])), nilR, (blk bl93 106 [(Value.int .i64 t.frm), (Value.int .i64 t.dst), vr, vb, (Value.int .i64 t.err)]), (blk b24 4 [(Value.bool false)]), (blk b19 3 [(Value.int .i64 0)]), (blk b14 159 [(Value.func (.func 102) #[] #[])]), (blk b9 3 [(Value.int .i64 x)]), (blk b4 106 [(Value.int .i64 t.frm), (Value.int .i64 t.dst), vr, vb, (Value.int .i64 t.err)]), (sl vr 2 t.rows.length (pairs t.rows)), (sl vb 1 t.brk.length (ints t.brk))] := hS194; clear hS194 hS192
   refine n1 ?_
   refine c_ret ?_
   refine fin_runM hA195 (.inl rfl) hS196 ?_
   intro w197 hS198; clear hS196
   refine ⟨_, (run_results2 hA195 rfl (.cell1 rfl ty_3 (hS198.bk 3 rfl) rfl) (.cell1 rfl ty_4 (hS198.bk 2 rfl) rfl)), ?_⟩
   have hz := (made_goodno (fun i hi => hrw i (by omega)) (fun i hi => hpc i (by omega)))
   exact ⟨by unfold madeV; rw [hz]; rfl, hS198.ext⟩
  ·skip
   intro c_ hc_; cases hc_
   intro L_ hL_ D203 a199 w200 hA202 hS201; obtain ⟨rfl, hsm⟩ := hL_; clear hA94 hS96
   refine c_ret ?_
   refine blk_ret ?_
   refine then_ret ?_
   refine fin_runM hA202 (.inl rfl) hS201 ?_
   intro w204 hS205; clear hS201
   refine ⟨_, (run_results2 hA202 rfl (.cell1 rfl ty_3 (hS205.bk 3 rfl) rfl) (.cell1 rfl ty_4 (hS205.bk 2 rfl) rfl)), ?_⟩
   exact ⟨by rw [hsm], hS205.ext⟩
theorem makes_up (t : TabD) (vr vb : Value) (w : World) (hr : SlAt w vr 2 t.rows.length (pairs t.rows)) (hb : SlAt w vb 1 t.brk.length (ints t.brk)) (hrl : t.rows.length ≤ 1000000) (hbl : t.brk.length ≤ 1000000) (n : Int) (hV : TabV n t) (x : Int) :
  Calls Try.prog 101 #[(Value.agg #[(Value.int .i64 t.frm), (Value.int .i64 t.dst), vr, vb, (Value.int .i64 t.err)]), (Value.int .i64 x), (Value.agg #[(Value.func (.func 103) #[] #[])])] w (Ret fun v w' => v = .tuple #[.int .i64 (madeV t x).2, .bool (madeF t x).isSome] ∧ Ext NoB w w') := by
 refine calls_enterM Try.func101 rfl fun a0 hA0 => ?_
 replace hA0 : Fr 62 (marks []) [(0, (Value.agg #[(Value.int .i64 t.frm), (Value.int .i64 t.dst), vr, vb, (Value.int .i64 t.err)])), (1, (Value.int .i64 x)), (2, (Value.agg #[(Value.func (.func 103) #[] #[])]))] a0 := hA0
 have hS0 : Sep NoB w w [(marksR []), (sl vr 2 t.rows.length (pairs t.rows)), (sl vb 1 t.brk.length (ints t.brk))] := sep_marks (sep_ro ⟨rfl, hr, rfl, hb, trivial⟩)
 refine m2 ?_
 refine s2 hA0 (op_box hS0 rfl (hA0.ev rfl) (cs := [(Value.int .i64 t.frm), (Value.int .i64 t.dst), vr, vb, (Value.int .i64 t.err)]) rfl) ?_
 rintro a1 _ w3 ⟨b4, rfl, hS5⟩ hA2; clear hA0 hS0 a0
 refine s2 hA2 (op_box hS5 rfl (hA2.ev rfl) (cs := [(Value.int .i64 x)]) rfl) ?_
 rintro a6 _ w8 ⟨b9, rfl, hS10⟩ hA7; clear hA2 hS5 a1
 refine s2 hA7 (op_box hS10 rfl (hA7.ev rfl) (cs := [(Value.func (.func 103) #[] #[])]) rfl) ?_
 rintro a11 _ w13 ⟨b14, rfl, hS15⟩ hA12; clear hA7 hS10 a6
 refine s2 hA12 (op_alloc hS15 rfl ze_3 (cs := [(Value.int .i64 0)]) rfl) ?_
 rintro a16 _ w18 ⟨b19, rfl, hS20⟩ hA17; clear hA12 hS15 a11
 refine s2 hA17 (op_alloc hS20 rfl ze_4 (cs := [(Value.bool false)]) rfl) ?_
 rintro a21 _ w23 ⟨b24, rfl, hS25⟩ hA22; clear hA17 hS20 a16
 refine n2 ?_
 refine m2 ?_
 refine s1 hA22 (op_field rfl fd_106_2 (hA22.ev rfl)) fun a26 hA27 => ?_; clear hA22 a21
 refine s1 hA27 (op_load1 rfl ty_104 (hA27.ev rfl) (hS25.bk 4 rfl) rfl) fun a28 hA29 => ?_; clear hA27 a26
 refine s1 hA29 (op_lenS rfl un_104 (hA29.ev rfl) (hS25.sk 6 rfl)) fun a30 hA31 => ?_; clear hA29 a28
 refine s1 hA31 (op_move rfl (evc _ _)) fun a32 hA33 => ?_; clear hA31 a30
 refine n1 ?_
 refine c_block ?_
 have hA34 := hA33.as [(15, (Value.int .i64 0)), (14, (Value.int .i64 (t.rows.length : Int))), (13, vr), (7, (bptr b24 0)), (6, (bptr b19 0)), (5, (bptr b14 0)), (4, (bptr b9 0)), (3, (bptr b4 0))] rfl; clear hA33
 refine c_loop (G := Nat) (fun (k : Nat) a_ w_ => Fr 62 (marks []) [(15, (Value.int .i64 (k : Int))), (14, (Value.int .i64 (t.rows.length : Int))), (13, vr), (7, (bptr b24 0)), (6, (bptr b19 0)), (5, (bptr b14 0)), (4, (bptr b9 0)), (3, (bptr b4 0))] a_ ∧ Sep NoB w w_ [(blk b24 4 [(Value.bool false)]), (blk b19 3 [(Value.int .i64 0)]), (blk b14 159 [(Value.func (.func 103) #[] #[])]), (blk b9 3 [(Value.int .i64 x)]), (blk b4 106 [(Value.int .i64 t.frm), (Value.int .i64 t.dst), vr, vb, (Value.int .i64 t.err)]), (marksR []), (sl vr 2 t.rows.length (pairs t.rows)), (sl vb 1 t.brk.length (ints t.brk))] ∧ (k ≤ t.rows.length) ∧ (∀ i, i < k → ¬ tx t i = x)) (fun k => t.rows.length - k) 0 ⟨hA34.as _ rfl, hS25, by omega, (fun _ h => absurd h (Nat.not_lt_zero _))⟩ ?_
 clear hA34 hS25 a32
 rintro k a35 w37 ⟨hA36, hS38, hkk, hrw⟩
 refine m2 ?_
 refine s1 hA36 (op_lss rfl (hA36.ev rfl) (hA36.ev rfl)) fun a39 hA40 => ?_; clear hA36 a35
 refine n2 ?_
 by_cases hb41 : (k : Int) < (t.rows.length : Int)
 ·skip
  rw [decide_eq_true hb41] at hA40
  refine c_true hA40 rfl ?_
  refine c_skip ?_
  refine then_n ?_
  refine c_seq ?_
  refine c_block ?_
  refine m2 ?_
  refine s1 hA40 (op_indexS rfl un_104 ty_107 (hA40.ev rfl) (i := k) (hA40.ev rfl) (hS38.sk 6 rfl) (by decide) (by omega)) fun a42 hA43 => ?_; clear hA40 a39
  refine s1 hA43 (op_loadAE rfl ty_107 (hA43.ev rfl) (hS38.sk 6 rfl) (pairs_all (by omega)) rfl (by decide)) fun a44 hA45 => ?_; clear hA43 a42
  refine s2 hA45 (op_alloc hS38 rfl ze_107 (cs := [(Value.int .i64 0), (Value.int .i64 0)]) rfl) ?_
  rintro a46 _ w48 ⟨b49, rfl, hS50⟩ hA47; clear hA45 hS38 a44
  refine s7 hA47 (op_store hS50 rfl ty_107 (hA47.ev rfl) (hA47.ev rfl) (i := 0) rfl (vs := [(Value.int .i64 ((t.rows.getD k (0, 0)).1)), (Value.int .i64 ((t.rows.getD k (0, 0)).2))]) rfl rfl rfl (Nat.le_of_ble_eq_true rfl)) ?_
  intro _ w51 hS52 hA53; clear hA47
  have hS54 : Sep NoB w w51 [(blk b49 107 [(Value.int .i64 ((t.rows.getD k (0, 0)).1)), (Value.int .i64 ((t.rows.getD k (0, 0)).2))]), (blk b24 4 [(Value.bool false)]), (blk b19 3 [(Value.int .i64 0)]), (blk b14 159 [(Value.func (.func 103) #[] #[])]), (blk b9 3 [(Value.int .i64 x)]), (blk b4 106 [(Value.int .i64 t.frm), (Value.int .i64 t.dst), vr, vb, (Value.int .i64 t.err)]), (marksR []), (sl vr 2 t.rows.length (pairs t.rows)), (sl vb 1 t.brk.length (ints t.brk))] := hS52; clear hS52 hS50
  refine n4 ?_
  refine s1 hA53 (op_field rfl fd_107_0 (hA53.ev rfl)) fun a55 hA56 => ?_; clear hA53 a46
  refine s1 hA56 (op_load1 rfl ty_3 (hA56.ev rfl) (hS54.bk 0 rfl) rfl) fun a57 hA58 => ?_; clear hA56 a55
  refine s1 hA58 (op_load1 rfl ty_3 (hA58.ev rfl) (hS54.bk 4 rfl) rfl) fun a59 hA60 => ?_; clear hA58 a57
  refine s1 hA60 (op_eql rfl (hA60.ev rfl) (hA60.ev rfl)) fun a61 hA62 => ?_; clear hA60 a59
  refine n1 ?_
  by_cases hb63 : ((t.rows.getD k (0, 0)).1) = x
  ·skip
   rw [decide_eq_true hb63] at hA62
   refine c_true hA62 rfl ?_
   refine c_seq ?_
   have hA64 := hA62.as [(9, (bptr b49 0)), (7, (bptr b24 0)), (6, (bptr b19 0))] rfl; clear hA62
   refine c_region ?_
   refine s1 hA64 (op_field rfl fd_107_1 (hA64.ev rfl)) fun a65 hA66 => ?_; clear hA64 a61
   refine s1 hA66 (op_load1 rfl ty_3 (hA66.ev rfl) (hS54.bk 0 rfl) rfl) fun a67 hA68 => ?_; clear hA66 a65
   refine s7 hA68 (op_store hS54 rfl ty_3 (hA68.ev rfl) (hA68.ev rfl) (i := 2) rfl (vs := [(Value.int .i64 ((t.rows.getD k (0, 0)).2))]) rfl rfl rfl (Nat.le_of_ble_eq_true rfl)) ?_
   intro _ w69 hS70 hA71; clear hA68
   have hS72 : Sep NoB w w69 [(blk b49 107 [(Value.int .i64 ((t.rows.getD k (0, 0)).1)), (Value.int .i64 ((t.rows.getD k (0, 0)).2))]), (blk b24 4 [(Value.bool false)]), (blk b19 3 [(Value.int .i64 ((t.rows.getD k (0, 0)).2))]), (blk b14 159 [(Value.func (.func 103) #[] #[])]), (blk b9 3 [(Value.int .i64 x)]), (blk b4 106 [(Value.int .i64 t.frm), (Value.int .i64 t.dst), vr, vb, (Value.int .i64 t.err)]), (marksR []), (sl vr 2 t.rows.length (pairs t.rows)), (sl vb 1 t.brk.length (ints t.brk))] := hS70; clear hS70 hS54
   refine s7 hA71 (op_store hS72 rfl ty_4 (hA71.ev rfl) (evc _ _) (i := 1) rfl (vs := [(Value.bool true)]) rfl rfl rfl (Nat.le_of_ble_eq_true rfl)) ?_
   intro _ w73 hS74 hA75; clear hA71
   have hS76 : Sep NoB w w73 [(blk b49 107 [(Value.int .i64 ((t.rows.getD k (0, 0)).1)), (Value.int .i64 ((t.rows.getD k (0, 0)).2))]), (blk b24 4 [(Value.bool true)]), (blk b19 3 [(Value.int .i64 ((t.rows.getD k (0, 0)).2))]), (blk b14 159 [(Value.func (.func 103) #[] #[])]), (blk b9 3 [(Value.int .i64 x)]), (blk b4 106 [(Value.int .i64 t.frm), (Value.int .i64 t.dst), vr, vb, (Value.int .i64 t.err)]), (marksR []), (sl vr 2 t.rows.length (pairs t.rows)), (sl vb 1 t.brk.length (ints t.brk))] := hS74; clear hS74 hS72
   refine n1 ?_
   refine c_ret ?_
   refine blk_ret ?_
   refine then_ret ?_
   refine then_ret ?_
   refine blk_ret ?_
   refine then_ret ?_
   have hS77 : Sep NoB w w73 [(marksR []), (blk b49 107 [(Value.int .i64 ((t.rows.getD k (0, 0)).1)), (Value.int .i64 ((t.rows.getD k (0, 0)).2))]), (blk b24 4 [(Value.bool true)]), (blk b19 3 [(Value.int .i64 ((t.rows.getD k (0, 0)).2))]), (blk b14 159 [(Value.func (.func 103) #[] #[])]), (blk b9 3 [(Value.int .i64 x)]), (blk b4 106 [(Value.int .i64 t.frm), (Value.int .i64 t.dst), vr, vb, (Value.int .i64 t.err)]), (sl vr 2 t.rows.length (pairs t.rows)), (sl vb 1 t.brk.length (ints t.brk))] := hS76.keep [6, 0, 1, 2, 3, 4, 5, 7, 8] (by decide) _ rfl rfl; clear hS76
   refine fin_runM hA75 (.inl rfl) hS77 ?_
   intro w78 hS79; clear hS77
   refine ⟨_, (run_results2 hA75 rfl (.cell1 rfl ty_3 (hS79.bk 2 rfl) rfl) (.cell1 rfl ty_4 (hS79.bk 1 rfl) rfl)), ?_⟩
   have hz := (made_row (k := k) (by omega) (fun i hi => hrw i (by omega)) (by assumption))
   exact ⟨by unfold madeV; rw [hz]; rfl, hS79.ext⟩
  ·skip
   rw [decide_eq_false hb63] at hA62
   refine c_false hA62 rfl ?_
   refine c_skip ?_
   refine blk_n ?_
   refine then_n ?_
   have hA80 := hA62.as [(15, (Value.int .i64 (k : Int))), (14, (Value.int .i64 (t.rows.length : Int))), (13, vr), (7, (bptr b24 0)), (6, (bptr b19 0)), (5, (bptr b14 0)), (4, (bptr b9 0)), (3, (bptr b4 0))] rfl; clear hA62
   refine c_region ?_
   refine s1 hA80 (op_add rfl (hA80.ev rfl) (evc _ _) (by omega) (by omega)) fun a81 hA82 => ?_; clear hA80 a61
   refine s1 hA82 (op_move rfl (hA82.ev rfl)) fun a83 hA84 => ?_; clear hA82 a81
   refine wl_nil ?_
   have hS85 : Sep NoB w w51 [(blk b24 4 [(Value.bool false)]), (blk b19 3 [(Value.int .i64 0)]), (blk b14 159 [(Value.func (.func 103) #[] #[])]), (blk b9 3 [(Value.int .i64 x)]), (blk b4 106 [(Value.int .i64 t.frm), (Value.int .i64 t.dst), vr, vb, (Value.int .i64 t.err)]), (marksR []), (sl vr 2 t.rows.length (pairs t.rows)), (sl vb 1 t.brk.length (ints t.brk))] := hS54.keep [1, 2, 3, 4, 5, 6, 7, 8] (by decide) _ rfl rfl; clear hS54
   exact then_n ⟨k + 1, ⟨hA84.as _ rfl, hS85, by omega, (fun i hi => by rcases Nat.lt_succ_iff_lt_or_eq.1 hi with h | h; exact hrw i h; subst h; assumption)⟩, by omega⟩
 ·skip
  rw [decide_eq_false hb41] at hA40
  refine c_false hA40 rfl ?_
  refine c_exit ?_
  refine then_exit ?_
  refine then_exit ?_
  refine blk_hit ?_
  refine then_n ?_
  refine c_seq ?_
  refine m2 ?_
  refine s1 hA40 (op_loadA rfl ty_106 (hA40.ev rfl) (hS38.bk 4 rfl) (l := [(Value.int .i64 t.frm), (Value.int .i64 t.dst), vr, vb, (Value.int .i64 t.err)]) rfl rfl) fun a86 hA87 => ?_; clear hA40 a39
  refine s2 hA87 (op_call rfl en_116 (ev1 (hA87.ev rfl)) (pieces_ok t vr vb _ hr.one hb.one)) ?_
  rintro a88 _ w90 ⟨bl93, rfl, hT91⟩ hA89; have hS92 := hS38.callS hT91 rfl; clear hT91 hA87 hS38 a86
  refine n1 ?_
  refine c_block ?_
  have hA94 := hA89.as [(27, (Value.func (.func 121) #[] #[(bptr bl93 0)])), (7, (bptr b24 0)), (6, (bptr b19 0)), (5, (bptr b14 0)), (4, (bptr b9 0))] rfl; clear hA89
  have hS95 := hS92.nilR; clear hS92
  have hS96 : Sep NoB w w90 [(marksR []), nilR, (blk bl93 106 [(Value.int .i64 t.frm), (Value.int .i64 t.dst), vr, vb, (Value.int .i64 t.err)]), (blk b24 4 [(Value.bool false)]), (blk b19 3 [(Value.int .i64 0)]), (blk b14 159 [(Value.func (.func 103) #[] #[])]), (blk b9 3 [(Value.int .i64 x)]), (blk b4 106 [(Value.int .i64 t.frm), (Value.int .i64 t.dst), vr, vb, (Value.int .i64 t.err)]), (sl vr 2 t.rows.length (pairs t.rows)), (sl vb 1 t.brk.length (ints t.brk))] := hS95.keep [7, 0, 1, 2, 3, 4, 5, 6, 8, 9] (by decide) _ rfl rfl; clear hS95
  refine c_rangeG hA94 nilR rfl hS96 (hA94.ev rfl) en_121 ((goodF t).length) (fun q => #[.agg #[.int .i64 (t.rows.getD ((goodF t).getD q 0) (0, 0)).1, .int .i64 (t.rows.getD ((goodF t).getD q 0) (0, 0)).2], .agg #[.int .i64 (t.rows.getD ((goodF t).getD q 0 + 1) (0, 0)).1, .int .i64 (t.rows.getD ((goodF t).getD q 0 + 1) (0, 0)).2]]) (fun _ => rfl) [rob bl93 106 [.int .i64 t.frm, .int .i64 t.dst, vr, vb, .int .i64 t.err], sl vr 2 t.rows.length (pairs t.rows), sl vb 1 t.brk.length (ints t.brk)] (fun r hr => by simp only [List.mem_cons, List.not_mem_nil, or_false] at hr; rcases hr with rfl | rfl | rfl <;> rfl) (pieces_it bl93 t vr vb hV.len hrl hbl) (fun q L_ => L_ = [(blk bl93 106 [(Value.int .i64 t.frm), (Value.int .i64 t.dst), vr, vb, (Value.int .i64 t.err)]), (blk b24 4 [(Value.bool false)]), (blk b19 3 [(Value.int .i64 0)]), (blk b14 159 [(Value.func (.func 103) #[] #[])]), (blk b9 3 [(Value.int .i64 x)]), (blk b4 106 [(Value.int .i64 t.frm), (Value.int .i64 t.dst), vr, vb, (Value.int .i64 t.err)]), (sl vr 2 t.rows.length (pairs t.rows)), (sl vb 1 t.brk.length (ints t.brk))] ∧ (∀ j, j < q → inPiece t x ((goodF t).getD j 0) = false)) (fun L_ => L_ = [(blk bl93 106 [(Value.int .i64 t.frm), (Value.int .i64 t.dst), vr, vb, (Value.int .i64 t.err)]), (blk b24 4 [(Value.bool true)]), (blk b19 3 [(Value.int .i64 ((madeV t x).2))]), (blk b14 159 [(Value.func (.func 103) #[] #[])]), (blk b9 3 [(Value.int .i64 x)]), (blk b4 106 [(Value.int .i64 t.frm), (Value.int .i64 t.dst), vr, vb, (Value.int .i64 t.err)]), (sl vr 2 t.rows.length (pairs t.rows)), (sl vb 1 t.brk.length (ints t.brk))] ∧ ((madeF t x).isSome = true)) (some .ret) ⟨rfl, (fun _ h => absurd h (Nat.not_lt_zero _))⟩ (fun q L_ hI_ G_ W_ r1_ r2_ hW_ => by obtain ⟨rfl, hpc⟩ := hI_; exact (Sep.keep (hW_.to_ro (i := 3) rfl) [2, 3, 9, 10] (by decide) _ rfl rfl)) (fun L_ hI_ G_ W_ r1_ r2_ hW_ => by obtain ⟨rfl, hsm⟩ := hI_; exact (Sep.keep (hW_.to_ro (i := 3) rfl) [2, 3, 9, 10] (by decide) _ rfl rfl)) ?_ ?_ ?_
  ·skip
   intro q hq L_ hL_ G105 hG106 l102 D103 rc104 a97 w98 ha101 hS99; obtain ⟨rfl, hpc⟩ := hL_
   have hA100 : Fr 62 [] [(29, (Value.agg #[(Value.int .i64 ((t.rows.getD (((goodF t).getD q 0) + 1) (0, 0)).1)), (Value.int .i64 ((t.rows.getD (((goodF t).getD q 0) + 1) (0, 0)).2))])), (28, (Value.agg #[(Value.int .i64 ((t.rows.getD (((goodF t).getD q 0)) (0, 0)).1)), (Value.int .i64 ((t.rows.getD (((goodF t).getD q 0)) (0, 0)).2))])), (27, (Value.func (.func 121) #[] #[(bptr bl93 0)])), (7, (bptr b24 0)), (6, (bptr b19 0)), (5, (bptr b14 0)), (4, (bptr b9 0))] a97 := by rw [ha101]; exact Fr.round2 hA94 (by decide) (by decide)
   clear ha101 hS96
   have hgq : ((goodF t).getD q 0) < t.rows.length - 1 := (good_mem hq).1; have hbn := hV.bnd _ (show ((goodF t).getD q 0) < t.rows.length by omega); have hbn1 := hV.bnd (((goodF t).getD q 0) + 1) (by omega); unfold tx ty at hbn hbn1
   refine m2 ?_
   refine s2 hA100 (op_alloc hS99 rfl ze_107 (cs := [(Value.int .i64 0), (Value.int .i64 0)]) rfl) ?_
   rintro a107 _ w109 ⟨b110, rfl, hS111⟩ hA108; clear hA100 hS99 a97
   refine s7 hA108 (op_store hS111 rfl ty_107 (hA108.ev rfl) (hA108.ev rfl) (i := 0) rfl (vs := [(Value.int .i64 ((t.rows.getD (((goodF t).getD q 0)) (0, 0)).1)), (Value.int .i64 ((t.rows.getD (((goodF t).getD q 0)) (0, 0)).2))]) rfl rfl rfl (Nat.le_of_ble_eq_true rfl)) ?_
   intro _ w112 hS113 hA114; clear hA108
   have hS115 : Sep NoB w w112 [(blk b110 107 [(Value.int .i64 ((t.rows.getD (((goodF t).getD q 0)) (0, 0)).1)), (Value.int .i64 ((t.rows.getD (((goodF t).getD q 0)) (0, 0)).2))]), (obR l102 (.loop (rc104 .ready none))), (marksR (D103 :: [])), G105, (blk bl93 106 [(Value.int .i64 t.frm), (Value.int .i64 t.dst), vr, vb, (Value.int .i64 t.err)]), (blk b24 4 [(Value.bool false)]), (blk b19 3 [(Value.int .i64 0)]), (blk b14 159 [(Value.func (.func 103) #[] #[])]), (blk b9 3 [(Value.int .i64 x)]), (blk b4 106 [(Value.int .i64 t.frm), (Value.int .i64 t.dst), vr, vb, (Value.int .i64 t.err)]), (sl vr 2 t.rows.length (pairs t.rows)), (sl vb 1 t.brk.length (ints t.brk))] := hS113; clear hS113 hS111
   refine n3 ?_
   refine s2 hA114 (op_alloc hS115 rfl ze_107 (cs := [(Value.int .i64 0), (Value.int .i64 0)]) rfl) ?_
   rintro a116 _ w118 ⟨b119, rfl, hS120⟩ hA117; clear hA114 hS115 a107
   refine s7 hA117 (op_store hS120 rfl ty_107 (hA117.ev rfl) (hA117.ev rfl) (i := 0) rfl (vs := [(Value.int .i64 ((t.rows.getD (((goodF t).getD q 0) + 1) (0, 0)).1)), (Value.int .i64 ((t.rows.getD (((goodF t).getD q 0) + 1) (0, 0)).2))]) rfl rfl rfl (Nat.le_of_ble_eq_true rfl)) ?_
   intro _ w121 hS122 hA123; clear hA117
   have hS124 : Sep NoB w w121 [(blk b119 107 [(Value.int .i64 ((t.rows.getD (((goodF t).getD q 0) + 1) (0, 0)).1)), (Value.int .i64 ((t.rows.getD (((goodF t).getD q 0) + 1) (0, 0)).2))]), (blk b110 107 [(Value.int .i64 ((t.rows.getD (((goodF t).getD q 0)) (0, 0)).1)), (Value.int .i64 ((t.rows.getD (((goodF t).getD q 0)) (0, 0)).2))]), (obR l102 (.loop (rc104 .ready none))), (marksR (D103 :: [])), G105, (blk bl93 106 [(Value.int .i64 t.frm), (Value.int .i64 t.dst), vr, vb, (Value.int .i64 t.err)]), (blk b24 4 [(Value.bool false)]), (blk b19 3 [(Value.int .i64 0)]), (blk b14 159 [(Value.func (.func 103) #[] #[])]), (blk b9 3 [(Value.int .i64 x)]), (blk b4 106 [(Value.int .i64 t.frm), (Value.int .i64 t.dst), vr, vb, (Value.int .i64 t.err)]), (sl vr 2 t.rows.length (pairs t.rows)), (sl vb 1 t.brk.length (ints t.brk))] := hS122; clear hS122 hS120
   refine wl_nil ?_
   have hS125 : Sep NoB w w121 [(obR l102 (.loop (rc104 .ready none))), (marksR (D103 :: [])), G105, (blk b119 107 [(Value.int .i64 ((t.rows.getD (((goodF t).getD q 0) + 1) (0, 0)).1)), (Value.int .i64 ((t.rows.getD (((goodF t).getD q 0) + 1) (0, 0)).2))]), (blk b110 107 [(Value.int .i64 ((t.rows.getD (((goodF t).getD q 0)) (0, 0)).1)), (Value.int .i64 ((t.rows.getD (((goodF t).getD q 0)) (0, 0)).2))]), (blk bl93 106 [(Value.int .i64 t.frm), (Value.int .i64 t.dst), vr, vb, (Value.int .i64 t.err)]), (blk b24 4 [(Value.bool false)]), (blk b19 3 [(Value.int .i64 0)]), (blk b14 159 [(Value.func (.func 103) #[] #[])]), (blk b9 3 [(Value.int .i64 x)]), (blk b4 106 [(Value.int .i64 t.frm), (Value.int .i64 t.dst), vr, vb, (Value.int .i64 t.err)]), (sl vr 2 t.rows.length (pairs t.rows)), (sl vb 1 t.brk.length (ints t.brk))] := hS124.keep [2, 3, 4, 0, 1, 5, 6, 7, 8, 9, 10, 11, 12] (by decide) _ rfl rfl; clear hS124
   refine ⟨rfl, _, hS125, ?_⟩; intro w126 hS127; clear hS125
   refine c_block ?_
   refine m2 ?_
   refine s1 hA123 (op_field rfl fd_107_0 (hA123.ev rfl)) fun a128 hA129 => ?_; clear hA123 a116
   refine s1 hA129 (op_load1 rfl ty_3 (hA129.ev rfl) (hS127.bk 4 rfl) rfl) fun a130 hA131 => ?_; clear hA129 a128
   refine s1 hA131 (op_load1 rfl ty_3 (hA131.ev rfl) (hS127.bk 9 rfl) rfl) fun a132 hA133 => ?_; clear hA131 a130
   refine s1 hA133 (op_lss rfl (hA133.ev rfl) (hA133.ev rfl)) fun a134 hA135 => ?_; clear hA133 a132
   refine s1 hA135 (op_move rfl (hA135.ev rfl)) fun a136 hA137 => ?_; clear hA135 a134
   by_cases hb138 : ((t.rows.getD (((goodF t).getD q 0)) (0, 0)).1) < x
   ·skip
    rw [decide_eq_true hb138] at hA137
    refine s5 hA137 (op_load1 rfl ty_3 (hA137.ev rfl) (hS127.bk 9 rfl) rfl) fun a139 hA140 => ?_; clear hA137 a136
    refine s5 hA140 (op_field rfl fd_107_0 (hA140.ev rfl)) fun a141 hA142 => ?_; clear hA140 a139
    refine s5 hA142 (op_load1 rfl ty_3 (hA142.ev rfl) (hS127.bk 3 rfl) rfl) fun a143 hA144 => ?_; clear hA142 a141
    refine s5 hA144 (op_lss rfl (hA144.ev rfl) (hA144.ev rfl)) fun a145 hA146 => ?_; clear hA144 a143
    refine s1 hA146 (op_pick_t rfl (hA146.ev rfl) (hA146.ev rfl)) fun a147 hA148 => ?_; clear hA146 a145
    refine n1 ?_
    by_cases hb149 : x < ((t.rows.getD (((goodF t).getD q 0) + 1) (0, 0)).1)
    ·skip
     rw [decide_eq_true hb149] at hA148
     have hpb := piece_bds (v := x) (k := ((goodF t).getD q 0)) hV (by omega) (by unfold tx; omega) (by unfold tx; omega); unfold pieceN pieceD tx ty at hpb; have hdb := downF_bd hpb.1 hpb.2; have hub := upF_bd hpb.1 hpb.2
     refine c_true hA148 rfl ?_
     refine c_seq ?_
     have hA150 := hA148.as [(11, (bptr b119 0)), (10, (bptr b110 0)), (7, (bptr b24 0)), (6, (bptr b19 0)), (5, (bptr b14 0)), (4, (bptr b9 0))] rfl; clear hA148
     have hA151 := hA150.as [(11, (bptr b119 0)), (10, (bptr b110 0)), (7, (bptr b24 0)), (6, (bptr b19 0)), (5, (bptr b14 0)), (4, (bptr b9 0))] rfl; clear hA150
     refine c_drawn mixed hA151 hS127 21 [[], [0], [], [2], [], [], [5], [4, 6], [], [8], [], [10], [9, 11], [7, 12], [], [14], [], [16], [15, 17], [13, 18], [3, 19]] [(Yd.val (bptr b110 1)), (Yd.val (Value.int .i64 ((t.rows.getD (((goodF t).getD q 0)) (0, 0)).2))), (Yd.val (bptr b14 0)), (Yd.val (Value.func (.func 103) #[] #[])), (Yd.val (Value.int .i64 x)), (Yd.val (bptr b110 0)), (Yd.val (Value.int .i64 ((t.rows.getD (((goodF t).getD q 0)) (0, 0)).1))), (Yd.val (Value.int .i64 (x - ((t.rows.getD (((goodF t).getD q 0)) (0, 0)).1)))), (Yd.val (bptr b119 1)), (Yd.val (Value.int .i64 ((t.rows.getD (((goodF t).getD q 0) + 1) (0, 0)).2))), (Yd.val (bptr b110 1)), (Yd.val (Value.int .i64 ((t.rows.getD (((goodF t).getD q 0)) (0, 0)).2))), (Yd.val (Value.int .i64 (((t.rows.getD (((goodF t).getD q 0) + 1) (0, 0)).2) - ((t.rows.getD (((goodF t).getD q 0)) (0, 0)).2)))), (Yd.val (Value.int .i64 ((x - ((t.rows.getD (((goodF t).getD q 0)) (0, 0)).1)) * (((t.rows.getD (((goodF t).getD q 0) + 1) (0, 0)).2) - ((t.rows.getD (((goodF t).getD q 0)) (0, 0)).2))))), (Yd.val (bptr b119 0)), (Yd.val (Value.int .i64 ((t.rows.getD (((goodF t).getD q 0) + 1) (0, 0)).1))), (Yd.val (bptr b110 0)), (Yd.val (Value.int .i64 ((t.rows.getD (((goodF t).getD q 0)) (0, 0)).1))), (Yd.val (Value.int .i64 (((t.rows.getD (((goodF t).getD q 0) + 1) (0, 0)).1) - ((t.rows.getD (((goodF t).getD q 0)) (0, 0)).1)))), (Yd.val (Value.agg #[(Value.int .i64 ((x - ((t.rows.getD (((goodF t).getD q 0)) (0, 0)).1)) * (((t.rows.getD (((goodF t).getD q 0) + 1) (0, 0)).2) - ((t.rows.getD (((goodF t).getD q 0)) (0, 0)).2)))), (Value.int .i64 (((t.rows.getD (((goodF t).getD q 0) + 1) (0, 0)).1) - ((t.rows.getD (((goodF t).getD q 0)) (0, 0)).1)))])), (Yd.val (Value.int .i64 (upF ((x - ((t.rows.getD (((goodF t).getD q 0)) (0, 0)).1)) * (((t.rows.getD (((goodF t).getD q 0) + 1) (0, 0)).2) - ((t.rows.getD (((goodF t).getD q 0)) (0, 0)).2))) (((t.rows.getD (((goodF t).getD q 0) + 1) (0, 0)).1) - ((t.rows.getD (((goodF t).getD q 0)) (0, 0)).1)))))] (by decide +kernel) rfl rfl ?_ ?_
     ·skip
      refine ⟨fun a w hA hS hd => ?_, ?_⟩
      ·skip
       exact opG_of rfl (dv (op_field rfl fd_107_1 (hA.ev rfl)) hS rfl)
      refine ⟨fun a w hA hS hd => ?_, ?_⟩
      ·skip
       have e0 := has_ev (hd 0 (by decide)) rfl (fun _ h => h)
       exact opG_of rfl (dv (op_load1 rfl ty_3 (tmp_ev e0) (hS.bk 4 rfl) rfl) hS rfl)
      refine ⟨fun a w hA hS hd => ?_, ?_⟩
      ·skip
       exact opG_of rfl (dv (op_field rfl fd_159_0 (hA.ev rfl)) hS rfl)
      refine ⟨fun a w hA hS hd => ?_, ?_⟩
      ·skip
       have e2 := has_ev (hd 2 (by decide)) rfl (fun _ h => h)
       exact opG_of rfl (dv (op_load1 rfl ty_154 (tmp_ev e2) (hS.bk 8 rfl) rfl) hS rfl)
      refine ⟨fun a w hA hS hd => ?_, ?_⟩
      ·skip
       exact opG_of rfl (dv (op_load1 rfl ty_3 (hA.ev rfl) (hS.bk 9 rfl) rfl) hS rfl)
      refine ⟨fun a w hA hS hd => ?_, ?_⟩
      ·skip
       exact opG_of rfl (dv (op_field rfl fd_107_0 (hA.ev rfl)) hS rfl)
      refine ⟨fun a w hA hS hd => ?_, ?_⟩
      ·skip
       have e5 := has_ev (hd 5 (by decide)) rfl (fun _ h => h)
       exact opG_of rfl (dv (op_load1 rfl ty_3 (tmp_ev e5) (hS.bk 4 rfl) rfl) hS rfl)
      refine ⟨fun a w hA hS hd => ?_, ?_⟩
      ·skip
       have e4 := has_ev (hd 4 (by decide)) rfl (fun _ h => h)
       have e6 := has_ev (hd 6 (by decide)) rfl (fun _ h => h)
       exact opG_of rfl (dv (op_sub rfl (tmp_ev e4) (tmp_ev e6) (by omega) (by omega)) hS rfl)
      refine ⟨fun a w hA hS hd => ?_, ?_⟩
      ·skip
       exact opG_of rfl (dv (op_field rfl fd_107_1 (hA.ev rfl)) hS rfl)
      refine ⟨fun a w hA hS hd => ?_, ?_⟩
      ·skip
       have e8 := has_ev (hd 8 (by decide)) rfl (fun _ h => h)
       exact opG_of rfl (dv (op_load1 rfl ty_3 (tmp_ev e8) (hS.bk 3 rfl) rfl) hS rfl)
      refine ⟨fun a w hA hS hd => ?_, ?_⟩
      ·skip
       exact opG_of rfl (dv (op_field rfl fd_107_1 (hA.ev rfl)) hS rfl)
      refine ⟨fun a w hA hS hd => ?_, ?_⟩
      ·skip
       have e10 := has_ev (hd 10 (by decide)) rfl (fun _ h => h)
       exact opG_of rfl (dv (op_load1 rfl ty_3 (tmp_ev e10) (hS.bk 4 rfl) rfl) hS rfl)
      refine ⟨fun a w hA hS hd => ?_, ?_⟩
      ·skip
       have e9 := has_ev (hd 9 (by decide)) rfl (fun _ h => h)
       have e11 := has_ev (hd 11 (by decide)) rfl (fun _ h => h)
       exact opG_of rfl (dv (op_sub rfl (tmp_ev e9) (tmp_ev e11) (by omega) (by omega)) hS rfl)
      refine ⟨fun a w hA hS hd => ?_, ?_⟩
      ·skip
       have e7 := has_ev (hd 7 (by decide)) rfl (fun _ h => h)
       have e12 := has_ev (hd 12 (by decide)) rfl (fun _ h => h)
       exact opG_of rfl (dv (op_mul rfl (tmp_ev e7) (tmp_ev e12) (by omega) (by omega)) hS rfl)
      refine ⟨fun a w hA hS hd => ?_, ?_⟩
      ·skip
       exact opG_of rfl (dv (op_field rfl fd_107_0 (hA.ev rfl)) hS rfl)
      refine ⟨fun a w hA hS hd => ?_, ?_⟩
      ·skip
       have e14 := has_ev (hd 14 (by decide)) rfl (fun _ h => h)
       exact opG_of rfl (dv (op_load1 rfl ty_3 (tmp_ev e14) (hS.bk 3 rfl) rfl) hS rfl)
      refine ⟨fun a w hA hS hd => ?_, ?_⟩
      ·skip
       exact opG_of rfl (dv (op_field rfl fd_107_0 (hA.ev rfl)) hS rfl)
      refine ⟨fun a w hA hS hd => ?_, ?_⟩
      ·skip
       have e16 := has_ev (hd 16 (by decide)) rfl (fun _ h => h)
       exact opG_of rfl (dv (op_load1 rfl ty_3 (tmp_ev e16) (hS.bk 4 rfl) rfl) hS rfl)
      refine ⟨fun a w hA hS hd => ?_, ?_⟩
      ·skip
       have e15 := has_ev (hd 15 (by decide)) rfl (fun _ h => h)
       have e17 := has_ev (hd 17 (by decide)) rfl (fun _ h => h)
       exact opG_of rfl (dv (op_sub rfl (tmp_ev e15) (tmp_ev e17) (by omega) (by omega)) hS rfl)
      refine ⟨fun a w hA hS hd => ?_, ?_⟩
      ·skip
       have e13 := has_ev (hd 13 (by decide)) rfl (fun _ h => h)
       have e18 := has_ev (hd 18 (by decide)) rfl (fun _ h => h)
       exact opG_of rfl (dv (op_build rfl (pv2 (tmp_ev e13) (tmp_ev e18)) (bd_157_0i_1i _ _)) hS rfl)
      refine ⟨fun a w hA hS hd => ?_, ?_⟩
      ·skip
       have e3 := has_ev (hd 3 (by decide)) rfl (fun _ h => h)
       have e19 := has_ev (hd 19 (by decide)) rfl (fun _ h => h)
       exact opG_of rfl (dx (op_callv rfl (tmp_ev e3) en_103 (ev1 (tmp_ev e19)) (up_ok _ _ _ (by omega) (by omega))) hS (fun _ => rfl))
      trivial
     intro a152 w153 hA154 hS155 hH156; clear hA151 hS127
     have hA158 := hA154.add (hz hH156 1); clear hA154
     have hA159 := hA158.add (hz hH156 20); clear hA158
     clear hH156
     refine s1 hA159 (op_add rfl (hA159.ev rfl) (hA159.ev rfl) (by omega) (by omega)) fun a160 hA161 => ?_; clear hA159 a152
     have hvl : ((t.rows.getD (((goodF t).getD q 0)) (0, 0)).2) + (upF ((x - ((t.rows.getD (((goodF t).getD q 0)) (0, 0)).1)) * (((t.rows.getD (((goodF t).getD q 0) + 1) (0, 0)).2) - ((t.rows.getD (((goodF t).getD q 0)) (0, 0)).2))) (((t.rows.getD (((goodF t).getD q 0) + 1) (0, 0)).1) - ((t.rows.getD (((goodF t).getD q 0)) (0, 0)).1))) = (madeV t x).2 := by unfold madeV; rw [made_good (fun i hi => hrw i (by omega)) hq hpc (good_piece hq (by assumption) (by assumption))]; rfl
     have hA162 : Fr 62 [] [(61, (Value.int .i64 ((madeV t x).2))), (60, (Value.int .i64 (upF ((x - ((t.rows.getD (((goodF t).getD q 0)) (0, 0)).1)) * (((t.rows.getD (((goodF t).getD q 0) + 1) (0, 0)).2) - ((t.rows.getD (((goodF t).getD q 0)) (0, 0)).2))) (((t.rows.getD (((goodF t).getD q 0) + 1) (0, 0)).1) - ((t.rows.getD (((goodF t).getD q 0)) (0, 0)).1))))), (41, (Value.int .i64 ((t.rows.getD (((goodF t).getD q 0)) (0, 0)).2))), (11, (bptr b119 0)), (10, (bptr b110 0)), (7, (bptr b24 0)), (6, (bptr b19 0)), (5, (bptr b14 0)), (4, (bptr b9 0))] a160 := by rw [← hvl]; exact hA161
     refine s7 hA162 (op_store hS155 rfl ty_3 (hA162.ev rfl) (hA162.ev rfl) (i := 7) rfl (vs := [(Value.int .i64 ((madeV t x).2))]) rfl rfl rfl (Nat.le_of_ble_eq_true rfl)) ?_
     intro _ w163 hS164 hA165; clear hA162
     have hS166 : Sep NoB w w163 [(obR l102 (.loop (rc104 .busy none))), (marksR (D103 :: [])), G105, (blk b119 107 [(Value.int .i64 ((t.rows.getD (((goodF t).getD q 0) + 1) (0, 0)).1)), (Value.int .i64 ((t.rows.getD (((goodF t).getD q 0) + 1) (0, 0)).2))]), (blk b110 107 [(Value.int .i64 ((t.rows.getD (((goodF t).getD q 0)) (0, 0)).1)), (Value.int .i64 ((t.rows.getD (((goodF t).getD q 0)) (0, 0)).2))]), (blk bl93 106 [(Value.int .i64 t.frm), (Value.int .i64 t.dst), vr, vb, (Value.int .i64 t.err)]), (blk b24 4 [(Value.bool false)]), (blk b19 3 [(Value.int .i64 ((madeV t x).2))]), (blk b14 159 [(Value.func (.func 103) #[] #[])]), (blk b9 3 [(Value.int .i64 x)]), (blk b4 106 [(Value.int .i64 t.frm), (Value.int .i64 t.dst), vr, vb, (Value.int .i64 t.err)]), (sl vr 2 t.rows.length (pairs t.rows)), (sl vb 1 t.brk.length (ints t.brk))] := hS164; clear hS164 hS155
     refine s7 hA165 (op_store hS166 rfl ty_4 (hA165.ev rfl) (evc _ _) (i := 6) rfl (vs := [(Value.bool true)]) rfl rfl rfl (Nat.le_of_ble_eq_true rfl)) ?_
     intro _ w167 hS168 hA169; clear hA165
     have hS170 : Sep NoB w w167 [(obR l102 (.loop (rc104 .busy none))), (marksR (D103 :: [])), G105, (blk b119 107 [(Value.int .i64 ((t.rows.getD (((goodF t).getD q 0) + 1) (0, 0)).1)), (Value.int .i64 ((t.rows.getD (((goodF t).getD q 0) + 1) (0, 0)).2))]), (blk b110 107 [(Value.int .i64 ((t.rows.getD (((goodF t).getD q 0)) (0, 0)).1)), (Value.int .i64 ((t.rows.getD (((goodF t).getD q 0)) (0, 0)).2))]), (blk bl93 106 [(Value.int .i64 t.frm), (Value.int .i64 t.dst), vr, vb, (Value.int .i64 t.err)]), (blk b24 4 [(Value.bool true)]), (blk b19 3 [(Value.int .i64 ((madeV t x).2))]), (blk b14 159 [(Value.func (.func 103) #[] #[])]), (blk b9 3 [(Value.int .i64 x)]), (blk b4 106 [(Value.int .i64 t.frm), (Value.int .i64 t.dst), vr, vb, (Value.int .i64 t.err)]), (sl vr 2 t.rows.length (pairs t.rows)), (sl vb 1 t.brk.length (ints t.brk))] := hS168; clear hS168 hS166
     refine n1 ?_
     refine c_ret ?_
     refine blk_ret ?_
     have hS171 : Sep NoB w w167 [(obR l102 (.loop (rc104 .busy none))), (marksR (D103 :: [])), G105, (blk bl93 106 [(Value.int .i64 t.frm), (Value.int .i64 t.dst), vr, vb, (Value.int .i64 t.err)]), (blk b24 4 [(Value.bool true)]), (blk b19 3 [(Value.int .i64 ((madeV t x).2))]), (blk b14 159 [(Value.func (.func 103) #[] #[])]), (blk b9 3 [(Value.int .i64 x)]), (blk b4 106 [(Value.int .i64 t.frm), (Value.int .i64 t.dst), vr, vb, (Value.int .i64 t.err)]), (sl vr 2 t.rows.length (pairs t.rows)), (sl vb 1 t.brk.length (ints t.brk))] := hS170.keep [0, 1, 2, 5, 6, 7, 8, 9, 10, 11, 12] (by decide) _ rfl rfl; clear hS170
     exact re_ret rfl ⟨_, rfl, ⟨rfl, (by rw [made_good (fun i hi => hrw i (by omega)) hq hpc (good_piece hq (by assumption) (by assumption))]; rfl)⟩⟩ hS171
    ·skip
     rw [decide_eq_false hb149] at hA148
     refine c_false hA148 rfl ?_
     refine c_skip ?_
     refine blk_n ?_
     have hS172 : Sep NoB w w126 [(obR l102 (.loop (rc104 .busy none))), (marksR (D103 :: [])), G105, (blk bl93 106 [(Value.int .i64 t.frm), (Value.int .i64 t.dst), vr, vb, (Value.int .i64 t.err)]), (blk b24 4 [(Value.bool false)]), (blk b19 3 [(Value.int .i64 0)]), (blk b14 159 [(Value.func (.func 103) #[] #[])]), (blk b9 3 [(Value.int .i64 x)]), (blk b4 106 [(Value.int .i64 t.frm), (Value.int .i64 t.dst), vr, vb, (Value.int .i64 t.err)]), (sl vr 2 t.rows.length (pairs t.rows)), (sl vb 1 t.brk.length (ints t.brk))] := hS127.keep [0, 1, 2, 5, 6, 7, 8, 9, 10, 11, 12] (by decide) _ rfl rfl; clear hS127
     exact re_n ⟨_, rfl, ⟨rfl, (fun j hj => by rcases Nat.lt_succ_iff_lt_or_eq.1 hj with h | h; exact hpc j h; subst h; first | exact piece_n (.inl (by assumption)) | exact piece_n (.inr (.inl (by assumption))))⟩⟩ hS172
   ·skip
    rw [decide_eq_false hb138] at hA137
    refine s3 hA137 fun a173 hA174 => ?_; clear hA137 a136
    refine s3 hA174 fun a175 hA176 => ?_; clear hA174 a173
    refine s3 hA176 fun a177 hA178 => ?_; clear hA176 a175
    refine s3 hA178 fun a179 hA180 => ?_; clear hA178 a177
    refine s1 hA180 (op_pick_f rfl (hA180.ev rfl) (evc _ _)) fun a181 hA182 => ?_; clear hA180 a179
    refine n1 ?_
    refine c_false hA182 rfl ?_
    refine c_skip ?_
    refine blk_n ?_
    have hS183 : Sep NoB w w126 [(obR l102 (.loop (rc104 .busy none))), (marksR (D103 :: [])), G105, (blk bl93 106 [(Value.int .i64 t.frm), (Value.int .i64 t.dst), vr, vb, (Value.int .i64 t.err)]), (blk b24 4 [(Value.bool false)]), (blk b19 3 [(Value.int .i64 0)]), (blk b14 159 [(Value.func (.func 103) #[] #[])]), (blk b9 3 [(Value.int .i64 x)]), (blk b4 106 [(Value.int .i64 t.frm), (Value.int .i64 t.dst), vr, vb, (Value.int .i64 t.err)]), (sl vr 2 t.rows.length (pairs t.rows)), (sl vb 1 t.brk.length (ints t.brk))] := hS127.keep [0, 1, 2, 5, 6, 7, 8, 9, 10, 11, 12] (by decide) _ rfl rfl; clear hS127
    exact re_n ⟨_, rfl, ⟨rfl, (fun j hj => by rcases Nat.lt_succ_iff_lt_or_eq.1 hj with h | h; exact hpc j h; subst h; first | exact piece_n (.inl (by assumption)) | exact piece_n (.inr (.inl (by assumption))))⟩⟩ hS183
  ·skip
   intro L_ hL_ D188 a184 w185 hA187 hS186; obtain ⟨rfl, hpc⟩ := hL_; clear hA94 hS96
   refine blk_n ?_
   refine then_n ?_
   refine m2 ?_
   refine s7 hA187 (op_store hS186 rfl ty_3 (hA187.ev rfl) (evc _ _) (i := 4) rfl (vs := [(Value.int .i64 0)]) rfl rfl rfl (Nat.le_of_ble_eq_true rfl)) ?_
   intro _ w189 hS190 hA191; clear hA187
   have hS192 : Sep NoB w w189 [(marksR (D188 :: [])), nilR, (blk bl93 106 [(Value.int .i64 t.frm), (Value.int .i64 t.dst), vr, vb, (Value.int .i64 t.err)]), (blk b24 4 [(Value.bool false)]), (blk b19 3 [(Value.int .i64 0)]), (blk b14 159 [(Value.func (.func 103) #[] #[])]), (blk b9 3 [(Value.int .i64 x)]), (blk b4 106 [(Value.int .i64 t.frm), (Value.int .i64 t.dst), vr, vb, (Value.int .i64 t.err)]), (sl vr 2 t.rows.length (pairs t.rows)), (sl vb 1 t.brk.length (ints t.brk))] := hS190; clear hS190 hS186
   refine s7 hA191 (op_store hS192 rfl ty_4 (hA191.ev rfl) (evc _ _) (i := 3) rfl (vs := [(Value.bool false)]) rfl rfl rfl (Nat.le_of_ble_eq_true rfl)) ?_
   intro _ w193 hS194 hA195; clear hA191
   have hS196 : Sep NoB w w193 [(marksR (D188 :: [])), nilR, (blk bl93 106 [(Value.int .i64 t.frm), (Value.int .i64 t.dst), vr, vb, (Value.int .i64 t.err)]), (blk b24 4 [(Value.bool false)]), (blk b19 3 [(Value.int .i64 0)]), (blk b14 159 [(Value.func (.func 103) #[] #[])]), (blk b9 3 [(Value.int .i64 x)]), (blk b4 106 [(Value.int .i64 t.frm), (Value.int .i64 t.dst), vr, vb, (Value.int .i64 t.err)]), (sl vr 2 t.rows.length (pairs t.rows)), (sl vb 1 t.brk.length (ints t.brk))] := hS194; clear hS194 hS192
   refine n1 ?_
   refine c_ret ?_
   refine fin_runM hA195 (.inl rfl) hS196 ?_
   intro w197 hS198; clear hS196
   refine ⟨_, (run_results2 hA195 rfl (.cell1 rfl ty_3 (hS198.bk 3 rfl) rfl) (.cell1 rfl ty_4 (hS198.bk 2 rfl) rfl)), ?_⟩
   have hz := (made_goodno (fun i hi => hrw i (by omega)) (fun i hi => hpc i (by omega)))
   exact ⟨by unfold madeV; rw [hz]; rfl, hS198.ext⟩
  ·skip
   intro c_ hc_; cases hc_
   intro L_ hL_ D203 a199 w200 hA202 hS201; obtain ⟨rfl, hsm⟩ := hL_; clear hA94 hS96
   refine c_ret ?_
   refine blk_ret ?_
   refine then_ret ?_
   refine fin_runM hA202 (.inl rfl) hS201 ?_
   intro w204 hS205; clear hS201
   refine ⟨_, (run_results2 hA202 rfl (.cell1 rfl ty_3 (hS205.bk 3 rfl) rfl) (.cell1 rfl ty_4 (hS205.bk 2 rfl) rfl)), ?_⟩
   exact ⟨by rw [hsm], hS205.ext⟩
theorem around_ok (t : TabD) (vr vb : Value) (w : World) (hr : SlAt w vr 2 t.rows.length (pairs t.rows)) (hb : SlAt w vb 1 t.brk.length (ints t.brk)) (hrl : t.rows.length ≤ 1000000) (hbl : t.brk.length ≤ 1000000) (n : Int) (hV : TabV n t) (x : Int) :
  Calls Try.prog 72 #[(Value.agg #[(Value.int .i64 t.frm), (Value.int .i64 t.dst), vr, vb, (Value.int .i64 t.err)]), (Value.int .i64 x)] w (Ret fun v w' => v = .tuple #[.agg #[.int .i64 (madeV t x).1, .int .i64 (madeV t x).2], .bool (madeF t x).isSome] ∧ Ext NoB w w') := by
 refine calls_enter Try.func72 rfl fun a0 hA0 => ?_
 replace hA0 : Fr 28 [] [(0, (Value.agg #[(Value.int .i64 t.frm), (Value.int .i64 t.dst), vr, vb, (Value.int .i64 t.err)])), (1, (Value.int .i64 x))] a0 := hA0
 have hS0 : Sep NoB w w [(sl vr 2 t.rows.length (pairs t.rows)), (sl vb 1 t.brk.length (ints t.brk))] := sep_ro ⟨rfl, hr, rfl, hb, trivial⟩
 refine m2 ?_
 refine s2 hA0 (op_box hS0 rfl (hA0.ev rfl) (cs := [(Value.int .i64 t.frm), (Value.int .i64 t.dst), vr, vb, (Value.int .i64 t.err)]) rfl) ?_
 rintro a1 _ w3 ⟨b4, rfl, hS5⟩ hA2; clear hA0 hS0 a0
 refine s2 hA2 (op_alloc hS5 rfl ze_30 (cs := [(Value.int .i64 0), (Value.int .i64 0)]) rfl) ?_
 rintro a6 _ w8 ⟨b9, rfl, hS10⟩ hA7; clear hA2 hS5 a1
 refine s1 hA7 (op_assign rfl (evc _ _)) fun a11 hA12 => ?_; clear hA7 a6
 refine n4 ?_
 refine s1 hA12 (op_loadA rfl ty_106 (hA12.ev rfl) (hS10.bk 1 rfl) (l := [(Value.int .i64 t.frm), (Value.int .i64 t.dst), vr, vb, (Value.int .i64 t.err)]) rfl rfl) fun a13 hA14 => ?_; clear hA12 a11
 refine s1 hA14 (op_move rfl (hA14.ev rfl)) fun a15 hA16 => ?_; clear hA14 a13
 refine s1 hA16 (op_build rfl (pv1 (evf _ _)) (bd_159_0f _ _ _)) fun a17 hA18 => ?_; clear hA16 a15
 refine s2 hA18 (op_call rfl en_101 (ev3 (hA18.ev rfl) (hA18.ev rfl) (hA18.ev rfl)) (makes_dn t _ _ _ (hS10.sk 2 rfl) (hS10.sk 3 rfl) (by omega) (by omega) _ hV x)) ?_
 rintro a19 _ w21 ⟨rfl, hE22⟩ hA20; have hS23 := hS10.step hE22; clear hE22 hA18 hS10 a17
 refine s1 hA20 (op_move rfl (hA20.ev rfl)) fun a24 hA25 => ?_; clear hA20 a19
 refine s1 hA25 (op_extract rfl (hA25.ev rfl) rfl) fun a26 hA27 => ?_; clear hA25 a24
 refine s1 hA27 (op_extract rfl (hA27.ev rfl) rfl) fun a28 hA29 => ?_; clear hA27 a26
 refine s1 hA29 (op_assign rfl (hA29.ev rfl)) fun a30 hA31 => ?_; clear hA29 a28
 refine s1 hA31 (op_assign rfl (hA31.ev rfl)) fun a32 hA33 => ?_; clear hA31 a30
 refine n2 ?_
 have hA34 := hA33.as [(7, (Value.bool ((madeF t x).isSome))), (6, (Value.int .i64 ((madeV t x).1))), (4, (bptr b9 0)), (2, (bptr b4 0)), (1, (Value.int .i64 x))] rfl; clear hA33
 refine c_region ?_
 refine s1 hA34 (op_loadA rfl ty_106 (hA34.ev rfl) (hS23.bk 1 rfl) (l := [(Value.int .i64 t.frm), (Value.int .i64 t.dst), vr, vb, (Value.int .i64 t.err)]) rfl rfl) fun a35 hA36 => ?_; clear hA34 a32
 refine s1 hA36 (op_move rfl (hA36.ev rfl)) fun a37 hA38 => ?_; clear hA36 a35
 refine s1 hA38 (op_build rfl (pv1 (evf _ _)) (bd_159_0f _ _ _)) fun a39 hA40 => ?_; clear hA38 a37
 refine s2 hA40 (op_call rfl en_101 (ev3 (hA40.ev rfl) (hA40.ev rfl) (hA40.ev rfl)) (makes_up t _ _ _ (hS23.sk 2 rfl) (hS23.sk 3 rfl) (by omega) (by omega) _ hV x)) ?_
 rintro a41 _ w43 ⟨rfl, hE44⟩ hA42; have hS45 := hS23.step hE44; clear hE44 hA40 hS23 a39
 refine s1 hA42 (op_move rfl (hA42.ev rfl)) fun a46 hA47 => ?_; clear hA42 a41
 refine s1 hA47 (op_extract rfl (hA47.ev rfl) rfl) fun a48 hA49 => ?_; clear hA47 a46
 refine s1 hA49 (op_extract rfl (hA49.ev rfl) rfl) fun a50 hA51 => ?_; clear hA49 a48
 refine s1 hA51 (op_assign rfl (hA51.ev rfl)) fun a52 hA53 => ?_; clear hA51 a50
 refine s1 hA53 (op_assign rfl (hA53.ev rfl)) fun a54 hA55 => ?_; clear hA53 a52
 refine n2 ?_
 have hA56 := hA55.as [(8, (Value.int .i64 ((madeV t x).2))), (7, (Value.bool ((madeF t x).isSome))), (6, (Value.int .i64 ((madeV t x).1))), (4, (bptr b9 0))] rfl; clear hA55
 refine c_region ?_
 refine s1 hA56 (op_move rfl (hA56.ev rfl)) fun a57 hA58 => ?_; clear hA56 a54
 refine s1 hA58 (op_move rfl (hA58.ev rfl)) fun a59 hA60 => ?_; clear hA58 a57
 refine s1 hA60 (op_build rfl (pv2 (hA60.ev rfl) (hA60.ev rfl)) (bd_30_0i_1i _ _)) fun a61 hA62 => ?_; clear hA60 a59
 refine s1 hA62 (op_move rfl (hA62.ev rfl)) fun a63 hA64 => ?_; clear hA62 a61
 refine s7 hA64 (op_store hS45 rfl ty_30 (hA64.ev rfl) (hA64.ev rfl) (i := 0) rfl (vs := [(Value.int .i64 ((madeV t x).1)), (Value.int .i64 ((madeV t x).2))]) rfl rfl rfl (Nat.le_of_ble_eq_true rfl)) ?_
 intro _ w65 hS66 hA67; clear hA64
 have hS68 : Sep NoB w w65 [(blk b9 30 [(Value.int .i64 ((madeV t x).1)), (Value.int .i64 ((madeV t x).2))]), (blk b4 106 [(Value.int .i64 t.frm), (Value.int .i64 t.dst), vr, vb, (Value.int .i64 t.err)]), (sl vr 2 t.rows.length (pairs t.rows)), (sl vb 1 t.brk.length (ints t.brk))] := hS66; clear hS66 hS45
 refine s1 hA67 (op_assign rfl (hA67.ev rfl)) fun a69 hA70 => ?_; clear hA67 a63
 refine n1 ?_
 refine c_ret ?_
 refine fin_run hA70 (.inl rfl) (run_results2 hA70 rfl (.cellA rfl ty_30 (hS68.bk 0 rfl) (l := [(Value.int .i64 ((madeV t x).1)), (Value.int .i64 ((madeV t x).2))]) rfl rfl) (.tmp rfl)) ?_
 exact ⟨rfl, hS68.ext⟩
theorem convert_ok (r1 r2 : Int) (t : TabD) (vr vb : Value) (w : World) (hr : SlAt w vr 2 t.rows.length (pairs t.rows)) (hb : SlAt w vb 1 t.brk.length (ints t.brk)) (hrl : t.rows.length ≤ 1000000) (hbl : t.brk.length ≤ 1000000) (n : Int) (hV : TabV n t) :
  Calls Try.prog 50 #[(Value.agg #[(Value.int .i64 t.frm), (Value.int .i64 t.dst), vr, vb, (Value.int .i64 t.err)]), (Value.agg #[(Value.int .i64 r1), (Value.int .i64 r2)])] w (Ret fun v w' => v = .agg #[.int .i64 (convF t (r1, r2)).1, .int .i64 (convF t (r1, r2)).2] ∧ Ext NoB w w') := by
 refine calls_enter Try.func50 rfl fun a0 hA0 => ?_
 replace hA0 : Fr 42 [] [(0, (Value.agg #[(Value.int .i64 t.frm), (Value.int .i64 t.dst), vr, vb, (Value.int .i64 t.err)])), (1, (Value.agg #[(Value.int .i64 r1), (Value.int .i64 r2)]))] a0 := hA0
 have hm1 := madeV_bd hV r1; have hm2 := madeV_bd hV r2; have her := hV.err
 have hS0 : Sep NoB w w [(sl vr 2 t.rows.length (pairs t.rows)), (sl vb 1 t.brk.length (ints t.brk))] := sep_ro ⟨rfl, hr, rfl, hb, trivial⟩
 refine m2 ?_
 refine s2 hA0 (op_box hS0 rfl (hA0.ev rfl) (cs := [(Value.int .i64 t.frm), (Value.int .i64 t.dst), vr, vb, (Value.int .i64 t.err)]) rfl) ?_
 rintro a1 _ w3 ⟨b4, rfl, hS5⟩ hA2; clear hA0 hS0 a0
 refine s2 hA2 (op_box hS5 rfl (hA2.ev rfl) (cs := [(Value.int .i64 r1), (Value.int .i64 r2)]) rfl) ?_
 rintro a6 _ w8 ⟨b9, rfl, hS10⟩ hA7; clear hA2 hS5 a1
 refine s2 hA7 (op_alloc hS10 rfl ze_30 (cs := [(Value.int .i64 0), (Value.int .i64 0)]) rfl) ?_
 rintro a11 _ w13 ⟨b14, rfl, hS15⟩ hA12; clear hA7 hS10 a6
 refine n4 ?_
 refine s1 hA12 (op_loadA rfl ty_106 (hA12.ev rfl) (hS15.bk 2 rfl) (l := [(Value.int .i64 t.frm), (Value.int .i64 t.dst), vr, vb, (Value.int .i64 t.err)]) rfl rfl) fun a16 hA17 => ?_; clear hA12 a11
 refine s1 hA17 (op_field rfl fd_30_0 (hA17.ev rfl)) fun a18 hA19 => ?_; clear hA17 a16
 refine s1 hA19 (op_load1 rfl ty_3 (hA19.ev rfl) (hS15.bk 1 rfl) rfl) fun a20 hA21 => ?_; clear hA19 a18
 refine s2 hA21 (op_call rfl en_72 (ev2 (hA21.ev rfl) (hA21.ev rfl)) (around_ok t _ _ _ (hS15.sk 3 rfl) (hS15.sk 4 rfl) (by omega) (by omega) _ hV r1)) ?_
 rintro a22 _ w24 ⟨rfl, hE25⟩ hA23; have hS26 := hS15.step hE25; clear hE25 hA21 hS15 a20
 refine s1 hA23 (op_move rfl (hA23.ev rfl)) fun a27 hA28 => ?_; clear hA23 a22
 refine s1 hA28 (op_extract rfl (hA28.ev rfl) rfl) fun a29 hA30 => ?_; clear hA28 a27
 refine s1 hA30 (op_extract rfl (hA30.ev rfl) rfl) fun a31 hA32 => ?_; clear hA30 a29
 refine s2 hA32 (op_alloc hS26 rfl ze_30 (cs := [(Value.int .i64 0), (Value.int .i64 0)]) rfl) ?_
 rintro a33 _ w35 ⟨b36, rfl, hS37⟩ hA34; clear hA32 hS26 a31
 refine s7 hA34 (op_store hS37 rfl ty_30 (hA34.ev rfl) (hA34.ev rfl) (i := 0) rfl (vs := [(Value.int .i64 ((madeV t r1).1)), (Value.int .i64 ((madeV t r1).2))]) rfl rfl rfl (Nat.le_of_ble_eq_true rfl)) ?_
 intro _ w38 hS39 hA40; clear hA34
 have hS41 : Sep NoB w w38 [(blk b36 30 [(Value.int .i64 ((madeV t r1).1)), (Value.int .i64 ((madeV t r1).2))]), (blk b14 30 [(Value.int .i64 0), (Value.int .i64 0)]), (blk b9 30 [(Value.int .i64 r1), (Value.int .i64 r2)]), (blk b4 106 [(Value.int .i64 t.frm), (Value.int .i64 t.dst), vr, vb, (Value.int .i64 t.err)]), (sl vr 2 t.rows.length (pairs t.rows)), (sl vb 1 t.brk.length (ints t.brk))] := hS39; clear hS39 hS37
 refine s1 hA40 (op_assign rfl (hA40.ev rfl)) fun a42 hA43 => ?_; clear hA40 a33
 refine n2 ?_
 have hA44 := hA43.as [(5, (bptr b36 0)), (4, (bptr b14 0)), (3, (bptr b9 0)), (2, (bptr b4 0))] rfl; clear hA43
 refine c_region ?_
 refine s1 hA44 (op_loadA rfl ty_106 (hA44.ev rfl) (hS41.bk 3 rfl) (l := [(Value.int .i64 t.frm), (Value.int .i64 t.dst), vr, vb, (Value.int .i64 t.err)]) rfl rfl) fun a45 hA46 => ?_; clear hA44 a42
 refine s1 hA46 (op_field rfl fd_30_1 (hA46.ev rfl)) fun a47 hA48 => ?_; clear hA46 a45
 refine s1 hA48 (op_load1 rfl ty_3 (hA48.ev rfl) (hS41.bk 2 rfl) rfl) fun a49 hA50 => ?_; clear hA48 a47
 refine s2 hA50 (op_call rfl en_72 (ev2 (hA50.ev rfl) (hA50.ev rfl)) (around_ok t _ _ _ (hS41.sk 4 rfl) (hS41.sk 5 rfl) (by omega) (by omega) _ hV r2)) ?_
 rintro a51 _ w53 ⟨rfl, hE54⟩ hA52; have hS55 := hS41.step hE54; clear hE54 hA50 hS41 a49
 refine s1 hA52 (op_move rfl (hA52.ev rfl)) fun a56 hA57 => ?_; clear hA52 a51
 refine s1 hA57 (op_extract rfl (hA57.ev rfl) rfl) fun a58 hA59 => ?_; clear hA57 a56
 refine s1 hA59 (op_extract rfl (hA59.ev rfl) rfl) fun a60 hA61 => ?_; clear hA59 a58
 refine s2 hA61 (op_alloc hS55 rfl ze_30 (cs := [(Value.int .i64 0), (Value.int .i64 0)]) rfl) ?_
 rintro a62 _ w64 ⟨b65, rfl, hS66⟩ hA63; clear hA61 hS55 a60
 refine s7 hA63 (op_store hS66 rfl ty_30 (hA63.ev rfl) (hA63.ev rfl) (i := 0) rfl (vs := [(Value.int .i64 ((madeV t r2).1)), (Value.int .i64 ((madeV t r2).2))]) rfl rfl rfl (Nat.le_of_ble_eq_true rfl)) ?_
 intro _ w67 hS68 hA69; clear hA63
 have hS70 : Sep NoB w w67 [(blk b65 30 [(Value.int .i64 ((madeV t r2).1)), (Value.int .i64 ((madeV t r2).2))]), (blk b36 30 [(Value.int .i64 ((madeV t r1).1)), (Value.int .i64 ((madeV t r1).2))]), (blk b14 30 [(Value.int .i64 0), (Value.int .i64 0)]), (blk b9 30 [(Value.int .i64 r1), (Value.int .i64 r2)]), (blk b4 106 [(Value.int .i64 t.frm), (Value.int .i64 t.dst), vr, vb, (Value.int .i64 t.err)]), (sl vr 2 t.rows.length (pairs t.rows)), (sl vb 1 t.brk.length (ints t.brk))] := hS68; clear hS68 hS66
 refine s1 hA69 (op_assign rfl (hA69.ev rfl)) fun a71 hA72 => ?_; clear hA69 a62
 refine n2 ?_
 have hA73 := hA72.as [(7, (bptr b65 0)), (5, (bptr b36 0)), (4, (bptr b14 0)), (2, (bptr b4 0))] rfl; clear hA72
 have hA74 := hA73.as [(7, (bptr b65 0)), (5, (bptr b36 0)), (4, (bptr b14 0)), (2, (bptr b4 0))] rfl; clear hA73
 refine c_drawV mixed hA74 hS70 18 [[], [0], [], [2], [1, 3], [4], [], [6], [5, 7], [], [9], [], [11], [10, 12], [13], [], [15], [14, 16]] [(fun (vs75 : Nat → Value) (v_ : Value) (rs_ : List Res) => v_ = (bptr b36 0) ∧ rs_ = []), (fun (vs75 : Nat → Value) (v_ : Value) (rs_ : List Res) => v_ = (Value.int .i64 ((madeV t r1).1)) ∧ rs_ = []), (fun (vs75 : Nat → Value) (v_ : Value) (rs_ : List Res) => v_ = (bptr b65 0) ∧ rs_ = []), (fun (vs75 : Nat → Value) (v_ : Value) (rs_ : List Res) => v_ = (Value.int .i64 ((madeV t r2).1)) ∧ rs_ = []), (fun (vs75 : Nat → Value) (v_ : Value) (rs_ : List Res) => True ∧ rs_ = [(row v_ 3 1 2 [(Value.int .i64 ((madeV t r1).1)), (Value.int .i64 ((madeV t r2).1))])]), (fun (vs75 : Nat → Value) (v_ : Value) (rs_ : List Res) => v_ = (Value.int .i64 (min ((madeV t r1).1) ((madeV t r2).1))) ∧ rs_ = []), (fun (vs75 : Nat → Value) (v_ : Value) (rs_ : List Res) => v_ = (bptr b4 4) ∧ rs_ = []), (fun (vs75 : Nat → Value) (v_ : Value) (rs_ : List Res) => v_ = (Value.int .i64 t.err) ∧ rs_ = []), (fun (vs75 : Nat → Value) (v_ : Value) (rs_ : List Res) => v_ = (Value.int .i64 ((min ((madeV t r1).1) ((madeV t r2).1)) - t.err)) ∧ rs_ = []), (fun (vs75 : Nat → Value) (v_ : Value) (rs_ : List Res) => v_ = (bptr b36 1) ∧ rs_ = []), (fun (vs75 : Nat → Value) (v_ : Value) (rs_ : List Res) => v_ = (Value.int .i64 ((madeV t r1).2)) ∧ rs_ = []), (fun (vs75 : Nat → Value) (v_ : Value) (rs_ : List Res) => v_ = (bptr b65 1) ∧ rs_ = []), (fun (vs75 : Nat → Value) (v_ : Value) (rs_ : List Res) => v_ = (Value.int .i64 ((madeV t r2).2)) ∧ rs_ = []), (fun (vs75 : Nat → Value) (v_ : Value) (rs_ : List Res) => True ∧ rs_ = [(row v_ 3 1 2 [(Value.int .i64 ((madeV t r1).2)), (Value.int .i64 ((madeV t r2).2))])]), (fun (vs75 : Nat → Value) (v_ : Value) (rs_ : List Res) => v_ = (Value.int .i64 (max ((madeV t r1).2) ((madeV t r2).2))) ∧ rs_ = []), (fun (vs75 : Nat → Value) (v_ : Value) (rs_ : List Res) => v_ = (bptr b4 4) ∧ rs_ = []), (fun (vs75 : Nat → Value) (v_ : Value) (rs_ : List Res) => v_ = (Value.int .i64 t.err) ∧ rs_ = []), (fun (vs75 : Nat → Value) (v_ : Value) (rs_ : List Res) => v_ = (Value.int .i64 ((max ((madeV t r1).2) ((madeV t r2).2)) + t.err)) ∧ rs_ = [])] (by decide +kernel) (by decide +kernel) rfl rfl ⟨(fun _ _ _ _ _ h_ => h_), (fun _ _ _ _ _ h_ => h_), (fun _ _ _ _ _ h_ => h_), (fun _ _ _ _ _ h_ => h_), (fun _ _ _ _ _ h_ => h_), (fun _ _ _ _ _ h_ => h_), (fun _ _ _ _ _ h_ => h_), (fun _ _ _ _ _ h_ => h_), (fun _ _ _ _ _ h_ => h_), (fun _ _ _ _ _ h_ => h_), (fun _ _ _ _ _ h_ => h_), (fun _ _ _ _ _ h_ => h_), (fun _ _ _ _ _ h_ => h_), (fun _ _ _ _ _ h_ => h_), (fun _ _ _ _ _ h_ => h_), (fun _ _ _ _ _ h_ => h_), (fun _ _ _ _ _ h_ => h_), (fun _ _ _ _ _ h_ => h_), trivial⟩ ?_ ?_
 ·skip
  refine ⟨fun a w vs75 hA hS hd => ?_, ?_⟩
  ·skip
   exact opG_of rfl (vv (op_field rfl fd_30_0 (hA.ev rfl)) (And.intro rfl rfl))
  refine ⟨fun a w vs75 hA hS hd => ?_, ?_⟩
  ·skip
   obtain ⟨e0, rs0, hy0, hp0⟩ := hd 0 (by decide)
   obtain ⟨hv0, hr0⟩ := hy0; subst hr0
   rw [hv0] at e0
   exact opG_of rfl (vv (op_load1 rfl ty_3 (tmp_ev (slot_ev e0 rfl)) (hS.bk 1 rfl) rfl) (And.intro rfl rfl))
  refine ⟨fun a w vs75 hA hS hd => ?_, ?_⟩
  ·skip
   exact opG_of rfl (vv (op_field rfl fd_30_0 (hA.ev rfl)) (And.intro rfl rfl))
  refine ⟨fun a w vs75 hA hS hd => ?_, ?_⟩
  ·skip
   obtain ⟨e2, rs2, hy2, hp2⟩ := hd 2 (by decide)
   obtain ⟨hv2, hr2⟩ := hy2; subst hr2
   rw [hv2] at e2
   exact opG_of rfl (vv (op_load1 rfl ty_3 (tmp_ev (slot_ev e2 rfl)) (hS.bk 0 rfl) rfl) (And.intro rfl rfl))
  refine ⟨fun a w vs75 hA hS hd => ?_, ?_⟩
  ·skip
   obtain ⟨e1, rs1, hy1, hp1⟩ := hd 1 (by decide)
   obtain ⟨hv1, hr1⟩ := hy1; subst hr1
   rw [hv1] at e1
   obtain ⟨e3, rs3, hy3, hp3⟩ := hd 3 (by decide)
   obtain ⟨hv3, hr3⟩ := hy3; subst hr3
   rw [hv3] at e3
   exact opG_of rfl (vblt rfl (pv2 (tmp_ev (slot_ev e1 rfl)) (tmp_ev (slot_ev e3 rfl))) un_44 ty_3 ze_3 (by decide) (cs := [(Value.int .i64 ((madeV t r1).1)), (Value.int .i64 ((madeV t r2).1))]) (bs_3_2_0i_1i _ _) rfl (by decide) (fun _ => And.intro trivial rfl))
  refine ⟨fun a w vs75 hA hS hd => ?_, ?_⟩
  ·skip
   obtain ⟨e4, rs4, hy4, hp4⟩ := hd 4 (by decide)
   obtain ⟨hv4, hr4⟩ := hy4; subst hr4
   have hp4_0 := hp4 _ (List.mem_of_getElem? (i := 0) rfl)
   exact opG_of rfl (vx (op_call rfl en_79 (ev1 (tmp_ev (slot_ev e4 rfl))) (callsI (least_ok [(madeV t r1).1, (madeV t r2).1] _ _ (SlAt.of_row hp4_0) (by simp) (by simp)) (min ((madeV t r1).1) ((madeV t r2).1)) rfl)) (And.intro rfl rfl))
  refine ⟨fun a w vs75 hA hS hd => ?_, ?_⟩
  ·skip
   exact opG_of rfl (vv (op_field rfl fd_106_4 (hA.ev rfl)) (And.intro rfl rfl))
  refine ⟨fun a w vs75 hA hS hd => ?_, ?_⟩
  ·skip
   obtain ⟨e6, rs6, hy6, hp6⟩ := hd 6 (by decide)
   obtain ⟨hv6, hr6⟩ := hy6; subst hr6
   rw [hv6] at e6
   exact opG_of rfl (vv (op_load1 rfl ty_3 (tmp_ev (slot_ev e6 rfl)) (hS.bk 4 rfl) rfl) (And.intro rfl rfl))
  refine ⟨fun a w vs75 hA hS hd => ?_, ?_⟩
  ·skip
   obtain ⟨e5, rs5, hy5, hp5⟩ := hd 5 (by decide)
   obtain ⟨hv5, hr5⟩ := hy5; subst hr5
   rw [hv5] at e5
   obtain ⟨e7, rs7, hy7, hp7⟩ := hd 7 (by decide)
   obtain ⟨hv7, hr7⟩ := hy7; subst hr7
   rw [hv7] at e7
   exact opG_of rfl (vv (op_sub rfl (tmp_ev (slot_ev e5 rfl)) (tmp_ev (slot_ev e7 rfl)) (by omega) (by omega)) (And.intro rfl rfl))
  refine ⟨fun a w vs75 hA hS hd => ?_, ?_⟩
  ·skip
   exact opG_of rfl (vv (op_field rfl fd_30_1 (hA.ev rfl)) (And.intro rfl rfl))
  refine ⟨fun a w vs75 hA hS hd => ?_, ?_⟩
  ·skip
   obtain ⟨e9, rs9, hy9, hp9⟩ := hd 9 (by decide)
   obtain ⟨hv9, hr9⟩ := hy9; subst hr9
   rw [hv9] at e9
   exact opG_of rfl (vv (op_load1 rfl ty_3 (tmp_ev (slot_ev e9 rfl)) (hS.bk 1 rfl) rfl) (And.intro rfl rfl))
  refine ⟨fun a w vs75 hA hS hd => ?_, ?_⟩
  ·skip
   exact opG_of rfl (vv (op_field rfl fd_30_1 (hA.ev rfl)) (And.intro rfl rfl))
  refine ⟨fun a w vs75 hA hS hd => ?_, ?_⟩
  ·skip
   obtain ⟨e11, rs11, hy11, hp11⟩ := hd 11 (by decide)
   obtain ⟨hv11, hr11⟩ := hy11; subst hr11
   rw [hv11] at e11
   exact opG_of rfl (vv (op_load1 rfl ty_3 (tmp_ev (slot_ev e11 rfl)) (hS.bk 0 rfl) rfl) (And.intro rfl rfl))
  refine ⟨fun a w vs75 hA hS hd => ?_, ?_⟩
  ·skip
   obtain ⟨e10, rs10, hy10, hp10⟩ := hd 10 (by decide)
   obtain ⟨hv10, hr10⟩ := hy10; subst hr10
   rw [hv10] at e10
   obtain ⟨e12, rs12, hy12, hp12⟩ := hd 12 (by decide)
   obtain ⟨hv12, hr12⟩ := hy12; subst hr12
   rw [hv12] at e12
   exact opG_of rfl (vblt rfl (pv2 (tmp_ev (slot_ev e10 rfl)) (tmp_ev (slot_ev e12 rfl))) un_44 ty_3 ze_3 (by decide) (cs := [(Value.int .i64 ((madeV t r1).2)), (Value.int .i64 ((madeV t r2).2))]) (bs_3_2_0i_1i _ _) rfl (by decide) (fun _ => And.intro trivial rfl))
  refine ⟨fun a w vs75 hA hS hd => ?_, ?_⟩
  ·skip
   obtain ⟨e13, rs13, hy13, hp13⟩ := hd 13 (by decide)
   obtain ⟨hv13, hr13⟩ := hy13; subst hr13
   have hp13_0 := hp13 _ (List.mem_of_getElem? (i := 0) rfl)
   exact opG_of rfl (vx (op_call rfl en_80 (ev1 (tmp_ev (slot_ev e13 rfl))) (callsI (greatest_ok [(madeV t r1).2, (madeV t r2).2] _ _ (SlAt.of_row hp13_0) (by simp) (by simp)) (max ((madeV t r1).2) ((madeV t r2).2)) rfl)) (And.intro rfl rfl))
  refine ⟨fun a w vs75 hA hS hd => ?_, ?_⟩
  ·skip
   exact opG_of rfl (vv (op_field rfl fd_106_4 (hA.ev rfl)) (And.intro rfl rfl))
  refine ⟨fun a w vs75 hA hS hd => ?_, ?_⟩
  ·skip
   obtain ⟨e15, rs15, hy15, hp15⟩ := hd 15 (by decide)
   obtain ⟨hv15, hr15⟩ := hy15; subst hr15
   rw [hv15] at e15
   exact opG_of rfl (vv (op_load1 rfl ty_3 (tmp_ev (slot_ev e15 rfl)) (hS.bk 4 rfl) rfl) (And.intro rfl rfl))
  refine ⟨fun a w vs75 hA hS hd => ?_, ?_⟩
  ·skip
   obtain ⟨e14, rs14, hy14, hp14⟩ := hd 14 (by decide)
   obtain ⟨hv14, hr14⟩ := hy14; subst hr14
   rw [hv14] at e14
   obtain ⟨e16, rs16, hy16, hp16⟩ := hd 16 (by decide)
   obtain ⟨hv16, hr16⟩ := hy16; subst hr16
   rw [hv16] at e16
   exact opG_of rfl (vv (op_add rfl (tmp_ev (slot_ev e14 rfl)) (tmp_ev (slot_ev e16 rfl)) (by omega) (by omega)) (And.intro rfl rfl))
  trivial
 intro a76 w77 vs75 rsf81 hA78 hH80 hS79; clear hA74 hS70
 obtain ⟨hs_0, hy_0⟩ := hH80 0 (by decide)
 obtain ⟨hv_0, hr_0⟩ := hy_0
 obtain ⟨hs_1, hy_1⟩ := hH80 1 (by decide)
 obtain ⟨hv_1, hr_1⟩ := hy_1
 obtain ⟨hs_2, hy_2⟩ := hH80 2 (by decide)
 obtain ⟨hv_2, hr_2⟩ := hy_2
 obtain ⟨hs_3, hy_3⟩ := hH80 3 (by decide)
 obtain ⟨hv_3, hr_3⟩ := hy_3
 obtain ⟨hs_4, hy_4⟩ := hH80 4 (by decide)
 obtain ⟨hv_4, hr_4⟩ := hy_4
 obtain ⟨hs_5, hy_5⟩ := hH80 5 (by decide)
 obtain ⟨hv_5, hr_5⟩ := hy_5
 obtain ⟨hs_6, hy_6⟩ := hH80 6 (by decide)
 obtain ⟨hv_6, hr_6⟩ := hy_6
 obtain ⟨hs_7, hy_7⟩ := hH80 7 (by decide)
 obtain ⟨hv_7, hr_7⟩ := hy_7
 obtain ⟨hs_8, hy_8⟩ := hH80 8 (by decide)
 obtain ⟨hv_8, hr_8⟩ := hy_8
 obtain ⟨hs_9, hy_9⟩ := hH80 9 (by decide)
 obtain ⟨hv_9, hr_9⟩ := hy_9
 obtain ⟨hs_10, hy_10⟩ := hH80 10 (by decide)
 obtain ⟨hv_10, hr_10⟩ := hy_10
 obtain ⟨hs_11, hy_11⟩ := hH80 11 (by decide)
 obtain ⟨hv_11, hr_11⟩ := hy_11
 obtain ⟨hs_12, hy_12⟩ := hH80 12 (by decide)
 obtain ⟨hv_12, hr_12⟩ := hy_12
 obtain ⟨hs_13, hy_13⟩ := hH80 13 (by decide)
 obtain ⟨hv_13, hr_13⟩ := hy_13
 obtain ⟨hs_14, hy_14⟩ := hH80 14 (by decide)
 obtain ⟨hv_14, hr_14⟩ := hy_14
 obtain ⟨hs_15, hy_15⟩ := hH80 15 (by decide)
 obtain ⟨hv_15, hr_15⟩ := hy_15
 obtain ⟨hs_16, hy_16⟩ := hH80 16 (by decide)
 obtain ⟨hv_16, hr_16⟩ := hy_16
 obtain ⟨hs_17, hy_17⟩ := hH80 17 (by decide)
 obtain ⟨hv_17, hr_17⟩ := hy_17
 have hS82 : Sep NoB w w77 [(row (vs75 4) 3 1 2 [(Value.int .i64 ((madeV t r1).1)), (Value.int .i64 ((madeV t r2).1))]), (row (vs75 13) 3 1 2 [(Value.int .i64 ((madeV t r1).2)), (Value.int .i64 ((madeV t r2).2))]), (blk b65 30 [(Value.int .i64 ((madeV t r2).1)), (Value.int .i64 ((madeV t r2).2))]), (blk b36 30 [(Value.int .i64 ((madeV t r1).1)), (Value.int .i64 ((madeV t r1).2))]), (blk b14 30 [(Value.int .i64 0), (Value.int .i64 0)]), (blk b9 30 [(Value.int .i64 r1), (Value.int .i64 r2)]), (blk b4 106 [(Value.int .i64 t.frm), (Value.int .i64 t.dst), vr, vb, (Value.int .i64 t.err)]), (sl vr 2 t.rows.length (pairs t.rows)), (sl vb 1 t.brk.length (ints t.brk))] := by rw [show catR rsf81 0 18 = ([(row (vs75 4) 3 1 2 [(Value.int .i64 ((madeV t r1).1)), (Value.int .i64 ((madeV t r2).1))]), (row (vs75 13) 3 1 2 [(Value.int .i64 ((madeV t r1).2)), (Value.int .i64 ((madeV t r2).2))])] : List Res) by (try simp only [catR, hr_0, hr_1, hr_2, hr_3, hr_4, hr_5, hr_6, hr_7, hr_8, hr_9, hr_10, hr_11, hr_12, hr_13, hr_14, hr_15, hr_16, hr_17]); (try rfl)] at hS79; exact hS79
 rw [hv_8] at hs_8
 have hA83 : Fr 42 [] [(31, (Value.int .i64 ((min ((madeV t r1).1) ((madeV t r2).1)) - t.err))), (7, (bptr b65 0)), (5, (bptr b36 0)), (4, (bptr b14 0)), (2, (bptr b4 0))] a76 := hA78.add (slot_ev hs_8 rfl); clear hA78
 rw [hv_17] at hs_17
 have hA84 : Fr 42 [] [(40, (Value.int .i64 ((max ((madeV t r1).2) ((madeV t r2).2)) + t.err))), (31, (Value.int .i64 ((min ((madeV t r1).1) ((madeV t r2).1)) - t.err))), (7, (bptr b65 0)), (5, (bptr b36 0)), (4, (bptr b14 0)), (2, (bptr b4 0))] a76 := hA83.add (slot_ev hs_17 rfl); clear hA83
 clear hH80 hS79 hs_0 hs_1 hs_2 hs_3 hs_4 hs_5 hs_6 hs_7 hs_8 hs_9 hs_10 hs_11 hs_12 hs_13 hs_14 hs_15 hs_16 hs_17
 clear hr_0
 clear hv_0
 clear hr_1
 clear hv_1
 clear hr_2
 clear hv_2
 clear hr_3
 clear hv_3
 clear hr_4
 clear hv_4
 clear hr_5
 clear hv_5
 clear hr_6
 clear hv_6
 clear hr_7
 clear hv_7
 clear hr_8
 clear hv_8
 clear hr_9
 clear hv_9
 clear hr_10
 clear hv_10
 clear hr_11
 clear hv_11
 clear hr_12
 clear hv_12
 clear hr_13
 clear hv_13
 clear hr_14
 clear hv_14
 clear hr_15
 clear hv_15
 clear hr_16
 clear hv_16
 clear hr_17
 clear hv_17
 refine s1 hA84 (op_build rfl (pv2 (hA84.ev rfl) (hA84.ev rfl)) (bd_30_0i_1i _ _)) fun a85 hA86 => ?_; clear hA84 a76
 refine s7 hA86 (op_store hS82 rfl ty_30 (hA86.ev rfl) (hA86.ev rfl) (i := 4) rfl (vs := [(Value.int .i64 ((min ((madeV t r1).1) ((madeV t r2).1)) - t.err)), (Value.int .i64 ((max ((madeV t r1).2) ((madeV t r2).2)) + t.err))]) rfl rfl rfl (Nat.le_of_ble_eq_true rfl)) ?_
 intro _ w87 hS88 hA89; clear hA86
 have hS90 : Sep NoB w w87 [(row (vs75 4) 3 1 2 [(Value.int .i64 ((madeV t r1).1)), (Value.int .i64 ((madeV t r2).1))]), (row (vs75 13) 3 1 2 [(Value.int .i64 ((madeV t r1).2)), (Value.int .i64 ((madeV t r2).2))]), (blk b65 30 [(Value.int .i64 ((madeV t r2).1)), (Value.int .i64 ((madeV t r2).2))]), (blk b36 30 [(Value.int .i64 ((madeV t r1).1)), (Value.int .i64 ((madeV t r1).2))]), (blk b14 30 [(Value.int .i64 ((min ((madeV t r1).1) ((madeV t r2).1)) - t.err)), (Value.int .i64 ((max ((madeV t r1).2) ((madeV t r2).2)) + t.err))]), (blk b9 30 [(Value.int .i64 r1), (Value.int .i64 r2)]), (blk b4 106 [(Value.int .i64 t.frm), (Value.int .i64 t.dst), vr, vb, (Value.int .i64 t.err)]), (sl vr 2 t.rows.length (pairs t.rows)), (sl vb 1 t.brk.length (ints t.brk))] := hS88; clear hS88 hS82
 refine n1 ?_
 refine c_ret ?_
 refine fin_run hA89 (.inl rfl) (run_results1 hA89 rfl (.cellA rfl ty_30 (hS90.bk 4 rfl) (l := [(Value.int .i64 ((min ((madeV t r1).1) ((madeV t r2).1)) - t.err)), (Value.int .i64 ((max ((madeV t r1).2) ((madeV t r2).2)) + t.err))]) rfl rfl)) ?_
 exact ⟨rfl, hS90.ext⟩
end Go.Proofs.Ytohgladndklciaa

namespace Go.Proofs.Ytohgladndklciaa
open Go.RowKit Go.Shelf Go.Eng Go.Hard
theorem indexB_int (xs : List Int) (lf : Nat → Int) (bm : Nat) (v : Value) (fid : Nat) (fs cs : Array Value) (p : Nat → Bool) (w : World) (hJ : Sep (fun b => b = bm) w w [blk bm 3 [.int .i64 (lf 0)], sl v 1 xs.length (ints xs)]) (hlen : xs.length ≤ 1000000) (hf : AsksB Try.prog w fid fs cs xs.length (fun i => .int .i64 (xs.getD i 0)) p false bm 3 (fun i => [.int .i64 (lf i)])) :
  Calls Try.prog 115 #[v, (Value.func (.func fid) fs cs)] w (Ret fun v w' => v = .int .i64 (fidx p xs.length) ∧ Ext (fun b => b = bm) w w' ∧ ∃ x, (blk bm 3 [.int .i64 x]).p w') := by
 refine calls_enter Try.func115 rfl fun a0 hA0 => ?_
 replace hA0 : Fr 19 [] [(0, v), (1, (Value.func (.func fid) fs cs))] a0 := hA0
 have hS0 : Sep (fun b => b = bm) w w [(blk bm 3 [(Value.int .i64 (lf 0))]), (sl v 1 xs.length (ints xs))] := hJ
 refine m2 ?_
 refine s1 hA0 (op_assign rfl (evc _ _)) fun a1 hA2 => ?_; clear hA0 a0
 refine n2 ?_
 refine m2 ?_
 refine s1 hA2 (op_move rfl (hA2.ev rfl)) fun a3 hA4 => ?_; clear hA2 a1
 refine s1 hA4 (op_lenS rfl un_44 (hA4.ev rfl) (hS0.sk 1 rfl)) fun a5 hA6 => ?_; clear hA4 a3
 refine s1 hA6 (op_move rfl (evc _ _)) fun a7 hA8 => ?_; clear hA6 a5
 refine n1 ?_
 refine c_block ?_
 have hA9 := hA8.as [(8, (Value.int .i64 0)), (7, (Value.int .i64 (xs.length : Int))), (0, v), (1, (Value.func (.func fid) fs cs))] rfl; clear hA8
 refine c_loop (G := Nat) (fun (k : Nat) a_ w_ => Fr 19 [] [(8, (Value.int .i64 (k : Int))), (7, (Value.int .i64 (xs.length : Int))), (0, v), (1, (Value.func (.func fid) fs cs))] a_ ∧ Sep (fun b => b = bm) w w_ [(blk bm 3 [(Value.int .i64 (lf k))]), (sl v 1 xs.length (ints xs))] ∧ (k ≤ xs.length) ∧ (∀ i, i < k → p i = false)) (fun k => xs.length - k) 0 ⟨hA9.as _ rfl, hS0, by omega, by omega⟩ ?_
 clear hA9 hS0 a7
 rintro k a10 w12 ⟨hA11, hS13, hk, hn⟩
 refine m2 ?_
 refine s1 hA11 (op_lss rfl (hA11.ev rfl) (hA11.ev rfl)) fun a14 hA15 => ?_; clear hA11 a10
 refine n2 ?_
 by_cases hb16 : (k : Int) < (xs.length : Int)
 ·skip
  rw [decide_eq_true hb16] at hA15
  refine c_true hA15 rfl ?_
  refine c_skip ?_
  refine then_n ?_
  refine c_seq ?_
  refine c_block ?_
  refine m2 ?_
  refine s1 hA15 (op_move rfl (hA15.ev rfl)) fun a17 hA18 => ?_; clear hA15 a14
  refine s1 hA18 (op_assign rfl (hA18.ev rfl)) fun a19 hA20 => ?_; clear hA18 a17
  refine n4 ?_
  refine s1 hA20 (op_move rfl (hA20.ev rfl)) fun a21 hA22 => ?_; clear hA20 a19
  refine s1 hA22 (op_move rfl (hA22.ev rfl)) fun a23 hA24 => ?_; clear hA22 a21
  refine s1 hA24 (op_move rfl (hA24.ev rfl)) fun a25 hA26 => ?_; clear hA24 a23
  refine s1 hA26 (op_indexS rfl un_44 ty_3 (hA26.ev rfl) (i := k) (hA26.ev rfl) (hS13.sk 1 rfl) (by decide) (by omega)) fun a27 hA28 => ?_; clear hA26 a25
  refine s1 hA28 (op_load1E rfl ty_3 (hA28.ev rfl) (hS13.sk 1 rfl) (ints_at (by omega))) fun a29 hA30 => ?_; clear hA28 a27
  refine s2 hA30 (op_callv rfl (hA30.ev rfl) hf.1 (ev1 (hA30.ev rfl)) (hf.2 k (by omega) hn _ hS13.ext (hS13.bk 0 rfl))) ?_
  rintro a31 _ w33 ⟨rfl, hE34, hM35⟩ hA32; have hS36 := hS13.updB (i := 0) rfl hE34 hM35; clear hE34 hM35 hA30 hS13 a29
  refine n1 ?_
  rcases Bool.eq_false_or_eq_true (p k) with hb37 | hb37
  ·skip
   rw [hb37] at hA32
   refine c_true hA32 rfl ?_
   refine c_seq ?_
   have hA38 := hA32.as [(5, (Value.int .i64 (k : Int)))] rfl; clear hA32
   refine c_region ?_
   refine s1 hA38 (op_move rfl (hA38.ev rfl)) fun a39 hA40 => ?_; clear hA38 a31
   refine s1 hA40 (op_assign rfl (hA40.ev rfl)) fun a41 hA42 => ?_; clear hA40 a39
   refine n1 ?_
   refine c_ret ?_
   refine blk_ret ?_
   refine then_ret ?_
   refine then_ret ?_
   refine blk_ret ?_
   refine then_ret ?_
   refine fin_run hA42 (.inl rfl) (run_results1 hA42 rfl (.tmp rfl)) ?_
   exact ⟨by first | rw [fidx_hit (by omega) hn (by assumption)] | rw [fidx_miss (fun i hi => hn i (by omega))], hS36.ext, _, hS36.bk 0 rfl⟩
  ·skip
   rw [hb37] at hA32
   refine c_false hA32 rfl ?_
   refine c_skip ?_
   refine blk_n ?_
   refine then_n ?_
   have hA43 := hA32.as [(8, (Value.int .i64 (k : Int))), (7, (Value.int .i64 (xs.length : Int))), (0, v), (1, (Value.func (.func fid) fs cs))] rfl; clear hA32
   refine c_region ?_
   refine s1 hA43 (op_add rfl (hA43.ev rfl) (evc _ _) (by omega) (by omega)) fun a44 hA45 => ?_; clear hA43 a31
   refine s1 hA45 (op_move rfl (hA45.ev rfl)) fun a46 hA47 => ?_; clear hA45 a44
   refine wl_nil ?_
   exact then_n ⟨k + 1, ⟨hA47.as _ rfl, hS36, by omega, (fun i hi => by rcases Nat.lt_succ_iff_lt_or_eq.1 hi with h | h; exact hn i h; subst h; assumption)⟩, by omega⟩
 ·skip
  rw [decide_eq_false hb16] at hA15
  refine c_false hA15 rfl ?_
  refine c_exit ?_
  refine then_exit ?_
  refine then_exit ?_
  refine blk_hit ?_
  refine then_n ?_
  refine m2 ?_
  refine s1 hA15 (op_assign rfl (evc _ _)) fun a48 hA49 => ?_; clear hA15 a14
  refine n1 ?_
  refine c_ret ?_
  refine fin_run hA49 (.inl rfl) (run_results1 hA49 rfl (.tmp rfl)) ?_
  exact ⟨by first | rw [fidx_hit (by omega) hn (by assumption)] | rw [fidx_miss (fun i hi => hn i (by omega))], hS13.ext, _, hS13.bk 0 rfl⟩
theorem contB_int (xs : List Int) (lf : Nat → Int) (bm : Nat) (v : Value) (fid : Nat) (fs cs : Array Value) (p : Nat → Bool) (w : World) (hJ : Sep (fun b => b = bm) w w [blk bm 3 [.int .i64 (lf 0)], sl v 1 xs.length (ints xs)]) (hlen : xs.length ≤ 1000000) (hf : AsksB Try.prog w fid fs cs xs.length (fun i => .int .i64 (xs.getD i 0)) p false bm 3 (fun i => [.int .i64 (lf i)])) :
  Calls Try.prog 99 #[v, (Value.func (.func fid) fs cs)] w (Ret fun v w' => v = .bool ((List.range xs.length).any p) ∧ Ext (fun b => b = bm) w w' ∧ ∃ x, (blk bm 3 [.int .i64 x]).p w') := by
 refine calls_enter Try.func99 rfl fun a0 hA0 => ?_
 replace hA0 : Fr 9 [] [(0, v), (1, (Value.func (.func fid) fs cs))] a0 := hA0
 have hS0 : Sep (fun b => b = bm) w w [(blk bm 3 [(Value.int .i64 (lf 0))]), (sl v 1 xs.length (ints xs))] := hJ
 refine m2 ?_
 refine s1 hA0 (op_assign rfl (evc _ _)) fun a1 hA2 => ?_; clear hA0 a0
 refine n4 ?_
 refine s1 hA2 (op_move rfl (hA2.ev rfl)) fun a3 hA4 => ?_; clear hA2 a1
 refine s1 hA4 (op_move rfl (hA4.ev rfl)) fun a5 hA6 => ?_; clear hA4 a3
 refine s2 hA6 (op_call rfl en_115 (ev2 (hA6.ev rfl) (hA6.ev rfl)) (indexB_int xs lf bm _ _ _ _ p _ hJ hlen hf)) ?_
 rintro a7 _ w9 ⟨rfl, hE10, lx13, hM11⟩ hA8; have hS12 := hS0.updB (i := 0) rfl hE10 hM11; clear hE10 hM11 hA6 hS0 a5
 refine s1 hA8 (op_geq rfl (hA8.ev rfl) (evc _ _)) fun a14 hA15 => ?_; clear hA8 a7
 refine s1 hA15 (op_assign rfl (hA15.ev rfl)) fun a16 hA17 => ?_; clear hA15 a14
 refine n1 ?_
 refine c_ret ?_
 refine fin_run hA17 (.inl rfl) (run_results1 hA17 rfl (.tmp rfl)) ?_
 exact ⟨congrArg Value.bool (fidx_any p xs.length), hS12.ext, _, hS12.bk 0 rfl⟩
theorem cloB_int (x : Int) (b bm fid : Nat) (l0 l1 : Int) (fs cs : Array Value) (q : Bool) (w : World) (hJ : Sep (fun k => k = bm) w w [blk bm 3 [.int .i64 l0], rob b 112 [.func (.func fid) fs cs]]) (hen : ∀ args W, (callFunc fid args).run Try.prog W = .ok (.enter fid args) W) (hf : ∀ W, Ext (fun k => k = bm) w W → (blk bm 3 [.int .i64 l0]).p W → Calls Try.prog fid (fs ++ #[.int .i64 x] ++ cs) W (Ret fun v w' => v = .bool q ∧ Ext (fun k => k = bm) W w' ∧ (blk bm 3 [.int .i64 l1]).p w')) :
  Calls Try.prog 100 #[(Value.int .i64 x), (bptr b 0)] w (Ret fun v w' => v = .bool (!q) ∧ Ext (fun k => k = bm) w w' ∧ (blk bm 3 [.int .i64 l1]).p w') := by
 refine calls_enter Try.func100 rfl fun a0 hA0 => ?_
 replace hA0 : Fr 8 [] [(0, (Value.int .i64 x)), (1, (bptr b 0))] a0 := hA0
 have hS0 : Sep (fun k => k = bm) w w [(blk bm 3 [(Value.int .i64 l0)]), (rob b 112 [(Value.func (.func fid) fs cs)])] := hJ
 refine m2 ?_
 refine s1 hA0 (op_assign rfl (evc _ _)) fun a1 hA2 => ?_; clear hA0 a0
 refine n4 ?_
 refine s1 hA2 (op_load1 rfl ty_112 (hA2.ev rfl) (hS0.rk 1 rfl) rfl) fun a3 hA4 => ?_; clear hA2 a1
 refine s1 hA4 (op_move rfl (hA4.ev rfl)) fun a5 hA6 => ?_; clear hA4 a3
 refine s2 hA6 (op_callv rfl (hA6.ev rfl) hen (ev1 (hA6.ev rfl)) (hf _ hS0.ext (hS0.bk 0 rfl))) ?_
 rintro a7 _ w9 ⟨rfl, hE10, hM11⟩ hA8; have hS12 := hS0.updB (i := 0) rfl hE10 hM11; clear hE10 hM11 hA6 hS0 a5
 refine s1 hA8 (op_not rfl (hA8.ev rfl)) fun a13 hA14 => ?_; clear hA8 a7
 refine s1 hA14 (op_assign rfl (hA14.ev rfl)) fun a15 hA16 => ?_; clear hA14 a13
 refine n1 ?_
 refine c_ret ?_
 refine fin_run hA16 (.inl rfl) (run_results1 hA16 rfl (.tmp rfl)) ?_
 exact ⟨rfl, hS12.ext, hS12.bk 0 rfl⟩
theorem allB_int (xs : List Int) (lf : Nat → Int) (bm : Nat) (v : Value) (fid : Nat) (fs cs : Array Value) (p : Nat → Bool) (w : World) (hJ : Sep (fun b => b = bm) w w [blk bm 3 [.int .i64 (lf 0)], sl v 1 xs.length (ints xs)]) (hlen : xs.length ≤ 1000000) (hf : AsksB Try.prog w fid fs cs xs.length (fun i => .int .i64 (xs.getD i 0)) p true bm 3 (fun i => [.int .i64 (lf i)])) :
  Calls Try.prog 69 #[v, (Value.func (.func fid) fs cs)] w (Ret fun v w' => v = .bool ((List.range xs.length).all p) ∧ Ext (fun b => b = bm) w w' ∧ ∃ x, (blk bm 3 [.int .i64 x]).p w') := by
 refine calls_enter Try.func69 rfl fun a0 hA0 => ?_
 replace hA0 : Fr 9 [] [(0, v), (1, (Value.func (.func fid) fs cs))] a0 := hA0
 have hS0 : Sep (fun b => b = bm) w w [(blk bm 3 [(Value.int .i64 (lf 0))]), (sl v 1 xs.length (ints xs))] := hJ
 refine m2 ?_
 refine s2 hA0 (op_box hS0 rfl (hA0.ev rfl) (cs := [(Value.func (.func fid) fs cs)]) rfl) ?_
 rintro a1 _ w3 ⟨b4, rfl, hS5⟩ hA2; clear hA0 hS0 a0
 refine s1 hA2 (op_assign rfl (evc _ _)) fun a6 hA7 => ?_; clear hA2 a1
 refine n4 ?_
 refine s1 hA7 (op_move rfl (hA7.ev rfl)) fun a8 hA9 => ?_; clear hA7 a6
 refine s1 hA9 (op_makeFunc rfl ev0 (ev1 (hA9.ev rfl))) fun a10 hA11 => ?_; clear hA9 a8
 refine s2 hA11 (op_call rfl en_99 (ev2 (hA11.ev rfl) (hA11.ev rfl)) (contB_int xs lf bm _ 100 #[] #[(bptr b4 0)] (fun i => !p i) _ (hS5.lend (i := 1) rfl rfl (L' := [(sl v 1 xs.length (ints xs))]) (js := [2]) ⟨rfl, by decide, hS5.sk 2 rfl, ⟨_, rfl, fun _ hz => hz⟩, trivial⟩) hlen ⟨en_100, fun i hi hz W hW hb => cloB_int _ _ _ _ _ _ _ _ (p i) W ((hS5.updB (i := 1) rfl hW hb).lend (i := 1) rfl rfl (L' := [rob b4 112 [(Value.func (.func fid) fs cs)]]) (js := [0]) ⟨rfl, by decide, (hS5.updB (i := 1) rfl hW hb).bk 0 rfl, ⟨_, rfl, fun _ hz => hz⟩, trivial⟩) hf.1 (fun W' hW' hb' => hf.2 i hi (fun j hj => (Bool.not_eq_false' (p j)).mp (hz j hj)) W' (hS5.ext.trans (hW.trans hW')) hb')⟩)) ?_
 rintro a12 _ w14 ⟨rfl, hE15, lx18, hM16⟩ hA13; have hS17 := hS5.updB (i := 1) rfl hE15 hM16; clear hE15 hM16 hA11 hS5 a10
 refine s1 hA13 (op_not rfl (hA13.ev rfl)) fun a19 hA20 => ?_; clear hA13 a12
 refine s1 hA20 (op_assign rfl (hA20.ev rfl)) fun a21 hA22 => ?_; clear hA20 a19
 refine n1 ?_
 refine c_ret ?_
 refine fin_run hA22 (.inl rfl) (run_results1 hA22 rfl (.tmp rfl)) ?_
 exact ⟨congrArg Value.bool (any_not p xs.length), hS17.ext, _, hS17.bk 1 rfl⟩
end Go.Proofs.Ytohgladndklciaa

namespace Go.Hard
section
variable {n : Int} {t : TabD}
theorem tab_rows (h : (List.range t.rows.length).all (fun i => rowB (t.rows.getD i (0, 0))) = false) : tabB n t = false := by
  cases hb : tabB n t with
  | false => rfl
  | true =>
    have g := (tabB_iff.1 hb).2.2.2.2.2.1
    have : (List.range t.rows.length).all (fun i => rowB (t.rows.getD i (0, 0))) = true := List.all_eq_true.2 fun i hi => g i (List.mem_range.1 hi)
    rw [this] at h; cases h
theorem tab_rest (h1 : inB t.frm 0 (n - 1) = true) (h2 : inB t.dst 0 (n - 1) = true) (h3 : ¬ t.frm = t.dst) (h4 : inB t.err 0 1000 = true) (h5 : 2 ≤ t.rows.length) (h6 : (List.range t.rows.length).all (fun i => rowB (t.rows.getD i (0, 0))) = true) (h7 : ∀ i, i < t.rows.length - 1 → stepB (risesB t) (t.rows.getD i (0, 0)) (t.rows.getD (i + 1) (0, 0)) = true) : tabB n t = (List.range t.brk.length).all (brkB t) := by
  have h7' : allI (t.rows.length - 1) (fun i => stepB (risesB t) (t.rows.getD i (0, 0)) (t.rows.getD (i + 1) (0, 0))) = true := allI_iff.2 h7
  have h6' : allI t.rows.length (fun i => rowB (t.rows.getD i (0, 0))) = true := h6
  unfold tabB headB
  rw [h1, h2, h4, h6', h7', decide_eq_true (show 2 ≤ (t.rows.length : Int) by omega), decide_eq_false h3]
  rfl
theorem last_bd (i : Nat) (h : ∀ j, j < i → brkB t j = true) : -1 ≤ lastU t i ∧ lastU t i ≤ (t.rows.length : Int) := by
  induction i with
  | zero => exact ⟨Int.le_refl _, by show (-1 : Int) ≤ _; omega⟩
  | succ i ih =>
    have a := ih fun j hj => h j (by omega)
    have b := inB_iff.1 (h i (by omega))
    show -1 ≤ t.brk.getD i 0 ∧ t.brk.getD i 0 ≤ _
    omega
end
end Go.Hard

namespace Go.Proofs.Ytohgladndklciaa
open Go.RowKit Go.Shelf Go.Eng Go.Hard
theorem fd_106_0 : fldK Try.prog 106 0 = some 0 := by kernel_rfl
theorem fd_106_1 : fldK Try.prog 106 1 = some 1 := by kernel_rfl
theorem en_95 : ∀ args w, (callFunc 95 args).run Try.prog w = .ok (.enter 95 args) w := enters_of Try.func95 (by kernel_rfl) rfl
theorem en_94 : ∀ args w, (callFunc 94 args).run Try.prog w = .ok (.enter 94 args) w := enters_of Try.func94 (by kernel_rfl) rfl
theorem en_96 : ∀ args w, (callFunc 96 args).run Try.prog w = .ok (.enter 96 args) w := enters_of Try.func96 (by kernel_rfl) rfl
theorem lastclo_ok (x l0 : Int) (t : TabD) (vr vb : Value) (bm b3 : Nat) (w : World) (hJ : Sep (fun b => b = bm) w w [blk bm 3 [.int .i64 l0], rob b3 106 [.int .i64 t.frm, .int .i64 t.dst, vr, vb, .int .i64 t.err], sl vr 2 t.rows.length (pairs t.rows), sl vb 1 t.brk.length (ints t.brk)]) (hl0 : -1 ≤ l0 ∧ l0 ≤ 1000000) (hrl : t.rows.length ≤ 1000000) :
  Calls Try.prog 96 #[(Value.int .i64 x), (bptr bm 0), (bptr b3 0)] w (Ret fun v w' => v = .bool (inB x (l0 + 1) ((t.rows.length : Int) - 2)) ∧ Ext (fun b => b = bm) w w' ∧ (blk bm 3 [.int .i64 x]).p w') := by
 refine calls_enter Try.func96 rfl fun a0 hA0 => ?_
 replace hA0 : Fr 16 [] [(0, (Value.int .i64 x)), (1, (bptr bm 0)), (2, (bptr b3 0))] a0 := hA0
 have hS0 : Sep (fun b => b = bm) w w [(blk bm 3 [(Value.int .i64 l0)]), (rob b3 106 [(Value.int .i64 t.frm), (Value.int .i64 t.dst), vr, vb, (Value.int .i64 t.err)]), (sl vr 2 t.rows.length (pairs t.rows)), (sl vb 1 t.brk.length (ints t.brk))] := hJ
 refine m2 ?_
 refine s1 hA0 (op_assign rfl (evc _ _)) fun a1 hA2 => ?_; clear hA0 a0
 refine n4 ?_
 refine s1 hA2 (op_move rfl (hA2.ev rfl)) fun a3 hA4 => ?_; clear hA2 a1
 refine s1 hA4 (op_load1 rfl ty_3 (hA4.ev rfl) (hS0.bk 0 rfl) rfl) fun a5 hA6 => ?_; clear hA4 a3
 refine s1 hA6 (op_add rfl (hA6.ev rfl) (evc _ _) (by omega) (by omega)) fun a7 hA8 => ?_; clear hA6 a5
 refine s1 hA8 (op_field rfl fd_106_2 (hA8.ev rfl)) fun a9 hA10 => ?_; clear hA8 a7
 refine s1 hA10 (op_load1 rfl ty_104 (hA10.ev rfl) (hS0.rk 1 rfl) rfl) fun a11 hA12 => ?_; clear hA10 a9
 refine s1 hA12 (op_lenS rfl un_104 (hA12.ev rfl) (hS0.sk 2 rfl)) fun a13 hA14 => ?_; clear hA12 a11
 refine s1 hA14 (op_sub rfl (hA14.ev rfl) (evc _ _) (by omega) (by omega)) fun a15 hA16 => ?_; clear hA14 a13
 refine s2 hA16 (op_call rfl en_47 (ev3 (hA16.ev rfl) (hA16.ev rfl) (hA16.ev rfl)) (within_ok _ _ _ _)) ?_
 rintro a17 _ W_ ⟨rfl, hW_⟩ hA18; have hW2_ := hW_.symm; subst hW2_; clear hW_ hA16 a15
 refine s1 hA18 (op_assign rfl (hA18.ev rfl)) fun a20 hA21 => ?_; clear hA18 a17
 refine n2 ?_
 have hA22 := hA21.as [(5, (Value.bool (inB x (l0 + 1) ((t.rows.length : Int) - 2)))), (0, (Value.int .i64 x)), (1, (bptr bm 0))] rfl; clear hA21
 refine c_region ?_
 refine s1 hA22 (op_move rfl (hA22.ev rfl)) fun a23 hA24 => ?_; clear hA22 a20
 refine s7 hA24 (op_store hS0 rfl ty_3 (hA24.ev rfl) (hA24.ev rfl) (i := 0) rfl (vs := [(Value.int .i64 x)]) rfl rfl rfl (Nat.le_of_ble_eq_true rfl)) ?_
 intro _ w25 hS26 hA27; clear hA24
 have hS28 : Sep (fun b => b = bm) w w25 [(blk bm 3 [(Value.int .i64 x)]), (rob b3 106 [(Value.int .i64 t.frm), (Value.int .i64 t.dst), vr, vb, (Value.int .i64 t.err)]), (sl vr 2 t.rows.length (pairs t.rows)), (sl vb 1 t.brk.length (ints t.brk))] := hS26; clear hS26 hS0
 refine n4 ?_
 refine s1 hA27 (op_move rfl (hA27.ev rfl)) fun a29 hA30 => ?_; clear hA27 a23
 refine s1 hA30 (op_assign rfl (hA30.ev rfl)) fun a31 hA32 => ?_; clear hA30 a29
 refine n1 ?_
 refine c_ret ?_
 refine fin_run hA32 (.inl rfl) (run_results1 hA32 rfl (.tmp rfl)) ?_
 exact ⟨rfl, hS28.ext, hS28.bk 0 rfl⟩
set_option maxHeartbeats 4000000 in
theorem table_ok (sc : Int) (vt vm : Value) (h1_ : vt.oneCell' = true) (h2_ : vm.oneCell' = true) (hsc : 1 ≤ sc ∧ sc ≤ 4) (t : TabD) (vr vb : Value) (w : World) (hr : SlAt w vr 2 t.rows.length (pairs t.rows)) (hb : SlAt w vb 1 t.brk.length (ints t.brk)) (hrl : t.rows.length ≤ 1000000) (hbl : t.brk.length ≤ 1000000) :
  Calls Try.prog 65 #[(Value.agg #[(Value.int .i64 sc), vt, vm]), (Value.agg #[(Value.int .i64 t.frm), (Value.int .i64 t.dst), vr, vb, (Value.int .i64 t.err)])] w (Ret fun v w' => v = .bool (tabB sc t) ∧ Ext NoB w w') := by
 refine calls_enter Try.func65 rfl fun a0 hA0 => ?_
 replace hA0 : Fr 98 [] [(0, (Value.agg #[(Value.int .i64 sc), vt, vm])), (1, (Value.agg #[(Value.int .i64 t.frm), (Value.int .i64 t.dst), vr, vb, (Value.int .i64 t.err)]))] a0 := hA0
 have hS0 : Sep NoB w w [(sl vr 2 t.rows.length (pairs t.rows)), (sl vb 1 t.brk.length (ints t.brk))] := sep_ro ⟨rfl, hr, rfl, hb, trivial⟩
 refine m2 ?_
 refine s2 hA0 (op_box hS0 rfl (hA0.ev rfl) (cs := [(Value.int .i64 sc), vt, vm]) rfl) ?_
 rintro a1 _ w3 ⟨b4, rfl, hS5⟩ hA2; clear hA0 hS0 a0
 refine s2 hA2 (op_box hS5 rfl (hA2.ev rfl) (cs := [(Value.int .i64 t.frm), (Value.int .i64 t.dst), vr, vb, (Value.int .i64 t.err)]) rfl) ?_
 rintro a6 _ w8 ⟨b9, rfl, hS10⟩ hA7; clear hA2 hS5 a1
 refine s1 hA7 (op_assign rfl (evc _ _)) fun a11 hA12 => ?_; clear hA7 a6
 refine n2 ?_
 refine m2 ?_
 refine s1 hA12 (op_loadA rfl ty_37 (hA12.ev rfl) (hS10.bk 1 rfl) (l := [(Value.int .i64 sc), vt, vm]) rfl rfl) fun a13 hA14 => ?_; clear hA12 a11
 refine s1 hA14 (op_field rfl fd_106_0 (hA14.ev rfl)) fun a15 hA16 => ?_; clear hA14 a13
 refine s1 hA16 (op_load1 rfl ty_3 (hA16.ev rfl) (hS10.bk 0 rfl) rfl) fun a17 hA18 => ?_; clear hA16 a15
 refine s2 hA18 (op_call rfl en_93 (ev2 (hA18.ev rfl) (hA18.ev rfl)) (scale_ok t.frm sc _ _ _ h1_ h2_ hsc)) ?_
 rintro a19 _ w21 ⟨rfl, hE22⟩ hA20; have hS23 := hS10.step hE22; clear hE22 hA18 hS10 a17
 refine s1 hA20 (op_not rfl (hA20.ev rfl)) fun a24 hA25 => ?_; clear hA20 a19
 refine s1 hA25 (op_move rfl (hA25.ev rfl)) fun a26 hA27 => ?_; clear hA25 a24
 rcases Bool.eq_false_or_eq_true ((inB t.frm 0 (sc - 1))) with hb28 | hb28
 ·skip
  rw [hb28] at hA27
  refine s5 hA27 (op_loadA rfl ty_37 (hA27.ev rfl) (hS23.bk 1 rfl) (l := [(Value.int .i64 sc), vt, vm]) rfl rfl) fun a29 hA30 => ?_; clear hA27 a26
  refine s5 hA30 (op_field rfl fd_106_1 (hA30.ev rfl)) fun a31 hA32 => ?_; clear hA30 a29
  refine s5 hA32 (op_load1 rfl ty_3 (hA32.ev rfl) (hS23.bk 0 rfl) rfl) fun a33 hA34 => ?_; clear hA32 a31
  refine s6 hA34 (op_call rfl en_93 (ev2 (hA34.ev rfl) (hA34.ev rfl)) (scale_ok t.dst sc _ _ _ h1_ h2_ hsc)) ?_
  rintro a35 _ w37 ⟨rfl, hE38⟩ hA36; have hS39 := hS23.step hE38; clear hE38 hA34 hS23 a33
  refine s5 hA36 (op_not rfl (hA36.ev rfl)) fun a40 hA41 => ?_; clear hA36 a35
  refine s1 hA41 (op_pick_f rfl (hA41.ev rfl) (hA41.ev rfl)) fun a42 hA43 => ?_; clear hA41 a40
  refine s1 hA43 (op_move rfl (hA43.ev rfl)) fun a44 hA45 => ?_; clear hA43 a42
  rcases Bool.eq_false_or_eq_true ((inB t.dst 0 (sc - 1))) with hb46 | hb46
  ·skip
   rw [hb46] at hA45
   refine s5 hA45 (op_field rfl fd_106_0 (hA45.ev rfl)) fun a47 hA48 => ?_; clear hA45 a44
   refine s5 hA48 (op_load1 rfl ty_3 (hA48.ev rfl) (hS39.bk 0 rfl) rfl) fun a49 hA50 => ?_; clear hA48 a47
   refine s5 hA50 (op_field rfl fd_106_1 (hA50.ev rfl)) fun a51 hA52 => ?_; clear hA50 a49
   refine s5 hA52 (op_load1 rfl ty_3 (hA52.ev rfl) (hS39.bk 0 rfl) rfl) fun a53 hA54 => ?_; clear hA52 a51
   refine s5 hA54 (op_eql rfl (hA54.ev rfl) (hA54.ev rfl)) fun a55 hA56 => ?_; clear hA54 a53
   refine s1 hA56 (op_pick_f rfl (hA56.ev rfl) (hA56.ev rfl)) fun a57 hA58 => ?_; clear hA56 a55
   refine s1 hA58 (op_move rfl (hA58.ev rfl)) fun a59 hA60 => ?_; clear hA58 a57
   by_cases hb61 : t.frm = t.dst
   ·skip
    rw [decide_eq_true hb61] at hA60
    refine s3 hA60 fun a62 hA63 => ?_; clear hA60 a59
    refine s3 hA63 fun a64 hA65 => ?_; clear hA63 a62
    refine s3 hA65 fun a66 hA67 => ?_; clear hA65 a64
    refine s3 hA67 fun a68 hA69 => ?_; clear hA67 a66
    refine s1 hA69 (op_pick_t rfl (hA69.ev rfl) (evc _ _)) fun a70 hA71 => ?_; clear hA69 a68
    refine s1 hA71 (op_move rfl (hA71.ev rfl)) fun a72 hA73 => ?_; clear hA71 a70
    refine s3 hA73 fun a74 hA75 => ?_; clear hA73 a72
    refine s3 hA75 fun a76 hA77 => ?_; clear hA75 a74
    refine s3 hA77 fun a78 hA79 => ?_; clear hA77 a76
    refine s3 hA79 fun a80 hA81 => ?_; clear hA79 a78
    refine s1 hA81 (op_pick_t rfl (hA81.ev rfl) (evc _ _)) fun a82 hA83 => ?_; clear hA81 a80
    refine s1 hA83 (op_move rfl (hA83.ev rfl)) fun a84 hA85 => ?_; clear hA83 a82
    refine s3 hA85 fun a86 hA87 => ?_; clear hA85 a84
    refine s3 hA87 fun a88 hA89 => ?_; clear hA87 a86
    refine s3 hA89 fun a90 hA91 => ?_; clear hA89 a88
    refine s3 hA91 fun a92 hA93 => ?_; clear hA91 a90
    refine s1 hA93 (op_pick_t rfl (hA93.ev rfl) (evc _ _)) fun a94 hA95 => ?_; clear hA93 a92
    refine n1 ?_
    refine c_true hA95 rfl ?_
    refine c_seq ?_
    have hA96 := hA95.as [] rfl; clear hA95
    refine c_region ?_
    refine s1 hA96 (op_assign rfl (evc _ _)) fun a97 hA98 => ?_; clear hA96 a94
    refine n1 ?_
    refine c_ret ?_
    refine then_ret ?_
    refine fin_run hA98 (.inl rfl) (run_results1 hA98 rfl (.tmp rfl)) ?_
    exact ⟨congrArg Value.bool (Eq.symm (by first | exact tab_rows (by assumption) | exact tab_head (by first | exact .inl (by assumption) | exact .inr (.inl (by assumption)) | exact .inr (.inr (.inl (by assumption))) | exact .inr (.inr (.inr (.inl (by assumption)))) | exact .inr (.inr (.inr (.inr (by omega))))))), hS39.ext⟩
   ·skip
    rw [decide_eq_false hb61] at hA60
    refine s5 hA60 (op_field rfl fd_106_4 (hA60.ev rfl)) fun a99 hA100 => ?_; clear hA60 a59
    refine s5 hA100 (op_load1 rfl ty_3 (hA100.ev rfl) (hS39.bk 0 rfl) rfl) fun a101 hA102 => ?_; clear hA100 a99
    refine s6 hA102 (op_call rfl en_47 (ev3 (hA102.ev rfl) (evc _ _) (evc _ _)) (within_ok _ _ _ _)) ?_
    rintro a103 _ W_ ⟨rfl, hW_⟩ hA104; have hW2_ := hW_.symm; subst hW2_; clear hW_ hA102 a101
    refine s5 hA104 (op_not rfl (hA104.ev rfl)) fun a106 hA107 => ?_; clear hA104 a103
    refine s1 hA107 (op_pick_f rfl (hA107.ev rfl) (hA107.ev rfl)) fun a108 hA109 => ?_; clear hA107 a106
    refine s1 hA109 (op_move rfl (hA109.ev rfl)) fun a110 hA111 => ?_; clear hA109 a108
    rcases Bool.eq_false_or_eq_true ((inB t.err 0 1000)) with hb112 | hb112
    ·skip
     rw [hb112] at hA111
     refine s5 hA111 (op_field rfl fd_106_2 (hA111.ev rfl)) fun a113 hA114 => ?_; clear hA111 a110
     refine s5 hA114 (op_load1 rfl ty_104 (hA114.ev rfl) (hS39.bk 0 rfl) rfl) fun a115 hA116 => ?_; clear hA114 a113
     refine s5 hA116 (op_lenS rfl un_104 (hA116.ev rfl) (hS39.sk 2 rfl)) fun a117 hA118 => ?_; clear hA116 a115
     refine s5 hA118 (op_lss rfl (hA118.ev rfl) (evc _ _)) fun a119 hA120 => ?_; clear hA118 a117
     refine s1 hA120 (op_pick_f rfl (hA120.ev rfl) (hA120.ev rfl)) fun a121 hA122 => ?_; clear hA120 a119
     refine s1 hA122 (op_move rfl (hA122.ev rfl)) fun a123 hA124 => ?_; clear hA122 a121
     by_cases hb125 : (t.rows.length : Int) < 2
     ·skip
      rw [decide_eq_true hb125] at hA124
      refine s3 hA124 fun a126 hA127 => ?_; clear hA124 a123
      refine s3 hA127 fun a128 hA129 => ?_; clear hA127 a126
      refine s3 hA129 fun a130 hA131 => ?_; clear hA129 a128
      refine s3 hA131 fun a132 hA133 => ?_; clear hA131 a130
      refine s1 hA133 (op_pick_t rfl (hA133.ev rfl) (evc _ _)) fun a134 hA135 => ?_; clear hA133 a132
      refine n1 ?_
      refine c_true hA135 rfl ?_
      refine c_seq ?_
      have hA136 := hA135.as [] rfl; clear hA135
      refine c_region ?_
      refine s1 hA136 (op_assign rfl (evc _ _)) fun a137 hA138 => ?_; clear hA136 a134
      refine n1 ?_
      refine c_ret ?_
      refine then_ret ?_
      refine fin_run hA138 (.inl rfl) (run_results1 hA138 rfl (.tmp rfl)) ?_
      exact ⟨congrArg Value.bool (Eq.symm (by first | exact tab_rows (by assumption) | exact tab_head (by first | exact .inl (by assumption) | exact .inr (.inl (by assumption)) | exact .inr (.inr (.inl (by assumption))) | exact .inr (.inr (.inr (.inl (by assumption)))) | exact .inr (.inr (.inr (.inr (by omega))))))), hS39.ext⟩
     ·skip
      rw [decide_eq_false hb125] at hA124
      refine s5 hA124 (op_field rfl fd_106_2 (hA124.ev rfl)) fun a139 hA140 => ?_; clear hA124 a123
      refine s5 hA140 (op_load1 rfl ty_104 (hA140.ev rfl) (hS39.bk 0 rfl) rfl) fun a141 hA142 => ?_; clear hA140 a139
      refine s6 hA142 (op_call rfl en_94 (ev2 (hA142.ev rfl) (evf _ _)) (all_row t.rows _ 95 #[] #[] (fun i => rowB (t.rows.getD i (0, 0))) _ (hS39.sk 2 rfl) (by omega) ⟨en_95, fun i hi W hW => row_ok _ _ W⟩)) ?_
      rintro a143 _ w145 ⟨rfl, hE146⟩ hA144; have hS147 := hS39.step hE146; clear hE146 hA142 hS39 a141
      refine s5 hA144 (op_not rfl (hA144.ev rfl)) fun a148 hA149 => ?_; clear hA144 a143
      refine s1 hA149 (op_pick_f rfl (hA149.ev rfl) (hA149.ev rfl)) fun a150 hA151 => ?_; clear hA149 a148
      refine n1 ?_
      rcases Bool.eq_false_or_eq_true (((List.range t.rows.length).all (fun i => rowB (t.rows.getD i (0, 0))))) with hb152 | hb152
      ·skip
       rw [hb152] at hA151
       refine c_false hA151 rfl ?_
       refine c_skip ?_
       refine then_n ?_
       refine c_seq ?_
       have hA153 := hA151.as [(3, (bptr b9 0))] rfl; clear hA151
       have hA154 := hA153.as [(3, (bptr b9 0))] rfl; clear hA153
       refine c_drawn mixed hA154 hS147 10 [[], [0], [1], [2], [3], [], [5], [6], [7], [8]] [(Yd.val (bptr b9 2)), (Yd.val vr), (Yd.val (eptr vr (0 * 2))), (Yd.val (eptr vr (0 * 2 + 1))), (Yd.val (Value.int .i64 ((t.rows.getD 0 (0, 0)).2))), (Yd.val (bptr b9 2)), (Yd.val vr), (Yd.val (eptr vr (1 * 2))), (Yd.val (eptr vr (1 * 2 + 1))), (Yd.val (Value.int .i64 ((t.rows.getD 1 (0, 0)).2)))] (by decide +kernel) rfl rfl ?_ ?_
       ·skip
        refine dq (fun a w hA hS hd => op_field rfl fd_106_2 (hA.ev rfl)) ?_
        refine dq (fun a w hA hS hd => op_load1 rfl ty_104 (hq hd 0) (hS.bk 0 rfl) rfl) ?_
        refine dq (fun a w hA hS hd => op_indexS rfl un_104 ty_107 (hq hd 1) (i := 0) (show _ = Value.int .i64 ((0 : Nat) : Int) from (evc _ _)) (hS.sk 2 rfl) (by decide) (by omega)) ?_
        refine dq (fun a w hA hS hd => op_fieldS rfl fd_107_1 (hq hd 2) (hS.sk 2 rfl) (by rw [((hS.sk 2 rfl)).1]; omega)) ?_
        refine dq (fun a w hA hS hd => op_load1E rfl ty_3 (hq hd 3) (hS.sk 2 rfl) (pairs_at1 (by omega))) ?_
        refine dq (fun a w hA hS hd => op_field rfl fd_106_2 (hA.ev rfl)) ?_
        refine dq (fun a w hA hS hd => op_load1 rfl ty_104 (hq hd 5) (hS.bk 0 rfl) rfl) ?_
        refine dq (fun a w hA hS hd => op_indexS rfl un_104 ty_107 (hq hd 6) (i := 1) (show _ = Value.int .i64 ((1 : Nat) : Int) from (evc _ _)) (hS.sk 2 rfl) (by decide) (by omega)) ?_
        refine dq (fun a w hA hS hd => op_fieldS rfl fd_107_1 (hq hd 7) (hS.sk 2 rfl) (by rw [((hS.sk 2 rfl)).1]; omega)) ?_
        refine dq (fun a w hA hS hd => op_load1E rfl ty_3 (hq hd 8) (hS.sk 2 rfl) (pairs_at1 (by omega))) ?_
        trivial
       intro a156 w157 hA158 hS159 hH160; clear hA154 hS147
       have hA161 := hA158.add (hz hH160 4); clear hA158
       have hA162 := hA161.add (hz hH160 9); clear hA161
       clear hH160
       refine s1 hA162 (op_lss rfl (hA162.ev rfl) (hA162.ev rfl)) fun a163 hA164 => ?_; clear hA162 a156
       refine s1 hA164 (op_assign rfl (hA164.ev rfl)) fun a165 hA166 => ?_; clear hA164 a163
       refine n2 ?_
       refine m2 ?_
       refine s1 hA166 (op_field rfl fd_106_2 (hA166.ev rfl)) fun a167 hA168 => ?_; clear hA166 a165
       refine s1 hA168 (op_load1 rfl ty_104 (hA168.ev rfl) (hS159.bk 0 rfl) rfl) fun a169 hA170 => ?_; clear hA168 a167
       refine s1 hA170 (op_sliceLo rfl un_104 ty_107 (hA170.ev rfl) (l := 1) (show _ = Value.int .i64 ((1 : Nat) : Int) from (evc _ _)) (hS159.sk 2 rfl) (by omega)) fun a171 hA172 => ?_; clear hA170 a169
       refine s1 hA172 (op_lenS rfl un_104 (hA172.ev rfl) (SlAt.say (n' := (t.rows.length - 1)) (cs' := (pairs (t.rows.drop 1))) (SlAt.cut (hS159.sk 2 rfl) (by omega) (Nat.le_refl _)) rfl (pairs_cutLo _))) fun a173 hA174 => ?_; clear hA172 a171
       refine s1 hA174 (op_move rfl (evc _ _)) fun a175 hA176 => ?_; clear hA174 a173
       refine n1 ?_
       refine c_block ?_
       have hA177 := hA176.as [(62, (Value.int .i64 0)), (61, (Value.int .i64 (((t.rows.length - 1) : Nat) : Int))), (60, (slcut vr 1 t.rows.length 2)), (5, (Value.bool (decide (((t.rows.getD 0 (0, 0)).2) < ((t.rows.getD 1 (0, 0)).2))))), (3, (bptr b9 0))] rfl; clear hA176
       refine c_loop (G := Nat) (fun (k : Nat) a_ w_ => Fr 98 [] [(62, (Value.int .i64 (k : Int))), (61, (Value.int .i64 (((t.rows.length - 1) : Nat) : Int))), (60, (slcut vr 1 t.rows.length 2)), (5, (Value.bool (decide (((t.rows.getD 0 (0, 0)).2) < ((t.rows.getD 1 (0, 0)).2))))), (3, (bptr b9 0))] a_ ∧ Sep NoB w w_ [(blk b9 106 [(Value.int .i64 t.frm), (Value.int .i64 t.dst), vr, vb, (Value.int .i64 t.err)]), (blk b4 37 [(Value.int .i64 sc), vt, vm]), (sl vr 2 t.rows.length (pairs t.rows)), (sl vb 1 t.brk.length (ints t.brk))] ∧ (k ≤ t.rows.length - 1) ∧ (∀ i, i < k → stepB (risesB t) (t.rows.getD i (0, 0)) (t.rows.getD (i + 1) (0, 0)) = true)) (fun k => t.rows.length - 1 - k) 0 ⟨hA177.as _ rfl, hS159, by omega, (fun _ h => absurd h (Nat.not_lt_zero _))⟩ ?_
       clear hA177 hS159 a175
       rintro k a178 w180 ⟨hA179, hS181, hkk, hst⟩
       refine m2 ?_
       refine s1 hA179 (op_lss rfl (hA179.ev rfl) (hA179.ev rfl)) fun a182 hA183 => ?_; clear hA179 a178
       refine n2 ?_
       by_cases hb184 : (k : Int) < (((t.rows.length - 1) : Nat) : Int)
       ·skip
        rw [decide_eq_true hb184] at hA183
        refine c_true hA183 rfl ?_
        refine c_skip ?_
        refine then_n ?_
        refine c_seq ?_
        refine c_block ?_
        refine m2 ?_
        refine s1 hA183 (op_move rfl (hA183.ev rfl)) fun a185 hA186 => ?_; clear hA183 a182
        refine s1 hA186 (op_indexS rfl un_104 ty_107 (hA186.ev rfl) (i := k) (hA186.ev rfl) (SlAt.say (n' := (t.rows.length - 1)) (cs' := (pairs (t.rows.drop 1))) (SlAt.cut (hS181.sk 2 rfl) (by omega) (Nat.le_refl _)) rfl (pairs_cutLo _)) (by decide) (by omega)) fun a187 hA188 => ?_; clear hA186 a185
        refine s1 hA188 (op_loadAE rfl ty_107 (hA188.ev rfl) (SlAt.say (n' := (t.rows.length - 1)) (cs' := (pairs (t.rows.drop 1))) (SlAt.cut (hS181.sk 2 rfl) (by omega) (Nat.le_refl _)) rfl (pairs_cutLo _)) (dropP_all (by omega)) rfl (by decide)) fun a189 hA190 => ?_; clear hA188 a187
        refine s2 hA190 (op_alloc hS181 rfl ze_107 (cs := [(Value.int .i64 0), (Value.int .i64 0)]) rfl) ?_
        rintro a191 _ w193 ⟨b194, rfl, hS195⟩ hA192; clear hA190 hS181 a189
        refine s1 hA192 (op_assign rfl (hA192.ev rfl)) fun a196 hA197 => ?_; clear hA192 a191
        refine s7 hA197 (op_store hS195 rfl ty_107 (hA197.ev rfl) (hA197.ev rfl) (i := 0) rfl (vs := [(Value.int .i64 ((t.rows.getD (k + 1) (0, 0)).1)), (Value.int .i64 ((t.rows.getD (k + 1) (0, 0)).2))]) rfl rfl rfl (Nat.le_of_ble_eq_true rfl)) ?_
        intro _ w198 hS199 hA200; clear hA197
        have hS201 : Sep NoB w w198 [(blk b194 107 [(Value.int .i64 ((t.rows.getD (k + 1) (0, 0)).1)), (Value.int .i64 ((t.rows.getD (k + 1) (0, 0)).2))]), (blk b9 106 [(Value.int .i64 t.frm), (Value.int .i64 t.dst), vr, vb, (Value.int .i64 t.err)]), (blk b4 37 [(Value.int .i64 sc), vt, vm]), (sl vr 2 t.rows.length (pairs t.rows)), (sl vb 1 t.brk.length (ints t.brk))] := hS199; clear hS199 hS195
        refine n4 ?_
        refine s1 hA200 (op_field rfl fd_106_2 (hA200.ev rfl)) fun a202 hA203 => ?_; clear hA200 a196
        refine s1 hA203 (op_load1 rfl ty_104 (hA203.ev rfl) (hS201.bk 1 rfl) rfl) fun a204 hA205 => ?_; clear hA203 a202
        refine s1 hA205 (op_move rfl (hA205.ev rfl)) fun a206 hA207 => ?_; clear hA205 a204
        refine s1 hA207 (op_indexS rfl un_104 ty_107 (hA207.ev rfl) (i := k) (hA207.ev rfl) (hS201.sk 3 rfl) (by decide) (by omega)) fun a208 hA209 => ?_; clear hA207 a206
        refine s1 hA209 (op_loadAE rfl ty_107 (hA209.ev rfl) (hS201.sk 3 rfl) (pairs_all (by omega)) rfl (by decide)) fun a210 hA211 => ?_; clear hA209 a208
        refine s2 hA211 (op_alloc hS201 rfl ze_107 (cs := [(Value.int .i64 0), (Value.int .i64 0)]) rfl) ?_
        rintro a212 _ w214 ⟨b215, rfl, hS216⟩ hA213; clear hA211 hS201 a210
        refine s7 hA213 (op_store hS216 rfl ty_107 (hA213.ev rfl) (hA213.ev rfl) (i := 0) rfl (vs := [(Value.int .i64 ((t.rows.getD k (0, 0)).1)), (Value.int .i64 ((t.rows.getD k (0, 0)).2))]) rfl rfl rfl (Nat.le_of_ble_eq_true rfl)) ?_
        intro _ w217 hS218 hA219; clear hA213
        have hS220 : Sep NoB w w217 [(blk b215 107 [(Value.int .i64 ((t.rows.getD k (0, 0)).1)), (Value.int .i64 ((t.rows.getD k (0, 0)).2))]), (blk b194 107 [(Value.int .i64 ((t.rows.getD (k + 1) (0, 0)).1)), (Value.int .i64 ((t.rows.getD (k + 1) (0, 0)).2))]), (blk b9 106 [(Value.int .i64 t.frm), (Value.int .i64 t.dst), vr, vb, (Value.int .i64 t.err)]), (blk b4 37 [(Value.int .i64 sc), vt, vm]), (sl vr 2 t.rows.length (pairs t.rows)), (sl vb 1 t.brk.length (ints t.brk))] := hS218; clear hS218 hS216
        refine n2 ?_
        have hA221 := hA219.as [(8, (bptr b215 0)), (7, (bptr b194 0)), (62, (Value.int .i64 (k : Int))), (61, (Value.int .i64 (((t.rows.length - 1) : Nat) : Int))), (60, (slcut vr 1 t.rows.length 2)), (5, (Value.bool (decide (((t.rows.getD 0 (0, 0)).2) < ((t.rows.getD 1 (0, 0)).2))))), (3, (bptr b9 0))] rfl; clear hA219
        refine c_region ?_
        refine s1 hA221 (op_field rfl fd_107_0 (hA221.ev rfl)) fun a222 hA223 => ?_; clear hA221 a212
        refine s1 hA223 (op_load1 rfl ty_3 (hA223.ev rfl) (hS220.bk 1 rfl) rfl) fun a224 hA225 => ?_; clear hA223 a222
        refine s1 hA225 (op_field rfl fd_107_0 (hA225.ev rfl)) fun a226 hA227 => ?_; clear hA225 a224
        refine s1 hA227 (op_load1 rfl ty_3 (hA227.ev rfl) (hS220.bk 0 rfl) rfl) fun a228 hA229 => ?_; clear hA227 a226
        refine s1 hA229 (op_leq rfl (hA229.ev rfl) (hA229.ev rfl)) fun a230 hA231 => ?_; clear hA229 a228
        refine s1 hA231 (op_move rfl (hA231.ev rfl)) fun a232 hA233 => ?_; clear hA231 a230
        by_cases hb234 : ((t.rows.getD (k + 1) (0, 0)).1) ≤ ((t.rows.getD k (0, 0)).1)
        ·skip
         rw [decide_eq_true hb234] at hA233
         refine s3 hA233 fun a235 hA236 => ?_; clear hA233 a232
         refine s3 hA236 fun a237 hA238 => ?_; clear hA236 a235
         refine s3 hA238 fun a239 hA240 => ?_; clear hA238 a237
         refine s3 hA240 fun a241 hA242 => ?_; clear hA240 a239
         refine s3 hA242 fun a243 hA244 => ?_; clear hA242 a241
         refine s1 hA244 (op_pick_t rfl (hA244.ev rfl) (evc _ _)) fun a245 hA246 => ?_; clear hA244 a243
         refine s1 hA246 (op_move rfl (hA246.ev rfl)) fun a247 hA248 => ?_; clear hA246 a245
         refine s3 hA248 fun a249 hA250 => ?_; clear hA248 a247
         refine s3 hA250 fun a251 hA252 => ?_; clear hA250 a249
         refine s3 hA252 fun a253 hA254 => ?_; clear hA252 a251
         refine s3 hA254 fun a255 hA256 => ?_; clear hA254 a253
         refine s3 hA256 fun a257 hA258 => ?_; clear hA256 a255
         refine s3 hA258 fun a259 hA260 => ?_; clear hA258 a257
         refine s3 hA260 fun a261 hA262 => ?_; clear hA260 a259
         refine s1 hA262 (op_pick_t rfl (hA262.ev rfl) (evc _ _)) fun a263 hA264 => ?_; clear hA262 a261
         refine n1 ?_
         refine c_true hA264 rfl ?_
         refine c_seq ?_
         have hA265 := hA264.as [] rfl; clear hA264
         refine c_region ?_
         refine s1 hA265 (op_assign rfl (evc _ _)) fun a266 hA267 => ?_; clear hA265 a263
         refine n1 ?_
         refine c_ret ?_
         refine blk_ret ?_
         refine then_ret ?_
         refine then_ret ?_
         refine blk_ret ?_
         refine then_ret ?_
         refine fin_run hA267 (.inl rfl) (run_results1 hA267 rfl (.tmp rfl)) ?_
         exact ⟨congrArg Value.bool (Eq.symm (tab_step (k := k) (by omega) (by first | exact neq_n (by assumption) | exact step_n (.inl (by omega)) | exact step_n (.inr (.inl (by omega)))))), hS220.ext⟩
        ·skip
         rw [decide_eq_false hb234] at hA233
         refine s5 hA233 (op_field rfl fd_107_1 (hA233.ev rfl)) fun a268 hA269 => ?_; clear hA233 a232
         refine s5 hA269 (op_load1 rfl ty_3 (hA269.ev rfl) (hS220.bk 1 rfl) rfl) fun a270 hA271 => ?_; clear hA269 a268
         refine s5 hA271 (op_field rfl fd_107_1 (hA271.ev rfl)) fun a272 hA273 => ?_; clear hA271 a270
         refine s5 hA273 (op_load1 rfl ty_3 (hA273.ev rfl) (hS220.bk 0 rfl) rfl) fun a274 hA275 => ?_; clear hA273 a272
         refine s5 hA275 (op_eql rfl (hA275.ev rfl) (hA275.ev rfl)) fun a276 hA277 => ?_; clear hA275 a274
         refine s1 hA277 (op_pick_f rfl (hA277.ev rfl) (hA277.ev rfl)) fun a278 hA279 => ?_; clear hA277 a276
         refine s1 hA279 (op_move rfl (hA279.ev rfl)) fun a280 hA281 => ?_; clear hA279 a278
         by_cases hb282 : ((t.rows.getD (k + 1) (0, 0)).2) = ((t.rows.getD k (0, 0)).2)
         ·skip
          rw [decide_eq_true hb282] at hA281
          refine s3 hA281 fun a283 hA284 => ?_; clear hA281 a280
          refine s3 hA284 fun a285 hA286 => ?_; clear hA284 a283
          refine s3 hA286 fun a287 hA288 => ?_; clear hA286 a285
          refine s3 hA288 fun a289 hA290 => ?_; clear hA288 a287
          refine s3 hA290 fun a291 hA292 => ?_; clear hA290 a289
          refine s3 hA292 fun a293 hA294 => ?_; clear hA292 a291
          refine s3 hA294 fun a295 hA296 => ?_; clear hA294 a293
          refine s1 hA296 (op_pick_t rfl (hA296.ev rfl) (evc _ _)) fun a297 hA298 => ?_; clear hA296 a295
          refine n1 ?_
          refine c_true hA298 rfl ?_
          refine c_seq ?_
          have hA299 := hA298.as [] rfl; clear hA298
          refine c_region ?_
          refine s1 hA299 (op_assign rfl (evc _ _)) fun a300 hA301 => ?_; clear hA299 a297
          refine n1 ?_
          refine c_ret ?_
          refine blk_ret ?_
          refine then_ret ?_
          refine then_ret ?_
          refine blk_ret ?_
          refine then_ret ?_
          refine fin_run hA301 (.inl rfl) (run_results1 hA301 rfl (.tmp rfl)) ?_
          exact ⟨congrArg Value.bool (Eq.symm (tab_step (k := k) (by omega) (by first | exact neq_n (by assumption) | exact step_n (.inl (by omega)) | exact step_n (.inr (.inl (by omega)))))), hS220.ext⟩
         ·skip
          rw [decide_eq_false hb282] at hA281
          refine s5 hA281 (op_field rfl fd_107_1 (hA281.ev rfl)) fun a302 hA303 => ?_; clear hA281 a280
          refine s5 hA303 (op_load1 rfl ty_3 (hA303.ev rfl) (hS220.bk 1 rfl) rfl) fun a304 hA305 => ?_; clear hA303 a302
          refine s5 hA305 (op_field rfl fd_107_1 (hA305.ev rfl)) fun a306 hA307 => ?_; clear hA305 a304
          refine s5 hA307 (op_load1 rfl ty_3 (hA307.ev rfl) (hS220.bk 0 rfl) rfl) fun a308 hA309 => ?_; clear hA307 a306
          refine s5 hA309 (op_gtr rfl (hA309.ev rfl) (hA309.ev rfl)) fun a310 hA311 => ?_; clear hA309 a308
          refine s5 hA311 (op_move rfl (hA311.ev rfl)) fun a312 hA313 => ?_; clear hA311 a310
          refine s5 hA313 (op_neqB un_4 rfl (hA313.ev rfl) (hA313.ev rfl)) fun a314 hA315 => ?_; clear hA313 a312
          refine s1 hA315 (op_pick_f rfl (hA315.ev rfl) (hA315.ev rfl)) fun a316 hA317 => ?_; clear hA315 a314
          refine n1 ?_
          rcases Bool.eq_false_or_eq_true ((decide (((t.rows.getD k (0, 0)).2) < ((t.rows.getD (k + 1) (0, 0)).2))) == (decide (((t.rows.getD 0 (0, 0)).2) < ((t.rows.getD 1 (0, 0)).2)))) with hb318 | hb318
          ·skip
           rw [hb318] at hA317
           refine c_false hA317 rfl ?_
           refine c_skip ?_
           refine blk_n ?_
           refine then_n ?_
           have hA319 := hA317.as [(62, (Value.int .i64 (k : Int))), (61, (Value.int .i64 (((t.rows.length - 1) : Nat) : Int))), (60, (slcut vr 1 t.rows.length 2)), (5, (Value.bool (decide (((t.rows.getD 0 (0, 0)).2) < ((t.rows.getD 1 (0, 0)).2))))), (3, (bptr b9 0))] rfl; clear hA317
           refine c_region ?_
           refine s1 hA319 (op_add rfl (hA319.ev rfl) (evc _ _) (by omega) (by omega)) fun a320 hA321 => ?_; clear hA319 a316
           refine s1 hA321 (op_move rfl (hA321.ev rfl)) fun a322 hA323 => ?_; clear hA321 a320
           refine wl_nil ?_
           have hS324 : Sep NoB w w217 [(blk b9 106 [(Value.int .i64 t.frm), (Value.int .i64 t.dst), vr, vb, (Value.int .i64 t.err)]), (blk b4 37 [(Value.int .i64 sc), vt, vm]), (sl vr 2 t.rows.length (pairs t.rows)), (sl vb 1 t.brk.length (ints t.brk))] := hS220.keep [2, 3, 4, 5] (by decide) _ rfl rfl; clear hS220
           exact then_n ⟨k + 1, ⟨hA323.as _ rfl, hS324, by omega, (fun i hi => by rcases Nat.lt_succ_iff_lt_or_eq.1 hi with h | h; exact hst i h; subst h; exact neq_y (by omega) (by omega) (by assumption))⟩, by omega⟩
          ·skip
           rw [hb318] at hA317
           refine c_true hA317 rfl ?_
           refine c_seq ?_
           have hA325 := hA317.as [] rfl; clear hA317
           refine c_region ?_
           refine s1 hA325 (op_assign rfl (evc _ _)) fun a326 hA327 => ?_; clear hA325 a316
           refine n1 ?_
           refine c_ret ?_
           refine blk_ret ?_
           refine then_ret ?_
           refine then_ret ?_
           refine blk_ret ?_
           refine then_ret ?_
           refine fin_run hA327 (.inl rfl) (run_results1 hA327 rfl (.tmp rfl)) ?_
           exact ⟨congrArg Value.bool (Eq.symm (tab_step (k := k) (by omega) (by first | exact neq_n (by assumption) | exact step_n (.inl (by omega)) | exact step_n (.inr (.inl (by omega)))))), hS220.ext⟩
       ·skip
        rw [decide_eq_false hb184] at hA183
        refine c_false hA183 rfl ?_
        refine c_exit ?_
        refine then_exit ?_
        refine then_exit ?_
        refine blk_hit ?_
        refine then_n ?_
        refine m2 ?_
        refine s2 hA183 (op_alloc hS181 rfl ze_3 (cs := [(Value.int .i64 0)]) rfl) ?_
        rintro a328 _ w330 ⟨b331, rfl, hS332⟩ hA329; clear hA183 hS181 a182
        refine s7 hA329 (op_store hS332 rfl ty_3 (hA329.ev rfl) (evc _ _) (i := 0) rfl (vs := [(Value.int .i64 (-1))]) rfl rfl rfl (Nat.le_of_ble_eq_true rfl)) ?_
        intro _ w333 hS334 hA335; clear hA329
        have hS336 : Sep NoB w w333 [(blk b331 3 [(Value.int .i64 (-1))]), (blk b9 106 [(Value.int .i64 t.frm), (Value.int .i64 t.dst), vr, vb, (Value.int .i64 t.err)]), (blk b4 37 [(Value.int .i64 sc), vt, vm]), (sl vr 2 t.rows.length (pairs t.rows)), (sl vb 1 t.brk.length (ints t.brk))] := hS334; clear hS334 hS332
        refine n4 ?_
        refine s1 hA335 (op_field rfl fd_106_3 (hA335.ev rfl)) fun a337 hA338 => ?_; clear hA335 a328
        refine s1 hA338 (op_load1 rfl ty_44 (hA338.ev rfl) (hS336.bk 1 rfl) rfl) fun a339 hA340 => ?_; clear hA338 a337
        refine s1 hA340 (op_makeFunc rfl ev0 (ev2 (hA340.ev rfl) (hA340.ev rfl))) fun a341 hA342 => ?_; clear hA340 a339
        refine s2 hA342 (op_call rfl en_69 (ev2 (hA342.ev rfl) (hA342.ev rfl)) (allB_int t.brk (lastU t) b331 _ 96 #[] #[(bptr b331 0), (bptr b9 0)] (brkB t) _ (hS336.lend (i := 0) rfl rfl (L' := [(sl vb 1 t.brk.length (ints t.brk))]) (js := [4]) ⟨rfl, by decide, hS336.sk 4 rfl, ⟨_, rfl, fun _ hz => hz⟩, trivial⟩) hbl ⟨en_96, fun i hi hz W hW hb => lastclo_ok _ _ t vr vb _ _ W ((hS336.updB (i := 0) rfl hW hb).lend (i := 0) rfl rfl (L' := [rob b9 106 [.int .i64 t.frm, .int .i64 t.dst, vr, vb, .int .i64 t.err], (sl vr 2 t.rows.length (pairs t.rows)), (sl vb 1 t.brk.length (ints t.brk))]) (js := [1, 3, 4]) ⟨rfl, by decide, (hS336.updB (i := 0) rfl hW hb).bk 1 rfl, ⟨_, rfl, fun _ hz => hz⟩, rfl, by decide, (hS336.updB (i := 0) rfl hW hb).sk 3 rfl, ⟨_, rfl, fun _ hz => hz⟩, rfl, by decide, (hS336.updB (i := 0) rfl hW hb).sk 4 rfl, ⟨_, rfl, fun _ hz => hz⟩, trivial⟩) (by have := last_bd (t := t) i hz; omega) hrl⟩)) ?_
        rintro a343 _ w345 ⟨rfl, hE346, lx349, hM347⟩ hA344; have hS348 := hS336.updB (i := 0) rfl hE346 hM347; clear hE346 hM347 hA342 hS336 a341
        refine s1 hA344 (op_assign rfl (hA344.ev rfl)) fun a350 hA351 => ?_; clear hA344 a343
        refine n1 ?_
        refine c_ret ?_
        refine fin_run hA351 (.inl rfl) (run_results1 hA351 rfl (.tmp rfl)) ?_
        exact ⟨congrArg Value.bool (Eq.symm (tab_rest (by assumption) (by assumption) (by assumption) (by assumption) (by omega) (by assumption) (fun i hi => hst i (by omega)))), hS348.ext⟩
      ·skip
       rw [hb152] at hA151
       refine c_true hA151 rfl ?_
       refine c_seq ?_
       have hA352 := hA151.as [] rfl; clear hA151
       refine c_region ?_
       refine s1 hA352 (op_assign rfl (evc _ _)) fun a353 hA354 => ?_; clear hA352 a150
       refine n1 ?_
       refine c_ret ?_
       refine then_ret ?_
       refine fin_run hA354 (.inl rfl) (run_results1 hA354 rfl (.tmp rfl)) ?_
       exact ⟨congrArg Value.bool (Eq.symm (by first | exact tab_rows (by assumption) | exact tab_head (by first | exact .inl (by assumption) | exact .inr (.inl (by assumption)) | exact .inr (.inr (.inl (by assumption))) | exact .inr (.inr (.inr (.inl (by assumption)))) | exact .inr (.inr (.inr (.inr (by omega))))))), hS147.ext⟩
    ·skip
     rw [hb112] at hA111
     refine s3 hA111 fun a355 hA356 => ?_; clear hA111 a110
     refine s3 hA356 fun a357 hA358 => ?_; clear hA356 a355
     refine s3 hA358 fun a359 hA360 => ?_; clear hA358 a357
     refine s3 hA360 fun a361 hA362 => ?_; clear hA360 a359
     refine s1 hA362 (op_pick_t rfl (hA362.ev rfl) (evc _ _)) fun a363 hA364 => ?_; clear hA362 a361
     refine s1 hA364 (op_move rfl (hA364.ev rfl)) fun a365 hA366 => ?_; clear hA364 a363
     refine s3 hA366 fun a367 hA368 => ?_; clear hA366 a365
     refine s3 hA368 fun a369 hA370 => ?_; clear hA368 a367
     refine s3 hA370 fun a371 hA372 => ?_; clear hA370 a369
     refine s3 hA372 fun a373 hA374 => ?_; clear hA372 a371
     refine s1 hA374 (op_pick_t rfl (hA374.ev rfl) (evc _ _)) fun a375 hA376 => ?_; clear hA374 a373
     refine n1 ?_
     refine c_true hA376 rfl ?_
     refine c_seq ?_
     have hA377 := hA376.as [] rfl; clear hA376
     refine c_region ?_
     refine s1 hA377 (op_assign rfl (evc _ _)) fun a378 hA379 => ?_; clear hA377 a375
     refine n1 ?_
     refine c_ret ?_
     refine then_ret ?_
     refine fin_run hA379 (.inl rfl) (run_results1 hA379 rfl (.tmp rfl)) ?_
     exact ⟨congrArg Value.bool (Eq.symm (by first | exact tab_rows (by assumption) | exact tab_head (by first | exact .inl (by assumption) | exact .inr (.inl (by assumption)) | exact .inr (.inr (.inl (by assumption))) | exact .inr (.inr (.inr (.inl (by assumption)))) | exact .inr (.inr (.inr (.inr (by omega))))))), hS39.ext⟩
  ·skip
   rw [hb46] at hA45
   refine s3 hA45 fun a380 hA381 => ?_; clear hA45 a44
   refine s3 hA381 fun a382 hA383 => ?_; clear hA381 a380
   refine s3 hA383 fun a384 hA385 => ?_; clear hA383 a382
   refine s3 hA385 fun a386 hA387 => ?_; clear hA385 a384
   refine s3 hA387 fun a388 hA389 => ?_; clear hA387 a386
   refine s1 hA389 (op_pick_t rfl (hA389.ev rfl) (evc _ _)) fun a390 hA391 => ?_; clear hA389 a388
   refine s1 hA391 (op_move rfl (hA391.ev rfl)) fun a392 hA393 => ?_; clear hA391 a390
   refine s3 hA393 fun a394 hA395 => ?_; clear hA393 a392
   refine s3 hA395 fun a396 hA397 => ?_; clear hA395 a394
   refine s3 hA397 fun a398 hA399 => ?_; clear hA397 a396
   refine s3 hA399 fun a400 hA401 => ?_; clear hA399 a398
   refine s1 hA401 (op_pick_t rfl (hA401.ev rfl) (evc _ _)) fun a402 hA403 => ?_; clear hA401 a400
   refine s1 hA403 (op_move rfl (hA403.ev rfl)) fun a404 hA405 => ?_; clear hA403 a402
   refine s3 hA405 fun a406 hA407 => ?_; clear hA405 a404
   refine s3 hA407 fun a408 hA409 => ?_; clear hA407 a406
   refine s3 hA409 fun a410 hA411 => ?_; clear hA409 a408
   refine s3 hA411 fun a412 hA413 => ?_; clear hA411 a410
   refine s1 hA413 (op_pick_t rfl (hA413.ev rfl) (evc _ _)) fun a414 hA415 => ?_; clear hA413 a412
   refine s1 hA415 (op_move rfl (hA415.ev rfl)) fun a416 hA417 => ?_; clear hA415 a414
   refine s3 hA417 fun a418 hA419 => ?_; clear hA417 a416
   refine s3 hA419 fun a420 hA421 => ?_; clear hA419 a418
   refine s3 hA421 fun a422 hA423 => ?_; clear hA421 a420
   refine s3 hA423 fun a424 hA425 => ?_; clear hA423 a422
   refine s1 hA425 (op_pick_t rfl (hA425.ev rfl) (evc _ _)) fun a426 hA427 => ?_; clear hA425 a424
   refine n1 ?_
   refine c_true hA427 rfl ?_
   refine c_seq ?_
   have hA428 := hA427.as [] rfl; clear hA427
   refine c_region ?_
   refine s1 hA428 (op_assign rfl (evc _ _)) fun a429 hA430 => ?_; clear hA428 a426
   refine n1 ?_
   refine c_ret ?_
   refine then_ret ?_
   refine fin_run hA430 (.inl rfl) (run_results1 hA430 rfl (.tmp rfl)) ?_
   exact ⟨congrArg Value.bool (Eq.symm (by first | exact tab_rows (by assumption) | exact tab_head (by first | exact .inl (by assumption) | exact .inr (.inl (by assumption)) | exact .inr (.inr (.inl (by assumption))) | exact .inr (.inr (.inr (.inl (by assumption)))) | exact .inr (.inr (.inr (.inr (by omega))))))), hS39.ext⟩
 ·skip
  rw [hb28] at hA27
  refine s3 hA27 fun a431 hA432 => ?_; clear hA27 a26
  refine s3 hA432 fun a433 hA434 => ?_; clear hA432 a431
  refine s3 hA434 fun a435 hA436 => ?_; clear hA434 a433
  refine s3 hA436 fun a437 hA438 => ?_; clear hA436 a435
  refine s3 hA438 fun a439 hA440 => ?_; clear hA438 a437
  refine s1 hA440 (op_pick_t rfl (hA440.ev rfl) (evc _ _)) fun a441 hA442 => ?_; clear hA440 a439
  refine s1 hA442 (op_move rfl (hA442.ev rfl)) fun a443 hA444 => ?_; clear hA442 a441
  refine s3 hA444 fun a445 hA446 => ?_; clear hA444 a443
  refine s3 hA446 fun a447 hA448 => ?_; clear hA446 a445
  refine s3 hA448 fun a449 hA450 => ?_; clear hA448 a447
  refine s3 hA450 fun a451 hA452 => ?_; clear hA450 a449
  refine s3 hA452 fun a453 hA454 => ?_; clear hA452 a451
  refine s1 hA454 (op_pick_t rfl (hA454.ev rfl) (evc _ _)) fun a455 hA456 => ?_; clear hA454 a453
  refine s1 hA456 (op_move rfl (hA456.ev rfl)) fun a457 hA458 => ?_; clear hA456 a455
  refine s3 hA458 fun a459 hA460 => ?_; clear hA458 a457
  refine s3 hA460 fun a461 hA462 => ?_; clear hA460 a459
  refine s3 hA462 fun a463 hA464 => ?_; clear hA462 a461
  refine s3 hA464 fun a465 hA466 => ?_; clear hA464 a463
  refine s1 hA466 (op_pick_t rfl (hA466.ev rfl) (evc _ _)) fun a467 hA468 => ?_; clear hA466 a465
  refine s1 hA468 (op_move rfl (hA468.ev rfl)) fun a469 hA470 => ?_; clear hA468 a467
  refine s3 hA470 fun a471 hA472 => ?_; clear hA470 a469
  refine s3 hA472 fun a473 hA474 => ?_; clear hA472 a471
  refine s3 hA474 fun a475 hA476 => ?_; clear hA474 a473
  refine s3 hA476 fun a477 hA478 => ?_; clear hA476 a475
  refine s1 hA478 (op_pick_t rfl (hA478.ev rfl) (evc _ _)) fun a479 hA480 => ?_; clear hA478 a477
  refine s1 hA480 (op_move rfl (hA480.ev rfl)) fun a481 hA482 => ?_; clear hA480 a479
  refine s3 hA482 fun a483 hA484 => ?_; clear hA482 a481
  refine s3 hA484 fun a485 hA486 => ?_; clear hA484 a483
  refine s3 hA486 fun a487 hA488 => ?_; clear hA486 a485
  refine s3 hA488 fun a489 hA490 => ?_; clear hA488 a487
  refine s1 hA490 (op_pick_t rfl (hA490.ev rfl) (evc _ _)) fun a491 hA492 => ?_; clear hA490 a489
  refine n1 ?_
  refine c_true hA492 rfl ?_
  refine c_seq ?_
  have hA493 := hA492.as [] rfl; clear hA492
  refine c_region ?_
  refine s1 hA493 (op_assign rfl (evc _ _)) fun a494 hA495 => ?_; clear hA493 a491
  refine n1 ?_
  refine c_ret ?_
  refine then_ret ?_
  refine fin_run hA495 (.inl rfl) (run_results1 hA495 rfl (.tmp rfl)) ?_
  exact ⟨congrArg Value.bool (Eq.symm (by first | exact tab_rows (by assumption) | exact tab_head (by first | exact .inl (by assumption) | exact .inr (.inl (by assumption)) | exact .inr (.inr (.inl (by assumption))) | exact .inr (.inr (.inr (.inl (by assumption)))) | exact .inr (.inr (.inr (.inr (by omega))))))), hS23.ext⟩
end Go.Proofs.Ytohgladndklciaa

namespace Go.Hard
structure ThinB (b : BookD) : Prop where
  tl : b.tabs.length ≤ 9
  ml : b.macs.length ≤ 9
  tab : ∀ i, (b.tabs.getD i tab0).rows.length ≤ 12 ∧ (b.tabs.getD i tab0).brk.length ≤ 12
  mac : ∀ i, (b.macs.getD i mac0).blocks.length ≤ 8
def thinF (b : BookD) (n : Nat) : Bool := decide (b.tabs.length ≤ 9) && decide (b.macs.length ≤ 9) && decide (n ≤ 12) && allI b.tabs.length (fun i => decide ((b.tabs.getD i tab0).rows.length ≤ 12) && decide ((b.tabs.getD i tab0).brk.length ≤ 12)) && allI b.macs.length (fun i => decide ((b.macs.getD i mac0).blocks.length ≤ 8))
theorem getD_out {α : Type} {l : List α} {d : α} {i : Nat} (h : l.length ≤ i) : l.getD i d = d := by simp [List.getD, List.getElem?_eq_none h]
theorem thin_iff {b : BookD} {n : Nat} : thinF b n = true ↔ ThinB b ∧ n ≤ 12 := by
  unfold thinF
  simp only [Bool.and_eq_true, decide_eq_true_eq, allI_iff]
  constructor
  · rintro ⟨⟨⟨⟨h1, h2⟩, h3⟩, h4⟩, h5⟩
    refine ⟨⟨h1, h2, fun i => ?_, fun i => ?_⟩, h3⟩
    · rcases Nat.lt_or_ge i b.tabs.length with h | h
      · exact h4 i h
      · rw [getD_out h]; exact ⟨Nat.zero_le _, Nat.zero_le _⟩
    · rcases Nat.lt_or_ge i b.macs.length with h | h
      · exact h5 i h
      · rw [getD_out h]; exact Nat.zero_le _
  · rintro ⟨h, h3⟩
    exact ⟨⟨⟨⟨h.tl, h.ml⟩, h3⟩, fun i _ => h.tab i⟩, fun i _ => h.mac i⟩
section
variable {b : BookD} {n : Nat} {k : Nat}
theorem ThinB.rl (h : ThinB b) (i : Nat) : (b.tabs.getD i tab0).rows.length ≤ 1000000 := by have := (h.tab i).1; omega
theorem ThinB.bl (h : ThinB b) (i : Nat) : (b.tabs.getD i tab0).brk.length ≤ 1000000 := by have := (h.tab i).2; omega
theorem ThinB.kl (h : ThinB b) (i : Nat) : (b.macs.getD i mac0).blocks.length ≤ 1000000 := by have := h.mac i; omega
theorem thin_not (h : ¬ (ThinB b ∧ n ≤ 12)) : thinF b n = false := by
  cases hb : thinF b n with
  | false => rfl
  | true => exact absurd (thin_iff.1 hb) h
theorem thin_n1 (h : 9 < b.tabs.length ∨ 9 < b.macs.length ∨ 12 < n) : thinF b n = false := thin_not fun g => by have := g.1.tl; have := g.1.ml; omega
theorem thin_n2 (h : 12 < (b.tabs.getD k tab0).rows.length ∨ 12 < (b.tabs.getD k tab0).brk.length) : thinF b n = false := thin_not fun g => by have := g.1.tab k; omega
theorem thin_n3 (h : 8 < (b.macs.getD k mac0).blocks.length) : thinF b n = false := thin_not fun g => by have := g.1.mac k; omega
theorem thin_y (h1 : b.tabs.length ≤ 9) (h2 : b.macs.length ≤ 9) (h3 : n ≤ 12) (h4 : ∀ i, i < b.tabs.length → (b.tabs.getD i tab0).rows.length ≤ 12 ∧ (b.tabs.getD i tab0).brk.length ≤ 12) (h5 : ∀ i, i < b.macs.length → (b.macs.getD i mac0).blocks.length ≤ 8) : thinF b n = true := by
  unfold thinF
  simp only [Bool.and_eq_true, decide_eq_true_eq, allI_iff]
  exact ⟨⟨⟨⟨h1, h2⟩, h3⟩, h4⟩, h5⟩
structure ShortB (b : BookD) : Prop where
  tl : b.tabs.length ≤ 6
  ml : b.macs.length ≤ 6
  tab : ∀ i, i < b.tabs.length → (b.tabs.getD i tab0).rows.length ≤ 8
  mac : ∀ i, i < b.macs.length → (b.macs.getD i mac0).blocks.length ≤ 5
theorem check_long (h : ¬ ShortB b) : checkF b = 3 := by
  unfold checkF
  split
  · rfl
  · rename_i h1
    split
    · rfl
    · rename_i h2
      split
      · rfl
      · rename_i h3
        rw [Bool.not_eq_false, allI_iff] at h2 h3
        exact absurd ⟨by omega, by omega, fun i hi => of_decide_eq_true (h2 i hi), fun i hi => of_decide_eq_true (h3 i hi)⟩ h
theorem check_short (h : ShortB b) : checkF b = if inB b.scales 1 4 = false ∨ allI b.tabs.length (fun i => tabB b.scales (b.tabs.getD i tab0)) = false ∨ allI b.macs.length (fun i => macB b.scales (b.macs.getD i mac0)) = false then 1 else 0 := by
  unfold checkF
  have a := h.tl; have c := h.ml
  rw [if_neg (by omega), if_neg (by rw [Bool.not_eq_false, allI_iff]; exact fun i hi => decide_eq_true (h.tab i hi)), if_neg (by rw [Bool.not_eq_false, allI_iff]; exact fun i hi => decide_eq_true (h.mac i hi))]
theorem check_3a (h : 6 < b.tabs.length ∨ 6 < b.macs.length) : checkF b = 3 := check_long fun g => by have := g.tl; have := g.ml; omega
theorem check_3b (hk : k < b.tabs.length) (h : 8 < (b.tabs.getD k tab0).rows.length) : checkF b = 3 := check_long fun g => by have := g.tab k hk; omega
theorem check_3c (hk : k < b.macs.length) (h : 5 < (b.macs.getD k mac0).blocks.length) : checkF b = 3 := check_long fun g => by have := g.mac k hk; omega
theorem check_1a (g : ShortB b) (h : inB b.scales 1 4 = false) : checkF b = 1 := by rw [check_short g, if_pos (.inl h)]
theorem check_1b (g : ShortB b) (hk : k < b.tabs.length) (h : tabB b.scales (b.tabs.getD k tab0) = false) : checkF b = 1 := by rw [check_short g, if_pos (.inr (.inl (allI_no hk h)))]
theorem check_1c (g : ShortB b) (hk : k < b.macs.length) (h : macB b.scales (b.macs.getD k mac0) = false) : checkF b = 1 := by rw [check_short g, if_pos (.inr (.inr (allI_no hk h)))]
theorem check_0 (g : ShortB b) (h1 : inB b.scales 1 4 = true) (h2 : ∀ i, i < b.tabs.length → tabB b.scales (b.tabs.getD i tab0) = true) (h3 : ∀ i, i < b.macs.length → macB b.scales (b.macs.getD i mac0) = true) : checkF b = 0 := by
  rw [check_short g, if_neg]
  rw [h1, allI_iff.2 h2, allI_iff.2 h3]; decide
theorem check_3b' (h : (List.range b.tabs.length).all (fun i => decide (((b.tabs.getD i tab0).rows.length : Int) ≤ 8)) = false) : checkF b = 3 := by
  refine check_long fun g => ?_
  have : (List.range b.tabs.length).all (fun i => decide (((b.tabs.getD i tab0).rows.length : Int) ≤ 8)) = true := List.all_eq_true.2 fun i hi => decide_eq_true (by have := g.tab i (List.mem_range.1 hi); omega)
  rw [this] at h; cases h
theorem check_3c' (h : (List.range b.macs.length).all (fun i => decide (((b.macs.getD i mac0).blocks.length : Int) ≤ 5)) = false) : checkF b = 3 := by
  refine check_long fun g => ?_
  have : (List.range b.macs.length).all (fun i => decide (((b.macs.getD i mac0).blocks.length : Int) ≤ 5)) = true := List.all_eq_true.2 fun i hi => decide_eq_true (by have := g.mac i (List.mem_range.1 hi); omega)
  rw [this] at h; cases h
theorem short_of (h1 : ¬ 6 < b.tabs.length) (h2 : ¬ 6 < b.macs.length) (h3 : (List.range b.tabs.length).all (fun i => decide (((b.tabs.getD i tab0).rows.length : Int) ≤ 8)) = true) (h4 : (List.range b.macs.length).all (fun i => decide (((b.macs.getD i mac0).blocks.length : Int) ≤ 5)) = true) : ShortB b :=
  ⟨by omega, by omega, fun i hi => by have := of_decide_eq_true (List.all_eq_true.1 h3 i (List.mem_range.2 hi)); omega, fun i hi => by have := of_decide_eq_true (List.all_eq_true.1 h4 i (List.mem_range.2 hi)); omega⟩
theorem check_1b' (g : ShortB b) (h : (List.range b.tabs.length).all (fun i => tabB b.scales (b.tabs.getD i tab0)) = false) : checkF b = 1 := by rw [check_short g, if_pos (.inr (.inl h))]
theorem check_1c' (g : ShortB b) (h : (List.range b.macs.length).all (fun i => macB b.scales (b.macs.getD i mac0)) = false) : checkF b = 1 := by rw [check_short g, if_pos (.inr (.inr h))]
theorem check_0' (g : ShortB b) (h1 : inB b.scales 1 4 = true) (h2 : (List.range b.tabs.length).all (fun i => tabB b.scales (b.tabs.getD i tab0)) = true) (h3 : (List.range b.macs.length).all (fun i => macB b.scales (b.macs.getD i mac0)) = true) : checkF b = 0 :=
  check_0 g h1 (allI_iff.1 h2) (allI_iff.1 h3)
theorem mac_n1 {m : MacD} {n : Int} (h : inB m.scale 0 (n - 1) = false) : macB n m = false := by unfold macB; rw [h]; rfl
theorem mac_n2 {m : MacD} {n : Int} {k : Nat} (hk : k < m.blocks.length) (h : blkB (m.blocks.getD k (0, 0, 0)) = false) : macB n m = false := by unfold macB; rw [allI_no hk h, Bool.and_false]
theorem mac_y {m : MacD} {n : Int} (h1 : inB m.scale 0 (n - 1) = true) (h : ∀ k, k < m.blocks.length → blkB (m.blocks.getD k (0, 0, 0)) = true) : macB n m = true := by unfold macB; rw [h1, allI_iff.2 h]; rfl
theorem blk_n {x : Int × Int × Int} (h : spanB (x.1, x.2.1) = false ∨ inB x.2.2 0 100000 = false) : blkB x = false := by unfold blkB; rcases h with h | h <;> rw [h] <;> simp
theorem blk_y {x : Int × Int × Int} (h1 : spanB (x.1, x.2.1) = true) (h2 : inB x.2.2 0 100000 = true) : blkB x = true := by unfold blkB; rw [h1, h2]; rfl
end
end Go.Hard

namespace Go.Proofs.Ytohgladndklciaa
open Go.RowKit Go.Shelf Go.Eng Go.Hard
theorem fd_25_1 : fldK Try.prog 25 1 = some 1 := by kernel_rfl
theorem ty_22 : tyK Try.prog 22 = some (false, 1) := by kernel_rfl
theorem un_22 : Try.prog.underlying 22 = some (.slice 46) := by kernel_rfl
theorem fd_25_2 : fldK Try.prog 25 2 = some 2 := by kernel_rfl
theorem ty_23 : tyK Try.prog 23 = some (false, 1) := by kernel_rfl
theorem un_23 : Try.prog.underlying 23 = some (.slice 61) := by kernel_rfl
theorem un_49 : Try.prog.underlying 49 = some (.slice 67) := by kernel_rfl
theorem fd_25_0 : fldK Try.prog 25 0 = some 0 := by kernel_rfl
theorem en_51 : ∀ args w, (callFunc 51 args).run Try.prog w = .ok (.enter 51 args) w := enters_of Try.func51 (by kernel_rfl) rfl
theorem ze_61 : (Try.prog.info? 61).bind (·.zero) = some (Value.agg #[(Value.int .i64 0), (Value.slice none 0 0)]) := by kernel_rfl
theorem fd_61_0 : fldK Try.prog 61 0 = some 0 := by kernel_rfl
theorem en_52 : ∀ args w, (callFunc 52 args).run Try.prog w = .ok (.enter 52 args) w := enters_of Try.func52 (by kernel_rfl) rfl
theorem fd_37_1 : fldK Try.prog 37 1 = some 1 := by kernel_rfl
theorem ty_34 : tyK Try.prog 34 = some (false, 1) := by kernel_rfl
theorem fd_37_2 : fldK Try.prog 37 2 = some 2 := by kernel_rfl
theorem ty_35 : tyK Try.prog 35 = some (false, 1) := by kernel_rfl
theorem en_62 : ∀ args w, (callFunc 62 args).run Try.prog w = .ok (.enter 62 args) w := enters_of Try.func62 (by kernel_rfl) rfl
theorem en_61 : ∀ args w, (callFunc 61 args).run Try.prog w = .ok (.enter 61 args) w := enters_of Try.func61 (by kernel_rfl) rfl
theorem en_64 : ∀ args w, (callFunc 64 args).run Try.prog w = .ok (.enter 64 args) w := enters_of Try.func64 (by kernel_rfl) rfl
theorem en_63 : ∀ args w, (callFunc 63 args).run Try.prog w = .ok (.enter 63 args) w := enters_of Try.func63 (by kernel_rfl) rfl
theorem en_65 : ∀ args w, (callFunc 65 args).run Try.prog w = .ok (.enter 65 args) w := enters_of Try.func65 (by kernel_rfl) rfl
theorem en_66 : ∀ args w, (callFunc 66 args).run Try.prog w = .ok (.enter 66 args) w := enters_of Try.func66 (by kernel_rfl) rfl
theorem thin_ok (b : BookD) (vt vm : Value) (lr lb lk : Nat → Value) (w : World) (hT : TabsAt w vt lr lb b.tabs) (hM : MacsAt w vm lk b.macs) (l : List (Int × Int)) (xl : Value) (hxl : SlAt w xl 2 l.length (pairs l)) :
  Calls Try.prog 16 #[(Value.agg #[(Value.int .i64 b.scales), vt, vm]), xl] w (Ret fun v w' => v = .bool (thinF b l.length) ∧ Ext NoB w w') := by
 refine calls_enter Try.func16 rfl fun a0 hA0 => ?_
 replace hA0 : Fr 62 [] [(0, (Value.agg #[(Value.int .i64 b.scales), vt, vm])), (1, xl)] a0 := hA0
 have hS0 : Sep NoB w w [(tabsR false vt lr lb b.tabs), (macsR false vm lk b.macs), (sl xl 2 l.length (pairs l))] := sep_ro ⟨rfl, hT, rfl, hM, rfl, hxl, trivial⟩
 refine m2 ?_
 refine s2 hA0 (op_box hS0 rfl (hA0.ev rfl) (cs := [(Value.int .i64 b.scales), vt, vm]) rfl) ?_
 rintro a1 _ w3 ⟨b4, rfl, hS5⟩ hA2; clear hA0 hS0 a0
 refine s1 hA2 (op_assign rfl (evc _ _)) fun a6 hA7 => ?_; clear hA2 a1
 refine n2 ?_
 refine m2 ?_
 refine s1 hA7 (op_field rfl fd_25_1 (hA7.ev rfl)) fun a8 hA9 => ?_; clear hA7 a6
 refine s1 hA9 (op_load1 rfl ty_22 (hA9.ev rfl) (hS5.bk 0 rfl) rfl) fun a10 hA11 => ?_; clear hA9 a8
 refine s1 hA11 (op_lenS rfl un_22 (hA11.ev rfl) (tabs_at (hS5.ok 1 _ rfl)).tabs) fun a12 hA13 => ?_; clear hA11 a10
 refine s1 hA13 (op_gtr rfl (hA13.ev rfl) (evc _ _)) fun a14 hA15 => ?_; clear hA13 a12
 refine s1 hA15 (op_move rfl (hA15.ev rfl)) fun a16 hA17 => ?_; clear hA15 a14
 by_cases hb18 : 9 < (b.tabs.length : Int)
 ·skip
  rw [decide_eq_true hb18] at hA17
  refine s3 hA17 fun a19 hA20 => ?_; clear hA17 a16
  refine s3 hA20 fun a21 hA22 => ?_; clear hA20 a19
  refine s3 hA22 fun a23 hA24 => ?_; clear hA22 a21
  refine s3 hA24 fun a25 hA26 => ?_; clear hA24 a23
  refine s1 hA26 (op_pick_t rfl (hA26.ev rfl) (evc _ _)) fun a27 hA28 => ?_; clear hA26 a25
  refine s1 hA28 (op_move rfl (hA28.ev rfl)) fun a29 hA30 => ?_; clear hA28 a27
  refine s3 hA30 fun a31 hA32 => ?_; clear hA30 a29
  refine s3 hA32 fun a33 hA34 => ?_; clear hA32 a31
  refine s3 hA34 fun a35 hA36 => ?_; clear hA34 a33
  refine s1 hA36 (op_pick_t rfl (hA36.ev rfl) (evc _ _)) fun a37 hA38 => ?_; clear hA36 a35
  refine n1 ?_
  refine c_true hA38 rfl ?_
  refine c_seq ?_
  have hA39 := hA38.as [] rfl; clear hA38
  refine c_region ?_
  refine s1 hA39 (op_assign rfl (evc _ _)) fun a40 hA41 => ?_; clear hA39 a37
  refine n1 ?_
  refine c_ret ?_
  refine then_ret ?_
  refine fin_run hA41 (.inl rfl) (run_results1 hA41 rfl (.tmp rfl)) ?_
  exact ⟨congrArg Value.bool (Eq.symm (by first | exact thin_n1 (by omega) | exact thin_n2 (k := k) (by omega) | exact thin_n3 (k := k1) (by omega))), hS5.ext⟩
 ·skip
  rw [decide_eq_false hb18] at hA17
  refine s5 hA17 (op_field rfl fd_25_2 (hA17.ev rfl)) fun a42 hA43 => ?_; clear hA17 a16
  refine s5 hA43 (op_load1 rfl ty_23 (hA43.ev rfl) (hS5.bk 0 rfl) rfl) fun a44 hA45 => ?_; clear hA43 a42
  refine s5 hA45 (op_lenS rfl un_23 (hA45.ev rfl) (macs_at (hS5.ok 2 _ rfl)).macs) fun a46 hA47 => ?_; clear hA45 a44
  refine s5 hA47 (op_gtr rfl (hA47.ev rfl) (evc _ _)) fun a48 hA49 => ?_; clear hA47 a46
  refine s1 hA49 (op_pick_f rfl (hA49.ev rfl) (hA49.ev rfl)) fun a50 hA51 => ?_; clear hA49 a48
  refine s1 hA51 (op_move rfl (hA51.ev rfl)) fun a52 hA53 => ?_; clear hA51 a50
  by_cases hb54 : 9 < (b.macs.length : Int)
  ·skip
   rw [decide_eq_true hb54] at hA53
   refine s3 hA53 fun a55 hA56 => ?_; clear hA53 a52
   refine s3 hA56 fun a57 hA58 => ?_; clear hA56 a55
   refine s3 hA58 fun a59 hA60 => ?_; clear hA58 a57
   refine s1 hA60 (op_pick_t rfl (hA60.ev rfl) (evc _ _)) fun a61 hA62 => ?_; clear hA60 a59
   refine n1 ?_
   refine c_true hA62 rfl ?_
   refine c_seq ?_
   have hA63 := hA62.as [] rfl; clear hA62
   refine c_region ?_
   refine s1 hA63 (op_assign rfl (evc _ _)) fun a64 hA65 => ?_; clear hA63 a61
   refine n1 ?_
   refine c_ret ?_
   refine then_ret ?_
   refine fin_run hA65 (.inl rfl) (run_results1 hA65 rfl (.tmp rfl)) ?_
   exact ⟨congrArg Value.bool (Eq.symm (by first | exact thin_n1 (by omega) | exact thin_n2 (k := k) (by omega) | exact thin_n3 (k := k1) (by omega))), hS5.ext⟩
  ·skip
   rw [decide_eq_false hb54] at hA53
   refine s5 hA53 (op_move rfl (hA53.ev rfl)) fun a66 hA67 => ?_; clear hA53 a52
   refine s5 hA67 (op_lenS rfl un_49 (hA67.ev rfl) (hS5.sk 3 rfl)) fun a68 hA69 => ?_; clear hA67 a66
   refine s5 hA69 (op_gtr rfl (hA69.ev rfl) (evc _ _)) fun a70 hA71 => ?_; clear hA69 a68
   refine s1 hA71 (op_pick_f rfl (hA71.ev rfl) (hA71.ev rfl)) fun a72 hA73 => ?_; clear hA71 a70
   refine n1 ?_
   by_cases hb74 : 12 < (l.length : Int)
   ·skip
    rw [decide_eq_true hb74] at hA73
    refine c_true hA73 rfl ?_
    refine c_seq ?_
    have hA75 := hA73.as [] rfl; clear hA73
    refine c_region ?_
    refine s1 hA75 (op_assign rfl (evc _ _)) fun a76 hA77 => ?_; clear hA75 a72
    refine n1 ?_
    refine c_ret ?_
    refine then_ret ?_
    refine fin_run hA77 (.inl rfl) (run_results1 hA77 rfl (.tmp rfl)) ?_
    exact ⟨congrArg Value.bool (Eq.symm (by first | exact thin_n1 (by omega) | exact thin_n2 (k := k) (by omega) | exact thin_n3 (k := k1) (by omega))), hS5.ext⟩
   ·skip
    rw [decide_eq_false hb74] at hA73
    refine c_false hA73 rfl ?_
    refine c_skip ?_
    refine then_n ?_
    refine c_seq ?_
    refine c_seq ?_
    have hA78 := hA73.as [(2, (bptr b4 0))] rfl; clear hA73
    refine c_region ?_
    refine s1 hA78 (op_assign rfl (evc _ _)) fun a79 hA80 => ?_; clear hA78 a72
    refine n1 ?_
    refine c_block ?_
    have hA81 := hA80.as [(5, (Value.int .i64 0)), (2, (bptr b4 0))] rfl; clear hA80
    refine c_loop (G := Nat) (fun (k : Nat) a_ w_ => Fr 62 [] [(5, (Value.int .i64 (k : Int))), (2, (bptr b4 0))] a_ ∧ Sep NoB w w_ [(blk b4 25 [(Value.int .i64 b.scales), vt, vm]), (tabsR false vt lr lb b.tabs), (macsR false vm lk b.macs), (sl xl 2 l.length (pairs l))] ∧ (k ≤ b.tabs.length) ∧ (∀ i, i < k → (b.tabs.getD i tab0).rows.length ≤ 12 ∧ (b.tabs.getD i tab0).brk.length ≤ 12)) (fun k => b.tabs.length - k) 0 ⟨hA81.as _ rfl, hS5, by omega, (fun _ h => absurd h (Nat.not_lt_zero _))⟩ ?_
    clear hA81 hS5 a79
    rintro k a82 w84 ⟨hA83, hS85, hkk, hq1⟩
    refine c_seq ?_
    refine m2 ?_
    refine s1 hA83 (op_move rfl (hA83.ev rfl)) fun a86 hA87 => ?_; clear hA83 a82
    refine s1 hA87 (op_field rfl fd_25_1 (hA87.ev rfl)) fun a88 hA89 => ?_; clear hA87 a86
    refine s1 hA89 (op_load1 rfl ty_22 (hA89.ev rfl) (hS85.bk 0 rfl) rfl) fun a90 hA91 => ?_; clear hA89 a88
    refine s1 hA91 (op_lenS rfl un_22 (hA91.ev rfl) (tabs_at (hS85.ok 1 _ rfl)).tabs) fun a92 hA93 => ?_; clear hA91 a90
    refine s1 hA93 (op_lss rfl (hA93.ev rfl) (hA93.ev rfl)) fun a94 hA95 => ?_; clear hA93 a92
    refine n1 ?_
    by_cases hb96 : (k : Int) < (b.tabs.length : Int)
    ·skip
     rw [decide_eq_true hb96] at hA95
     refine c_true hA95 rfl ?_
     refine c_skip ?_
     refine then_n ?_
     refine c_seq ?_
     refine c_block ?_
     refine m2 ?_
     refine s1 hA95 (op_field rfl fd_25_1 (hA95.ev rfl)) fun a97 hA98 => ?_; clear hA95 a94
     refine s1 hA98 (op_load1 rfl ty_22 (hA98.ev rfl) (hS85.bk 0 rfl) rfl) fun a99 hA100 => ?_; clear hA98 a97
     refine s1 hA100 (op_move rfl (hA100.ev rfl)) fun a101 hA102 => ?_; clear hA100 a99
     refine s1 hA102 (op_indexS rfl un_22 ty_46 (hA102.ev rfl) (i := k) (hA102.ev rfl) (tabs_at (hS85.ok 1 _ rfl)).tabs (by decide) (by omega)) fun a103 hA104 => ?_; clear hA102 a101
     refine s1 hA104 (op_fieldS rfl fd_46_2 (hA104.ev rfl) (tabs_at (hS85.ok 1 _ rfl)).tabs (by rw [((tabs_at (hS85.ok 1 _ rfl)).tabs).1]; omega)) fun a105 hA106 => ?_; clear hA104 a103
     refine s1 hA106 (op_load1E rfl ty_43 (hA106.ev rfl) (tabs_at (hS85.ok 1 _ rfl)).tabs (tabs_at2 (by omega))) fun a107 hA108 => ?_; clear hA106 a105
     refine s1 hA108 (op_lenS rfl un_43 (hA108.ev rfl) ((tabs_at (hS85.ok 1 _ rfl)).row (i := k) (by omega))) fun a109 hA110 => ?_; clear hA108 a107
     refine s1 hA110 (op_gtr rfl (hA110.ev rfl) (evc _ _)) fun a111 hA112 => ?_; clear hA110 a109
     refine s1 hA112 (op_move rfl (hA112.ev rfl)) fun a113 hA114 => ?_; clear hA112 a111
     by_cases hb115 : 12 < ((b.tabs.getD k tab0).rows.length : Int)
     ·skip
      rw [decide_eq_true hb115] at hA114
      refine s3 hA114 fun a116 hA117 => ?_; clear hA114 a113
      refine s3 hA117 fun a118 hA119 => ?_; clear hA117 a116
      refine s3 hA119 fun a120 hA121 => ?_; clear hA119 a118
      refine s3 hA121 fun a122 hA123 => ?_; clear hA121 a120
      refine s3 hA123 fun a124 hA125 => ?_; clear hA123 a122
      refine s3 hA125 fun a126 hA127 => ?_; clear hA125 a124
      refine s3 hA127 fun a128 hA129 => ?_; clear hA127 a126
      refine s3 hA129 fun a130 hA131 => ?_; clear hA129 a128
      refine s1 hA131 (op_pick_t rfl (hA131.ev rfl) (evc _ _)) fun a132 hA133 => ?_; clear hA131 a130
      refine n1 ?_
      refine c_true hA133 rfl ?_
      refine c_seq ?_
      have hA134 := hA133.as [] rfl; clear hA133
      refine c_region ?_
      refine s1 hA134 (op_assign rfl (evc _ _)) fun a135 hA136 => ?_; clear hA134 a132
      refine n1 ?_
      refine c_ret ?_
      refine blk_ret ?_
      refine then_ret ?_
      refine then_ret ?_
      refine blk_ret ?_
      refine then_ret ?_
      refine fin_run hA136 (.inl rfl) (run_results1 hA136 rfl (.tmp rfl)) ?_
      exact ⟨congrArg Value.bool (Eq.symm (by first | exact thin_n1 (by omega) | exact thin_n2 (k := k) (by omega) | exact thin_n3 (k := k1) (by omega))), hS85.ext⟩
     ·skip
      rw [decide_eq_false hb115] at hA114
      refine s5 hA114 (op_field rfl fd_25_1 (hA114.ev rfl)) fun a137 hA138 => ?_; clear hA114 a113
      refine s5 hA138 (op_load1 rfl ty_22 (hA138.ev rfl) (hS85.bk 0 rfl) rfl) fun a139 hA140 => ?_; clear hA138 a137
      refine s5 hA140 (op_move rfl (hA140.ev rfl)) fun a141 hA142 => ?_; clear hA140 a139
      refine s5 hA142 (op_indexS rfl un_22 ty_46 (hA142.ev rfl) (i := k) (hA142.ev rfl) (tabs_at (hS85.ok 1 _ rfl)).tabs (by decide) (by omega)) fun a143 hA144 => ?_; clear hA142 a141
      refine s5 hA144 (op_fieldS rfl fd_46_3 (hA144.ev rfl) (tabs_at (hS85.ok 1 _ rfl)).tabs (by rw [((tabs_at (hS85.ok 1 _ rfl)).tabs).1]; omega)) fun a145 hA146 => ?_; clear hA144 a143
      refine s5 hA146 (op_load1E rfl ty_44 (hA146.ev rfl) (tabs_at (hS85.ok 1 _ rfl)).tabs (tabs_at3 (by omega))) fun a147 hA148 => ?_; clear hA146 a145
      refine s5 hA148 (op_lenS rfl un_44 (hA148.ev rfl) ((tabs_at (hS85.ok 1 _ rfl)).brk (i := k) (by omega))) fun a149 hA150 => ?_; clear hA148 a147
      refine s5 hA150 (op_gtr rfl (hA150.ev rfl) (evc _ _)) fun a151 hA152 => ?_; clear hA150 a149
      refine s1 hA152 (op_pick_f rfl (hA152.ev rfl) (hA152.ev rfl)) fun a153 hA154 => ?_; clear hA152 a151
      refine n1 ?_
      by_cases hb155 : 12 < ((b.tabs.getD k tab0).brk.length : Int)
      ·skip
       rw [decide_eq_true hb155] at hA154
       refine c_true hA154 rfl ?_
       refine c_seq ?_
       have hA156 := hA154.as [] rfl; clear hA154
       refine c_region ?_
       refine s1 hA156 (op_assign rfl (evc _ _)) fun a157 hA158 => ?_; clear hA156 a153
       refine n1 ?_
       refine c_ret ?_
       refine blk_ret ?_
       refine then_ret ?_
       refine then_ret ?_
       refine blk_ret ?_
       refine then_ret ?_
       refine fin_run hA158 (.inl rfl) (run_results1 hA158 rfl (.tmp rfl)) ?_
       exact ⟨congrArg Value.bool (Eq.symm (by first | exact thin_n1 (by omega) | exact thin_n2 (k := k) (by omega) | exact thin_n3 (k := k1) (by omega))), hS85.ext⟩
      ·skip
       rw [decide_eq_false hb155] at hA154
       refine c_false hA154 rfl ?_
       refine c_skip ?_
       refine blk_n ?_
       refine then_n ?_
       have hA159 := hA154.as [(5, (Value.int .i64 (k : Int))), (2, (bptr b4 0))] rfl; clear hA154
       refine c_region ?_
       refine s1 hA159 (op_move rfl (hA159.ev rfl)) fun a160 hA161 => ?_; clear hA159 a153
       refine s1 hA161 (op_add rfl (hA161.ev rfl) (evc _ _) (by omega) (by omega)) fun a162 hA163 => ?_; clear hA161 a160
       refine s1 hA163 (op_assign rfl (hA163.ev rfl)) fun a164 hA165 => ?_; clear hA163 a162
       refine wl_nil ?_
       exact then_n ⟨k + 1, ⟨hA165.as _ rfl, hS85, by omega, (fun i hi => by rcases Nat.lt_succ_iff_lt_or_eq.1 hi with h | h; exact hq1 i h; subst h; omega)⟩, by omega⟩
    ·skip
     rw [decide_eq_false hb96] at hA95
     refine c_false hA95 rfl ?_
     refine c_exit ?_
     refine then_exit ?_
     refine then_exit ?_
     refine blk_hit ?_
     refine then_n ?_
     refine c_seq ?_
     refine c_seq ?_
     have hA166 := hA95.as [(2, (bptr b4 0))] rfl; clear hA95
     refine c_region ?_
     refine s1 hA166 (op_assign rfl (evc _ _)) fun a167 hA168 => ?_; clear hA166 a94
     refine n1 ?_
     refine c_block ?_
     have hA169 := hA168.as [(6, (Value.int .i64 0)), (2, (bptr b4 0))] rfl; clear hA168
     refine c_loop (G := Nat) (fun (k1 : Nat) a_ w_ => Fr 62 [] [(6, (Value.int .i64 (k1 : Int))), (2, (bptr b4 0))] a_ ∧ Sep NoB w w_ [(blk b4 25 [(Value.int .i64 b.scales), vt, vm]), (tabsR false vt lr lb b.tabs), (macsR false vm lk b.macs), (sl xl 2 l.length (pairs l))] ∧ (k1 ≤ b.macs.length) ∧ (∀ i, i < k1 → (b.macs.getD i mac0).blocks.length ≤ 8)) (fun k1 => b.macs.length - k1) 0 ⟨hA169.as _ rfl, hS85, by omega, (fun _ h => absurd h (Nat.not_lt_zero _))⟩ ?_
     clear hA169 hS85 a167
     rintro k1 a170 w172 ⟨hA171, hS173, hkk1, hq2⟩
     refine c_seq ?_
     refine m2 ?_
     refine s1 hA171 (op_move rfl (hA171.ev rfl)) fun a174 hA175 => ?_; clear hA171 a170
     refine s1 hA175 (op_field rfl fd_25_2 (hA175.ev rfl)) fun a176 hA177 => ?_; clear hA175 a174
     refine s1 hA177 (op_load1 rfl ty_23 (hA177.ev rfl) (hS173.bk 0 rfl) rfl) fun a178 hA179 => ?_; clear hA177 a176
     refine s1 hA179 (op_lenS rfl un_23 (hA179.ev rfl) (macs_at (hS173.ok 2 _ rfl)).macs) fun a180 hA181 => ?_; clear hA179 a178
     refine s1 hA181 (op_lss rfl (hA181.ev rfl) (hA181.ev rfl)) fun a182 hA183 => ?_; clear hA181 a180
     refine n1 ?_
     by_cases hb184 : (k1 : Int) < (b.macs.length : Int)
     ·skip
      rw [decide_eq_true hb184] at hA183
      refine c_true hA183 rfl ?_
      refine c_skip ?_
      refine then_n ?_
      refine c_seq ?_
      refine c_block ?_
      refine m2 ?_
      refine s1 hA183 (op_field rfl fd_25_2 (hA183.ev rfl)) fun a185 hA186 => ?_; clear hA183 a182
      refine s1 hA186 (op_load1 rfl ty_23 (hA186.ev rfl) (hS173.bk 0 rfl) rfl) fun a187 hA188 => ?_; clear hA186 a185
      refine s1 hA188 (op_move rfl (hA188.ev rfl)) fun a189 hA190 => ?_; clear hA188 a187
      refine s1 hA190 (op_indexS rfl un_23 ty_61 (hA190.ev rfl) (i := k1) (hA190.ev rfl) (macs_at (hS173.ok 2 _ rfl)).macs (by decide) (by omega)) fun a191 hA192 => ?_; clear hA190 a189
      refine s1 hA192 (op_fieldS rfl fd_61_1 (hA192.ev rfl) (macs_at (hS173.ok 2 _ rfl)).macs (by rw [((macs_at (hS173.ok 2 _ rfl)).macs).1]; omega)) fun a193 hA194 => ?_; clear hA192 a191
      refine s1 hA194 (op_load1E rfl ty_59 (hA194.ev rfl) (macs_at (hS173.ok 2 _ rfl)).macs (macs_at1 (by omega))) fun a195 hA196 => ?_; clear hA194 a193
      refine s1 hA196 (op_lenS rfl un_59 (hA196.ev rfl) ((macs_at (hS173.ok 2 _ rfl)).blk (i := k1) (by omega))) fun a197 hA198 => ?_; clear hA196 a195
      refine s1 hA198 (op_gtr rfl (hA198.ev rfl) (evc _ _)) fun a199 hA200 => ?_; clear hA198 a197
      refine n1 ?_
      by_cases hb201 : 8 < ((b.macs.getD k1 mac0).blocks.length : Int)
      ·skip
       rw [decide_eq_true hb201] at hA200
       refine c_true hA200 rfl ?_
       refine c_seq ?_
       have hA202 := hA200.as [] rfl; clear hA200
       refine c_region ?_
       refine s1 hA202 (op_assign rfl (evc _ _)) fun a203 hA204 => ?_; clear hA202 a199
       refine n1 ?_
       refine c_ret ?_
       refine blk_ret ?_
       refine then_ret ?_
       refine then_ret ?_
       refine blk_ret ?_
       refine then_ret ?_
       refine fin_run hA204 (.inl rfl) (run_results1 hA204 rfl (.tmp rfl)) ?_
       exact ⟨congrArg Value.bool (Eq.symm (by first | exact thin_n1 (by omega) | exact thin_n2 (k := k) (by omega) | exact thin_n3 (k := k1) (by omega))), hS173.ext⟩
      ·skip
       rw [decide_eq_false hb201] at hA200
       refine c_false hA200 rfl ?_
       refine c_skip ?_
       refine blk_n ?_
       refine then_n ?_
       have hA205 := hA200.as [(6, (Value.int .i64 (k1 : Int))), (2, (bptr b4 0))] rfl; clear hA200
       refine c_region ?_
       refine s1 hA205 (op_move rfl (hA205.ev rfl)) fun a206 hA207 => ?_; clear hA205 a199
       refine s1 hA207 (op_add rfl (hA207.ev rfl) (evc _ _) (by omega) (by omega)) fun a208 hA209 => ?_; clear hA207 a206
       refine s1 hA209 (op_assign rfl (hA209.ev rfl)) fun a210 hA211 => ?_; clear hA209 a208
       refine wl_nil ?_
       exact then_n ⟨k1 + 1, ⟨hA211.as _ rfl, hS173, by omega, (fun i hi => by rcases Nat.lt_succ_iff_lt_or_eq.1 hi with h | h; exact hq2 i h; subst h; omega)⟩, by omega⟩
     ·skip
      rw [decide_eq_false hb184] at hA183
      refine c_false hA183 rfl ?_
      refine c_exit ?_
      refine then_exit ?_
      refine then_exit ?_
      refine blk_hit ?_
      refine then_n ?_
      refine c_seq ?_
      have hA212 := hA183.as [] rfl; clear hA183
      refine c_region ?_
      refine s1 hA212 (op_assign rfl (evc _ _)) fun a213 hA214 => ?_; clear hA212 a182
      refine n1 ?_
      refine c_ret ?_
      refine fin_run hA214 (.inl rfl) (run_results1 hA214 rfl (.tmp rfl)) ?_
      exact ⟨congrArg Value.bool (Eq.symm (thin_y (by omega) (by omega) (by omega) (fun i hi => hq1 i (by omega)) (fun i hi => hq2 i (by omega)))), hS173.ext⟩
set_option maxHeartbeats 4000000 in
theorem rfault_ok (b : BookD) (vt vm : Value) (lr lb lk : Nat → Value) (w : World) (hT : TabsAt w vt lr lb b.tabs) (hM : MacsAt w vm lk b.macs) (hth : ThinB b) :
  Calls Try.prog 21 #[(Value.agg #[(Value.int .i64 b.scales), vt, vm])] w (Ret fun v w' => v = .int .i64 (checkF b) ∧ Ext NoB w w') := by
 refine calls_enter Try.func21 rfl fun a0 hA0 => ?_
 replace hA0 : Fr 113 [] [(0, (Value.agg #[(Value.int .i64 b.scales), vt, vm]))] a0 := hA0
 have htl := hth.tl; have hml := hth.ml
 have hS0 : Sep NoB w w [(tabsR false vt lr lb b.tabs), (macsR false vm lk b.macs)] := sep_ro ⟨rfl, hT, rfl, hM, trivial⟩
 refine m2 ?_
 refine s2 hA0 (op_box hS0 rfl (hA0.ev rfl) (cs := [(Value.int .i64 b.scales), vt, vm]) rfl) ?_
 rintro a1 _ w3 ⟨b4, rfl, hS5⟩ hA2; clear hA0 hS0 a0
 refine s1 hA2 (op_assign rfl (evc _ _)) fun a6 hA7 => ?_; clear hA2 a1
 refine n2 ?_
 refine m2 ?_
 refine s1 hA7 (op_field rfl fd_25_1 (hA7.ev rfl)) fun a8 hA9 => ?_; clear hA7 a6
 refine s1 hA9 (op_load1 rfl ty_22 (hA9.ev rfl) (hS5.bk 0 rfl) rfl) fun a10 hA11 => ?_; clear hA9 a8
 refine s1 hA11 (op_lenS rfl un_22 (hA11.ev rfl) (tabs_at (hS5.ok 1 _ rfl)).tabs) fun a12 hA13 => ?_; clear hA11 a10
 refine s1 hA13 (op_gtr rfl (hA13.ev rfl) (evc _ _)) fun a14 hA15 => ?_; clear hA13 a12
 refine s1 hA15 (op_move rfl (hA15.ev rfl)) fun a16 hA17 => ?_; clear hA15 a14
 by_cases hb18 : 6 < (b.tabs.length : Int)
 ·skip
  rw [decide_eq_true hb18] at hA17
  refine s3 hA17 fun a19 hA20 => ?_; clear hA17 a16
  refine s3 hA20 fun a21 hA22 => ?_; clear hA20 a19
  refine s3 hA22 fun a23 hA24 => ?_; clear hA22 a21
  refine s3 hA24 fun a25 hA26 => ?_; clear hA24 a23
  refine s1 hA26 (op_pick_t rfl (hA26.ev rfl) (evc _ _)) fun a27 hA28 => ?_; clear hA26 a25
  refine n1 ?_
  refine c_true hA28 rfl ?_
  refine c_seq ?_
  have hA29 := hA28.as [] rfl; clear hA28
  refine c_region ?_
  refine s1 hA29 (op_assign rfl (evc _ _)) fun a30 hA31 => ?_; clear hA29 a27
  refine n1 ?_
  refine c_ret ?_
  refine then_ret ?_
  refine fin_run hA31 (.inl rfl) (run_results1 hA31 rfl (.tmp rfl)) ?_
  exact ⟨ret_int (Eq.symm (by first | exact check_3a (by omega) | exact check_3b (k := k) (by omega) (by omega) | exact check_3c (k := k1) (by omega) (by omega) | exact check_1a (⟨by omega, by omega, fun i hi => hq1 i (by omega), fun i hi => hq2 i (by omega)⟩ : ShortB b) (by assumption) | exact check_1b (k := k2) (⟨by omega, by omega, fun i hi => hq1 i (by omega), fun i hi => hq2 i (by omega)⟩ : ShortB b) (by omega) (by assumption) | exact check_1c (k := k3) (⟨by omega, by omega, fun i hi => hq1 i (by omega), fun i hi => hq2 i (by omega)⟩ : ShortB b) (by omega) (mac_n1 (by assumption)) | exact check_1c (k := k3) (⟨by omega, by omega, fun i hi => hq1 i (by omega), fun i hi => hq2 i (by omega)⟩ : ShortB b) (by omega) (mac_n2 (k := k4) (by omega) (blk_n (by first | exact .inl (by assumption) | exact .inr (by assumption)))) | exact check_0 (⟨by omega, by omega, fun i hi => hq1 i (by omega), fun i hi => hq2 i (by omega)⟩ : ShortB b) (by assumption) (fun i hi => hq3 i (by omega)) (fun i hi => hq4 i (by omega)))), hS5.ext⟩
 ·skip
  rw [decide_eq_false hb18] at hA17
  refine s5 hA17 (op_field rfl fd_25_2 (hA17.ev rfl)) fun a32 hA33 => ?_; clear hA17 a16
  refine s5 hA33 (op_load1 rfl ty_23 (hA33.ev rfl) (hS5.bk 0 rfl) rfl) fun a34 hA35 => ?_; clear hA33 a32
  refine s5 hA35 (op_lenS rfl un_23 (hA35.ev rfl) (macs_at (hS5.ok 2 _ rfl)).macs) fun a36 hA37 => ?_; clear hA35 a34
  refine s5 hA37 (op_gtr rfl (hA37.ev rfl) (evc _ _)) fun a38 hA39 => ?_; clear hA37 a36
  refine s1 hA39 (op_pick_f rfl (hA39.ev rfl) (hA39.ev rfl)) fun a40 hA41 => ?_; clear hA39 a38
  refine n1 ?_
  by_cases hb42 : 6 < (b.macs.length : Int)
  ·skip
   rw [decide_eq_true hb42] at hA41
   refine c_true hA41 rfl ?_
   refine c_seq ?_
   have hA43 := hA41.as [] rfl; clear hA41
   refine c_region ?_
   refine s1 hA43 (op_assign rfl (evc _ _)) fun a44 hA45 => ?_; clear hA43 a40
   refine n1 ?_
   refine c_ret ?_
   refine then_ret ?_
   refine fin_run hA45 (.inl rfl) (run_results1 hA45 rfl (.tmp rfl)) ?_
   exact ⟨ret_int (Eq.symm (by first | exact check_3a (by omega) | exact check_3b (k := k) (by omega) (by omega) | exact check_3c (k := k1) (by omega) (by omega) | exact check_1a (⟨by omega, by omega, fun i hi => hq1 i (by omega), fun i hi => hq2 i (by omega)⟩ : ShortB b) (by assumption) | exact check_1b (k := k2) (⟨by omega, by omega, fun i hi => hq1 i (by omega), fun i hi => hq2 i (by omega)⟩ : ShortB b) (by omega) (by assumption) | exact check_1c (k := k3) (⟨by omega, by omega, fun i hi => hq1 i (by omega), fun i hi => hq2 i (by omega)⟩ : ShortB b) (by omega) (mac_n1 (by assumption)) | exact check_1c (k := k3) (⟨by omega, by omega, fun i hi => hq1 i (by omega), fun i hi => hq2 i (by omega)⟩ : ShortB b) (by omega) (mac_n2 (k := k4) (by omega) (blk_n (by first | exact .inl (by assumption) | exact .inr (by assumption)))) | exact check_0 (⟨by omega, by omega, fun i hi => hq1 i (by omega), fun i hi => hq2 i (by omega)⟩ : ShortB b) (by assumption) (fun i hi => hq3 i (by omega)) (fun i hi => hq4 i (by omega)))), hS5.ext⟩
  ·skip
   rw [decide_eq_false hb42] at hA41
   refine c_false hA41 rfl ?_
   refine c_skip ?_
   refine then_n ?_
   refine c_seq ?_
   refine c_seq ?_
   have hA46 := hA41.as [(1, (bptr b4 0))] rfl; clear hA41
   refine c_region ?_
   refine s1 hA46 (op_assign rfl (evc _ _)) fun a47 hA48 => ?_; clear hA46 a40
   refine n1 ?_
   refine c_block ?_
   have hA49 := hA48.as [(3, (Value.int .i64 0)), (1, (bptr b4 0))] rfl; clear hA48
   refine c_loop (G := Nat) (fun (k : Nat) a_ w_ => Fr 113 [] [(3, (Value.int .i64 (k : Int))), (1, (bptr b4 0))] a_ ∧ Sep NoB w w_ [(blk b4 25 [(Value.int .i64 b.scales), vt, vm]), (tabsR false vt lr lb b.tabs), (macsR false vm lk b.macs)] ∧ (k ≤ b.tabs.length) ∧ (∀ i, i < k → (b.tabs.getD i tab0).rows.length ≤ 8)) (fun k => b.tabs.length - k) 0 ⟨hA49.as _ rfl, hS5, by omega, (fun _ h => absurd h (Nat.not_lt_zero _))⟩ ?_
   clear hA49 hS5 a47
   rintro k a50 w52 ⟨hA51, hS53, hkk, hq1⟩
   refine c_seq ?_
   refine m2 ?_
   refine s1 hA51 (op_move rfl (hA51.ev rfl)) fun a54 hA55 => ?_; clear hA51 a50
   refine s1 hA55 (op_field rfl fd_25_1 (hA55.ev rfl)) fun a56 hA57 => ?_; clear hA55 a54
   refine s1 hA57 (op_load1 rfl ty_22 (hA57.ev rfl) (hS53.bk 0 rfl) rfl) fun a58 hA59 => ?_; clear hA57 a56
   refine s1 hA59 (op_lenS rfl un_22 (hA59.ev rfl) (tabs_at (hS53.ok 1 _ rfl)).tabs) fun a60 hA61 => ?_; clear hA59 a58
   refine s1 hA61 (op_lss rfl (hA61.ev rfl) (hA61.ev rfl)) fun a62 hA63 => ?_; clear hA61 a60
   refine n1 ?_
   by_cases hb64 : (k : Int) < (b.tabs.length : Int)
   ·skip
    rw [decide_eq_true hb64] at hA63
    refine c_true hA63 rfl ?_
    refine c_skip ?_
    refine then_n ?_
    refine c_seq ?_
    refine c_block ?_
    refine m2 ?_
    refine s1 hA63 (op_field rfl fd_25_1 (hA63.ev rfl)) fun a65 hA66 => ?_; clear hA63 a62
    refine s1 hA66 (op_load1 rfl ty_22 (hA66.ev rfl) (hS53.bk 0 rfl) rfl) fun a67 hA68 => ?_; clear hA66 a65
    refine s1 hA68 (op_move rfl (hA68.ev rfl)) fun a69 hA70 => ?_; clear hA68 a67
    refine s1 hA70 (op_indexS rfl un_22 ty_46 (hA70.ev rfl) (i := k) (hA70.ev rfl) (tabs_at (hS53.ok 1 _ rfl)).tabs (by decide) (by omega)) fun a71 hA72 => ?_; clear hA70 a69
    refine s1 hA72 (op_fieldS rfl fd_46_2 (hA72.ev rfl) (tabs_at (hS53.ok 1 _ rfl)).tabs (by rw [((tabs_at (hS53.ok 1 _ rfl)).tabs).1]; omega)) fun a73 hA74 => ?_; clear hA72 a71
    refine s1 hA74 (op_load1E rfl ty_43 (hA74.ev rfl) (tabs_at (hS53.ok 1 _ rfl)).tabs (tabs_at2 (by omega))) fun a75 hA76 => ?_; clear hA74 a73
    refine s1 hA76 (op_lenS rfl un_43 (hA76.ev rfl) ((tabs_at (hS53.ok 1 _ rfl)).row (i := k) (by omega))) fun a77 hA78 => ?_; clear hA76 a75
    refine s1 hA78 (op_gtr rfl (hA78.ev rfl) (evc _ _)) fun a79 hA80 => ?_; clear hA78 a77
    refine n1 ?_
    by_cases hb81 : 8 < ((b.tabs.getD k tab0).rows.length : Int)
    ·skip
     rw [decide_eq_true hb81] at hA80
     refine c_true hA80 rfl ?_
     refine c_seq ?_
     have hA82 := hA80.as [] rfl; clear hA80
     refine c_region ?_
     refine s1 hA82 (op_assign rfl (evc _ _)) fun a83 hA84 => ?_; clear hA82 a79
     refine n1 ?_
     refine c_ret ?_
     refine blk_ret ?_
     refine then_ret ?_
     refine then_ret ?_
     refine blk_ret ?_
     refine then_ret ?_
     refine fin_run hA84 (.inl rfl) (run_results1 hA84 rfl (.tmp rfl)) ?_
     exact ⟨ret_int (Eq.symm (by first | exact check_3a (by omega) | exact check_3b (k := k) (by omega) (by omega) | exact check_3c (k := k1) (by omega) (by omega) | exact check_1a (⟨by omega, by omega, fun i hi => hq1 i (by omega), fun i hi => hq2 i (by omega)⟩ : ShortB b) (by assumption) | exact check_1b (k := k2) (⟨by omega, by omega, fun i hi => hq1 i (by omega), fun i hi => hq2 i (by omega)⟩ : ShortB b) (by omega) (by assumption) | exact check_1c (k := k3) (⟨by omega, by omega, fun i hi => hq1 i (by omega), fun i hi => hq2 i (by omega)⟩ : ShortB b) (by omega) (mac_n1 (by assumption)) | exact check_1c (k := k3) (⟨by omega, by omega, fun i hi => hq1 i (by omega), fun i hi => hq2 i (by omega)⟩ : ShortB b) (by omega) (mac_n2 (k := k4) (by omega) (blk_n (by first | exact .inl (by assumption) | exact .inr (by assumption)))) | exact check_0 (⟨by omega, by omega, fun i hi => hq1 i (by omega), fun i hi => hq2 i (by omega)⟩ : ShortB b) (by assumption) (fun i hi => hq3 i (by omega)) (fun i hi => hq4 i (by omega)))), hS53.ext⟩
    ·skip
     rw [decide_eq_false hb81] at hA80
     refine c_false hA80 rfl ?_
     refine c_skip ?_
     refine blk_n ?_
     refine then_n ?_
     have hA85 := hA80.as [(3, (Value.int .i64 (k : Int))), (1, (bptr b4 0))] rfl; clear hA80
     refine c_region ?_
     refine s1 hA85 (op_move rfl (hA85.ev rfl)) fun a86 hA87 => ?_; clear hA85 a79
     refine s1 hA87 (op_add rfl (hA87.ev rfl) (evc _ _) (by omega) (by omega)) fun a88 hA89 => ?_; clear hA87 a86
     refine s1 hA89 (op_assign rfl (hA89.ev rfl)) fun a90 hA91 => ?_; clear hA89 a88
     refine wl_nil ?_
     exact then_n ⟨k + 1, ⟨hA91.as _ rfl, hS53, by omega, (fun i hi => by rcases Nat.lt_succ_iff_lt_or_eq.1 hi with h | h; exact hq1 i h; subst h; omega)⟩, by omega⟩
   ·skip
    rw [decide_eq_false hb64] at hA63
    refine c_false hA63 rfl ?_
    refine c_exit ?_
    refine then_exit ?_
    refine then_exit ?_
    refine blk_hit ?_
    refine then_n ?_
    refine c_seq ?_
    refine c_seq ?_
    have hA92 := hA63.as [(1, (bptr b4 0))] rfl; clear hA63
    refine c_region ?_
    refine s1 hA92 (op_assign rfl (evc _ _)) fun a93 hA94 => ?_; clear hA92 a62
    refine n1 ?_
    refine c_block ?_
    have hA95 := hA94.as [(4, (Value.int .i64 0)), (1, (bptr b4 0))] rfl; clear hA94
    refine c_loop (G := Nat) (fun (k1 : Nat) a_ w_ => Fr 113 [] [(4, (Value.int .i64 (k1 : Int))), (1, (bptr b4 0))] a_ ∧ Sep NoB w w_ [(blk b4 25 [(Value.int .i64 b.scales), vt, vm]), (tabsR false vt lr lb b.tabs), (macsR false vm lk b.macs)] ∧ (k1 ≤ b.macs.length) ∧ (∀ i, i < k1 → (b.macs.getD i mac0).blocks.length ≤ 5)) (fun k1 => b.macs.length - k1) 0 ⟨hA95.as _ rfl, hS53, by omega, (fun _ h => absurd h (Nat.not_lt_zero _))⟩ ?_
    clear hA95 hS53 a93
    rintro k1 a96 w98 ⟨hA97, hS99, hkk1, hq2⟩
    refine c_seq ?_
    refine m2 ?_
    refine s1 hA97 (op_move rfl (hA97.ev rfl)) fun a100 hA101 => ?_; clear hA97 a96
    refine s1 hA101 (op_field rfl fd_25_2 (hA101.ev rfl)) fun a102 hA103 => ?_; clear hA101 a100
    refine s1 hA103 (op_load1 rfl ty_23 (hA103.ev rfl) (hS99.bk 0 rfl) rfl) fun a104 hA105 => ?_; clear hA103 a102
    refine s1 hA105 (op_lenS rfl un_23 (hA105.ev rfl) (macs_at (hS99.ok 2 _ rfl)).macs) fun a106 hA107 => ?_; clear hA105 a104
    refine s1 hA107 (op_lss rfl (hA107.ev rfl) (hA107.ev rfl)) fun a108 hA109 => ?_; clear hA107 a106
    refine n1 ?_
    by_cases hb110 : (k1 : Int) < (b.macs.length : Int)
    ·skip
     rw [decide_eq_true hb110] at hA109
     refine c_true hA109 rfl ?_
     refine c_skip ?_
     refine then_n ?_
     refine c_seq ?_
     refine c_block ?_
     refine m2 ?_
     refine s1 hA109 (op_field rfl fd_25_2 (hA109.ev rfl)) fun a111 hA112 => ?_; clear hA109 a108
     refine s1 hA112 (op_load1 rfl ty_23 (hA112.ev rfl) (hS99.bk 0 rfl) rfl) fun a113 hA114 => ?_; clear hA112 a111
     refine s1 hA114 (op_move rfl (hA114.ev rfl)) fun a115 hA116 => ?_; clear hA114 a113
     refine s1 hA116 (op_indexS rfl un_23 ty_61 (hA116.ev rfl) (i := k1) (hA116.ev rfl) (macs_at (hS99.ok 2 _ rfl)).macs (by decide) (by omega)) fun a117 hA118 => ?_; clear hA116 a115
     refine s1 hA118 (op_fieldS rfl fd_61_1 (hA118.ev rfl) (macs_at (hS99.ok 2 _ rfl)).macs (by rw [((macs_at (hS99.ok 2 _ rfl)).macs).1]; omega)) fun a119 hA120 => ?_; clear hA118 a117
     refine s1 hA120 (op_load1E rfl ty_59 (hA120.ev rfl) (macs_at (hS99.ok 2 _ rfl)).macs (macs_at1 (by omega))) fun a121 hA122 => ?_; clear hA120 a119
     refine s1 hA122 (op_lenS rfl un_59 (hA122.ev rfl) ((macs_at (hS99.ok 2 _ rfl)).blk (i := k1) (by omega))) fun a123 hA124 => ?_; clear hA122 a121
     refine s1 hA124 (op_gtr rfl (hA124.ev rfl) (evc _ _)) fun a125 hA126 => ?_; clear hA124 a123
     refine n1 ?_
     by_cases hb127 : 5 < ((b.macs.getD k1 mac0).blocks.length : Int)
     ·skip
      rw [decide_eq_true hb127] at hA126
      refine c_true hA126 rfl ?_
      refine c_seq ?_
      have hA128 := hA126.as [] rfl; clear hA126
      refine c_region ?_
      refine s1 hA128 (op_assign rfl (evc _ _)) fun a129 hA130 => ?_; clear hA128 a125
      refine n1 ?_
      refine c_ret ?_
      refine blk_ret ?_
      refine then_ret ?_
      refine then_ret ?_
      refine blk_ret ?_
      refine then_ret ?_
      refine fin_run hA130 (.inl rfl) (run_results1 hA130 rfl (.tmp rfl)) ?_
      exact ⟨ret_int (Eq.symm (by first | exact check_3a (by omega) | exact check_3b (k := k) (by omega) (by omega) | exact check_3c (k := k1) (by omega) (by omega) | exact check_1a (⟨by omega, by omega, fun i hi => hq1 i (by omega), fun i hi => hq2 i (by omega)⟩ : ShortB b) (by assumption) | exact check_1b (k := k2) (⟨by omega, by omega, fun i hi => hq1 i (by omega), fun i hi => hq2 i (by omega)⟩ : ShortB b) (by omega) (by assumption) | exact check_1c (k := k3) (⟨by omega, by omega, fun i hi => hq1 i (by omega), fun i hi => hq2 i (by omega)⟩ : ShortB b) (by omega) (mac_n1 (by assumption)) | exact check_1c (k := k3) (⟨by omega, by omega, fun i hi => hq1 i (by omega), fun i hi => hq2 i (by omega)⟩ : ShortB b) (by omega) (mac_n2 (k := k4) (by omega) (blk_n (by first | exact .inl (by assumption) | exact .inr (by assumption)))) | exact check_0 (⟨by omega, by omega, fun i hi => hq1 i (by omega), fun i hi => hq2 i (by omega)⟩ : ShortB b) (by assumption) (fun i hi => hq3 i (by omega)) (fun i hi => hq4 i (by omega)))), hS99.ext⟩
     ·skip
      rw [decide_eq_false hb127] at hA126
      refine c_false hA126 rfl ?_
      refine c_skip ?_
      refine blk_n ?_
      refine then_n ?_
      have hA131 := hA126.as [(4, (Value.int .i64 (k1 : Int))), (1, (bptr b4 0))] rfl; clear hA126
      refine c_region ?_
      refine s1 hA131 (op_move rfl (hA131.ev rfl)) fun a132 hA133 => ?_; clear hA131 a125
      refine s1 hA133 (op_add rfl (hA133.ev rfl) (evc _ _) (by omega) (by omega)) fun a134 hA135 => ?_; clear hA133 a132
      refine s1 hA135 (op_assign rfl (hA135.ev rfl)) fun a136 hA137 => ?_; clear hA135 a134
      refine wl_nil ?_
      exact then_n ⟨k1 + 1, ⟨hA137.as _ rfl, hS99, by omega, (fun i hi => by rcases Nat.lt_succ_iff_lt_or_eq.1 hi with h | h; exact hq2 i h; subst h; omega)⟩, by omega⟩
    ·skip
     rw [decide_eq_false hb110] at hA109
     refine c_false hA109 rfl ?_
     refine c_exit ?_
     refine then_exit ?_
     refine then_exit ?_
     refine blk_hit ?_
     refine then_n ?_
     refine c_seq ?_
     refine c_seq ?_
     have hA138 := hA109.as [(1, (bptr b4 0))] rfl; clear hA109
     refine c_region ?_
     refine s1 hA138 (op_field rfl fd_25_0 (hA138.ev rfl)) fun a139 hA140 => ?_; clear hA138 a108
     refine s1 hA140 (op_load1 rfl ty_3 (hA140.ev rfl) (hS99.bk 0 rfl) rfl) fun a141 hA142 => ?_; clear hA140 a139
     refine s2 hA142 (op_call rfl en_22 (ev3 (hA142.ev rfl) (evc _ _) (evc _ _)) (In_ok _ _ _ _)) ?_
     rintro a143 _ W_ ⟨rfl, hW_⟩ hA144; have hW2_ := hW_.symm; subst hW2_; clear hW_ hA142 a141
     refine s1 hA144 (op_not rfl (hA144.ev rfl)) fun a146 hA147 => ?_; clear hA144 a143
     refine n1 ?_
     rcases Bool.eq_false_or_eq_true ((inB b.scales 1 4)) with hb148 | hb148
     ·skip
      rw [hb148] at hA147
      refine c_false hA147 rfl ?_
      refine c_skip ?_
      refine then_n ?_
      refine c_seq ?_
      refine m2 ?_
      refine s1 hA147 (op_assign rfl (evc _ _)) fun a149 hA150 => ?_; clear hA147 a146
      refine n1 ?_
      refine c_block ?_
      have hA151 := hA150.as [(5, (Value.int .i64 0)), (1, (bptr b4 0))] rfl; clear hA150
      refine c_loop (G := Nat) (fun (k2 : Nat) a_ w_ => Fr 113 [] [(5, (Value.int .i64 (k2 : Int))), (1, (bptr b4 0))] a_ ∧ Sep NoB w w_ [(blk b4 25 [(Value.int .i64 b.scales), vt, vm]), (tabsR false vt lr lb b.tabs), (macsR false vm lk b.macs)] ∧ (k2 ≤ b.tabs.length) ∧ (∀ i, i < k2 → tabB b.scales (b.tabs.getD i tab0) = true)) (fun k2 => b.tabs.length - k2) 0 ⟨hA151.as _ rfl, hS99, by omega, (fun _ h => absurd h (Nat.not_lt_zero _))⟩ ?_
      clear hA151 hS99 a149
      rintro k2 a152 w154 ⟨hA153, hS155, hkk2, hq3⟩
      refine c_seq ?_
      refine m2 ?_
      refine s1 hA153 (op_move rfl (hA153.ev rfl)) fun a156 hA157 => ?_; clear hA153 a152
      refine s1 hA157 (op_field rfl fd_25_1 (hA157.ev rfl)) fun a158 hA159 => ?_; clear hA157 a156
      refine s1 hA159 (op_load1 rfl ty_22 (hA159.ev rfl) (hS155.bk 0 rfl) rfl) fun a160 hA161 => ?_; clear hA159 a158
      refine s1 hA161 (op_lenS rfl un_22 (hA161.ev rfl) (tabs_at (hS155.ok 1 _ rfl)).tabs) fun a162 hA163 => ?_; clear hA161 a160
      refine s1 hA163 (op_lss rfl (hA163.ev rfl) (hA163.ev rfl)) fun a164 hA165 => ?_; clear hA163 a162
      refine n1 ?_
      by_cases hb166 : (k2 : Int) < (b.tabs.length : Int)
      ·skip
       rw [decide_eq_true hb166] at hA165
       refine c_true hA165 rfl ?_
       refine c_skip ?_
       refine then_n ?_
       refine c_seq ?_
       refine c_block ?_
       refine c_seq ?_
       have hA167 := hA165.as [(5, (Value.int .i64 (k2 : Int))), (1, (bptr b4 0))] rfl; clear hA165
       refine c_drawn mixed hA167 hS155 7 [[], [0], [], [2], [], [3, 4], [5]] [(Yd.val (bptr b4 0)), (Yd.val (Value.int .i64 b.scales)), (Yd.val (bptr b4 1)), (Yd.val vt), (Yd.val (Value.int .i64 (k2 : Int))), (Yd.val (eptr vt (k2 * 5))), (Yd.val (Value.agg #[(Value.int .i64 ((b.tabs.getD k2 tab0).frm)), (Value.int .i64 ((b.tabs.getD k2 tab0).dst)), (lr k2), (lb k2), (Value.int .i64 ((b.tabs.getD k2 tab0).err))]))] (by decide +kernel) rfl rfl ?_ ?_
       ·skip
        refine dq (fun a w hA hS hd => op_field rfl fd_25_0 (hA.ev rfl)) ?_
        refine dq (fun a w hA hS hd => op_load1 rfl ty_3 (hq hd 0) (hS.bk 0 rfl) rfl) ?_
        refine dq (fun a w hA hS hd => op_field rfl fd_25_1 (hA.ev rfl)) ?_
        refine dq (fun a w hA hS hd => op_load1 rfl ty_22 (hq hd 2) (hS.bk 0 rfl) rfl) ?_
        refine dq (fun a w hA hS hd => op_move rfl (hA.ev rfl)) ?_
        refine dq (fun a w hA hS hd => op_indexS rfl un_22 ty_46 (hq hd 3) (i := k2) (hq hd 4) (tabs_at (hS.ok 1 _ rfl)).tabs (by decide) (by omega)) ?_
        refine dq (fun a w hA hS hd => op_loadAE rfl ty_46 (hq hd 5) (tabs_at (hS.ok 1 _ rfl)).tabs (tabs_all (by omega)) rfl (by decide)) ?_
        trivial
       intro a169 w170 hA171 hS172 hH173; clear hA167 hS155
       have hA174 := hA171.add (hz hH173 1); clear hA171
       have hA175 := hA174.add (hz hH173 6); clear hA174
       clear hH173
       refine s2 hA175 (op_call rfl en_51 (ev2 (hA175.ev rfl) (hA175.ev rfl)) (istable_ok b.scales (inB_iff.1 (by assumption)) (b.tabs.getD k2 tab0) _ _ _ ((tabs_at (hS172.ok 1 _ rfl)).row (i := k2) (by omega)) ((tabs_at (hS172.ok 1 _ rfl)).brk (i := k2) (by omega)) (hth.rl _) (hth.bl _))) ?_
       rintro a176 _ w178 ⟨rfl, hE179⟩ hA177; have hS180 := hS172.step hE179; clear hE179 hA175 hS172 a169
       refine s1 hA177 (op_not rfl (hA177.ev rfl)) fun a181 hA182 => ?_; clear hA177 a176
       refine n1 ?_
       rcases Bool.eq_false_or_eq_true ((tabB b.scales (b.tabs.getD k2 tab0))) with hb183 | hb183
       ·skip
        rw [hb183] at hA182
        refine c_false hA182 rfl ?_
        refine c_skip ?_
        refine blk_n ?_
        refine then_n ?_
        refine c_region ?_
        refine s1 hA182 (op_move rfl (hA182.ev rfl)) fun a184 hA185 => ?_; clear hA182 a181
        refine s1 hA185 (op_add rfl (hA185.ev rfl) (evc _ _) (by omega) (by omega)) fun a186 hA187 => ?_; clear hA185 a184
        refine s1 hA187 (op_assign rfl (hA187.ev rfl)) fun a188 hA189 => ?_; clear hA187 a186
        refine wl_nil ?_
        exact then_n ⟨k2 + 1, ⟨hA189.as _ rfl, hS180, by omega, (fun i hi => by rcases Nat.lt_succ_iff_lt_or_eq.1 hi with h | h; exact hq3 i h; subst h; assumption)⟩, by omega⟩
       ·skip
        rw [hb183] at hA182
        refine c_true hA182 rfl ?_
        refine c_seq ?_
        have hA190 := hA182.as [] rfl; clear hA182
        refine c_region ?_
        refine s1 hA190 (op_assign rfl (evc _ _)) fun a191 hA192 => ?_; clear hA190 a181
        refine n1 ?_
        refine c_ret ?_
        refine blk_ret ?_
        refine then_ret ?_
        refine then_ret ?_
        refine blk_ret ?_
        refine then_ret ?_
        refine fin_run hA192 (.inl rfl) (run_results1 hA192 rfl (.tmp rfl)) ?_
        exact ⟨ret_int (Eq.symm (by first | exact check_3a (by omega) | exact check_3b (k := k) (by omega) (by omega) | exact check_3c (k := k1) (by omega) (by omega) | exact check_1a (⟨by omega, by omega, fun i hi => hq1 i (by omega), fun i hi => hq2 i (by omega)⟩ : ShortB b) (by assumption) | exact check_1b (k := k2) (⟨by omega, by omega, fun i hi => hq1 i (by omega), fun i hi => hq2 i (by omega)⟩ : ShortB b) (by omega) (by assumption) | exact check_1c (k := k3) (⟨by omega, by omega, fun i hi => hq1 i (by omega), fun i hi => hq2 i (by omega)⟩ : ShortB b) (by omega) (mac_n1 (by assumption)) | exact check_1c (k := k3) (⟨by omega, by omega, fun i hi => hq1 i (by omega), fun i hi => hq2 i (by omega)⟩ : ShortB b) (by omega) (mac_n2 (k := k4) (by omega) (blk_n (by first | exact .inl (by assumption) | exact .inr (by assumption)))) | exact check_0 (⟨by omega, by omega, fun i hi => hq1 i (by omega), fun i hi => hq2 i (by omega)⟩ : ShortB b) (by assumption) (fun i hi => hq3 i (by omega)) (fun i hi => hq4 i (by omega)))), hS180.ext⟩
      ·skip
       rw [decide_eq_false hb166] at hA165
       refine c_false hA165 rfl ?_
       refine c_exit ?_
       refine then_exit ?_
       refine then_exit ?_
       refine blk_hit ?_
       refine then_n ?_
       refine c_seq ?_
       refine c_seq ?_
       have hA193 := hA165.as [(1, (bptr b4 0))] rfl; clear hA165
       refine c_region ?_
       refine s1 hA193 (op_assign rfl (evc _ _)) fun a194 hA195 => ?_; clear hA193 a164
       refine n1 ?_
       refine c_block ?_
       have hA196 := hA195.as [(6, (Value.int .i64 0)), (1, (bptr b4 0))] rfl; clear hA195
       refine c_loop (G := Nat) (fun (k3 : Nat) a_ w_ => Fr 113 [] [(6, (Value.int .i64 (k3 : Int))), (1, (bptr b4 0))] a_ ∧ Sep NoB w w_ [(blk b4 25 [(Value.int .i64 b.scales), vt, vm]), (tabsR false vt lr lb b.tabs), (macsR false vm lk b.macs)] ∧ (k3 ≤ b.macs.length) ∧ (∀ i, i < k3 → macB b.scales (b.macs.getD i mac0) = true)) (fun k3 => b.macs.length - k3) 0 ⟨hA196.as _ rfl, hS155, by omega, (fun _ h => absurd h (Nat.not_lt_zero _))⟩ ?_
       clear hA196 hS155 a194
       rintro k3 a197 w199 ⟨hA198, hS200, hkk3, hq4⟩
       have hkl3 := hth.kl k3; have hsc_ := inB_iff.1 (show inB b.scales 1 4 = true by assumption)
       refine c_seq ?_
       refine m2 ?_
       refine s1 hA198 (op_move rfl (hA198.ev rfl)) fun a201 hA202 => ?_; clear hA198 a197
       refine s1 hA202 (op_field rfl fd_25_2 (hA202.ev rfl)) fun a203 hA204 => ?_; clear hA202 a201
       refine s1 hA204 (op_load1 rfl ty_23 (hA204.ev rfl) (hS200.bk 0 rfl) rfl) fun a205 hA206 => ?_; clear hA204 a203
       refine s1 hA206 (op_lenS rfl un_23 (hA206.ev rfl) (macs_at (hS200.ok 2 _ rfl)).macs) fun a207 hA208 => ?_; clear hA206 a205
       refine s1 hA208 (op_lss rfl (hA208.ev rfl) (hA208.ev rfl)) fun a209 hA210 => ?_; clear hA208 a207
       refine n1 ?_
       by_cases hb211 : (k3 : Int) < (b.macs.length : Int)
       ·skip
        rw [decide_eq_true hb211] at hA210
        refine c_true hA210 rfl ?_
        refine c_skip ?_
        refine then_n ?_
        refine c_seq ?_
        refine c_block ?_
        refine m2 ?_
        refine s1 hA210 (op_field rfl fd_25_2 (hA210.ev rfl)) fun a212 hA213 => ?_; clear hA210 a209
        refine s1 hA213 (op_load1 rfl ty_23 (hA213.ev rfl) (hS200.bk 0 rfl) rfl) fun a214 hA215 => ?_; clear hA213 a212
        refine s1 hA215 (op_move rfl (hA215.ev rfl)) fun a216 hA217 => ?_; clear hA215 a214
        refine s1 hA217 (op_indexS rfl un_23 ty_61 (hA217.ev rfl) (i := k3) (hA217.ev rfl) (macs_at (hS200.ok 2 _ rfl)).macs (by decide) (by omega)) fun a218 hA219 => ?_; clear hA217 a216
        refine s1 hA219 (op_loadAE rfl ty_61 (hA219.ev rfl) (macs_at (hS200.ok 2 _ rfl)).macs (macs_all (by omega)) rfl (by decide)) fun a220 hA221 => ?_; clear hA219 a218
        refine s2 hA221 (op_alloc hS200 rfl ze_61 (cs := [(Value.int .i64 0), (Value.slice none 0 0)]) rfl) ?_
        rintro a222 _ w224 ⟨b225, rfl, hS226⟩ hA223; clear hA221 hS200 a220
        refine s7 hA223 (op_store hS226 rfl ty_61 (hA223.ev rfl) (hA223.ev rfl) (i := 0) rfl (vs := [(Value.int .i64 ((b.macs.getD k3 mac0).scale)), (lk k3)]) rfl rfl (all_c rfl (all_c (SlAt.one ((macs_at (hS226.ok 3 _ rfl)).blk (i := k3) (by omega))) all_n)) (Nat.le_of_ble_eq_true rfl)) ?_
        intro _ w227 hS228 hA229; clear hA223
        have hS230 : Sep NoB w w227 [(blk b225 61 [(Value.int .i64 ((b.macs.getD k3 mac0).scale)), (lk k3)]), (blk b4 25 [(Value.int .i64 b.scales), vt, vm]), (tabsR false vt lr lb b.tabs), (macsR false vm lk b.macs)] := hS228; clear hS228 hS226
        refine n2 ?_
        refine c_seq ?_
        have hA231 := hA229.as [(7, (bptr b225 0)), (6, (Value.int .i64 (k3 : Int))), (1, (bptr b4 0))] rfl; clear hA229
        refine c_region ?_
        refine s1 hA231 (op_field rfl fd_61_0 (hA231.ev rfl)) fun a232 hA233 => ?_; clear hA231 a222
        refine s1 hA233 (op_load1 rfl ty_3 (hA233.ev rfl) (hS230.bk 0 rfl) rfl) fun a234 hA235 => ?_; clear hA233 a232
        refine s1 hA235 (op_field rfl fd_25_0 (hA235.ev rfl)) fun a236 hA237 => ?_; clear hA235 a234
        refine s1 hA237 (op_load1 rfl ty_3 (hA237.ev rfl) (hS230.bk 1 rfl) rfl) fun a238 hA239 => ?_; clear hA237 a236
        refine s1 hA239 (op_sub rfl (hA239.ev rfl) (evc _ _) (by omega) (by omega)) fun a240 hA241 => ?_; clear hA239 a238
        refine s2 hA241 (op_call rfl en_22 (ev3 (hA241.ev rfl) (evc _ _) (hA241.ev rfl)) (In_ok _ _ _ _)) ?_
        rintro a242 _ W_ ⟨rfl, hW_⟩ hA243; have hW2_ := hW_.symm; subst hW2_; clear hW_ hA241 a240
        refine s1 hA243 (op_not rfl (hA243.ev rfl)) fun a245 hA246 => ?_; clear hA243 a242
        refine n1 ?_
        rcases Bool.eq_false_or_eq_true ((inB ((b.macs.getD k3 mac0).scale) 0 (b.scales - 1))) with hb247 | hb247
        ·skip
         rw [hb247] at hA246
         refine c_false hA246 rfl ?_
         refine c_skip ?_
         refine then_n ?_
         refine c_seq ?_
         have hA248 := hA246.as [(7, (bptr b225 0)), (6, (Value.int .i64 (k3 : Int))), (1, (bptr b4 0))] rfl; clear hA246
         refine c_region ?_
         refine s1 hA248 (op_assign rfl (evc _ _)) fun a249 hA250 => ?_; clear hA248 a245
         refine n1 ?_
         refine c_block ?_
         have hA251 := hA250.as [(8, (Value.int .i64 0)), (7, (bptr b225 0)), (6, (Value.int .i64 (k3 : Int))), (1, (bptr b4 0))] rfl; clear hA250
         refine c_loop (G := Nat) (fun (k4 : Nat) a_ w_ => Fr 113 [] [(8, (Value.int .i64 (k4 : Int))), (7, (bptr b225 0)), (6, (Value.int .i64 (k3 : Int))), (1, (bptr b4 0))] a_ ∧ Sep NoB w w_ [(blk b225 61 [(Value.int .i64 ((b.macs.getD k3 mac0).scale)), (lk k3)]), (blk b4 25 [(Value.int .i64 b.scales), vt, vm]), (tabsR false vt lr lb b.tabs), (macsR false vm lk b.macs)] ∧ (k4 ≤ (b.macs.getD k3 mac0).blocks.length) ∧ (∀ i, i < k4 → blkB ((b.macs.getD k3 mac0).blocks.getD i (0, 0, 0)) = true)) (fun k4 => (b.macs.getD k3 mac0).blocks.length - k4) 0 ⟨hA251.as _ rfl, hS230, by omega, (fun _ h => absurd h (Nat.not_lt_zero _))⟩ ?_
         clear hA251 hS230 a249
         rintro k4 a252 w254 ⟨hA253, hS255, hkk4, hq5⟩
         refine c_seq ?_
         refine m2 ?_
         refine s1 hA253 (op_move rfl (hA253.ev rfl)) fun a256 hA257 => ?_; clear hA253 a252
         refine s1 hA257 (op_field rfl fd_61_1 (hA257.ev rfl)) fun a258 hA259 => ?_; clear hA257 a256
         refine s1 hA259 (op_load1 rfl ty_59 (hA259.ev rfl) (hS255.bk 0 rfl) rfl) fun a260 hA261 => ?_; clear hA259 a258
         refine s1 hA261 (op_lenS rfl un_59 (hA261.ev rfl) ((macs_at (hS255.ok 3 _ rfl)).blk (i := k3) (by omega))) fun a262 hA263 => ?_; clear hA261 a260
         refine s1 hA263 (op_lss rfl (hA263.ev rfl) (hA263.ev rfl)) fun a264 hA265 => ?_; clear hA263 a262
         refine n1 ?_
         by_cases hb266 : (k4 : Int) < ((b.macs.getD k3 mac0).blocks.length : Int)
         ·skip
          rw [decide_eq_true hb266] at hA265
          refine c_true hA265 rfl ?_
          refine c_skip ?_
          refine then_n ?_
          refine c_seq ?_
          refine c_block ?_
          refine m2 ?_
          refine s1 hA265 (op_field rfl fd_61_1 (hA265.ev rfl)) fun a267 hA268 => ?_; clear hA265 a264
          refine s1 hA268 (op_load1 rfl ty_59 (hA268.ev rfl) (hS255.bk 0 rfl) rfl) fun a269 hA270 => ?_; clear hA268 a267
          refine s1 hA270 (op_move rfl (hA270.ev rfl)) fun a271 hA272 => ?_; clear hA270 a269
          refine s1 hA272 (op_indexS rfl un_59 ty_63 (hA272.ev rfl) (i := k4) (hA272.ev rfl) ((macs_at (hS255.ok 3 _ rfl)).blk (i := k3) (by omega)) (by decide) (by omega)) fun a273 hA274 => ?_; clear hA272 a271
          refine s1 hA274 (op_fieldS rfl fd_63_0 (hA274.ev rfl) ((macs_at (hS255.ok 3 _ rfl)).blk (i := k3) (by omega)) (by rw [(((macs_at (hS255.ok 3 _ rfl)).blk (i := k3) (by omega))).1]; omega)) fun a275 hA276 => ?_; clear hA274 a273
          refine s1 hA276 (op_loadAE rfl ty_27 (hA276.ev rfl) ((macs_at (hS255.ok 3 _ rfl)).blk (i := k3) (by omega)) (trips_sub0 (by omega)) rfl (by decide)) fun a277 hA278 => ?_; clear hA276 a275
          refine s2 hA278 (op_call rfl en_52 (ev1 (hA278.ev rfl)) (span_ok _ _ _)) ?_
          rintro a279 _ w281 ⟨rfl, hE282⟩ hA280; have hS283 := hS255.step hE282; clear hE282 hA278 hS255 a277
          refine s1 hA280 (op_not rfl (hA280.ev rfl)) fun a284 hA285 => ?_; clear hA280 a279
          refine s1 hA285 (op_move rfl (hA285.ev rfl)) fun a286 hA287 => ?_; clear hA285 a284
          rcases Bool.eq_false_or_eq_true ((spanB ((((b.macs.getD k3 mac0).blocks).getD k4 (0, 0, 0)).1, (((b.macs.getD k3 mac0).blocks).getD k4 (0, 0, 0)).2.1))) with hb288 | hb288
          ·skip
           rw [hb288] at hA287
           refine s5 hA287 (op_field rfl fd_61_1 (hA287.ev rfl)) fun a289 hA290 => ?_; clear hA287 a286
           refine s5 hA290 (op_load1 rfl ty_59 (hA290.ev rfl) (hS283.bk 0 rfl) rfl) fun a291 hA292 => ?_; clear hA290 a289
           refine s5 hA292 (op_move rfl (hA292.ev rfl)) fun a293 hA294 => ?_; clear hA292 a291
           refine s5 hA294 (op_indexS rfl un_59 ty_63 (hA294.ev rfl) (i := k4) (hA294.ev rfl) ((macs_at (hS283.ok 3 _ rfl)).blk (i := k3) (by omega)) (by decide) (by omega)) fun a295 hA296 => ?_; clear hA294 a293
           refine s5 hA296 (op_fieldS rfl fd_63_1 (hA296.ev rfl) ((macs_at (hS283.ok 3 _ rfl)).blk (i := k3) (by omega)) (by rw [(((macs_at (hS283.ok 3 _ rfl)).blk (i := k3) (by omega))).1]; omega)) fun a297 hA298 => ?_; clear hA296 a295
           refine s5 hA298 (op_load1E rfl ty_3 (hA298.ev rfl) ((macs_at (hS283.ok 3 _ rfl)).blk (i := k3) (by omega)) (trips_at2 (by omega))) fun a299 hA300 => ?_; clear hA298 a297
           refine s6 hA300 (op_call rfl en_53 (ev1 (hA300.ev rfl)) (rvalue_ok _ _)) ?_
           rintro a301 _ w303 ⟨rfl, hE304⟩ hA302; have hS305 := hS283.step hE304; clear hE304 hA300 hS283 a299
           refine s5 hA302 (op_not rfl (hA302.ev rfl)) fun a306 hA307 => ?_; clear hA302 a301
           refine s1 hA307 (op_pick_f rfl (hA307.ev rfl) (hA307.ev rfl)) fun a308 hA309 => ?_; clear hA307 a306
           refine n1 ?_
           rcases Bool.eq_false_or_eq_true ((inB ((((b.macs.getD k3 mac0).blocks).getD k4 (0, 0, 0)).2.2) 0 100000)) with hb310 | hb310
           ·skip
            rw [hb310] at hA309
            refine c_false hA309 rfl ?_
            refine c_skip ?_
            refine blk_n ?_
            refine then_n ?_
            have hA311 := hA309.as [(8, (Value.int .i64 (k4 : Int))), (7, (bptr b225 0)), (6, (Value.int .i64 (k3 : Int))), (1, (bptr b4 0))] rfl; clear hA309
            refine c_region ?_
            refine s1 hA311 (op_move rfl (hA311.ev rfl)) fun a312 hA313 => ?_; clear hA311 a308
            refine s1 hA313 (op_add rfl (hA313.ev rfl) (evc _ _) (by omega) (by omega)) fun a314 hA315 => ?_; clear hA313 a312
            refine s1 hA315 (op_assign rfl (hA315.ev rfl)) fun a316 hA317 => ?_; clear hA315 a314
            refine wl_nil ?_
            exact then_n ⟨k4 + 1, ⟨hA317.as _ rfl, hS305, by omega, (fun i hi => by rcases Nat.lt_succ_iff_lt_or_eq.1 hi with h | h; exact hq5 i h; subst h; exact blk_y (by assumption) (by assumption))⟩, by omega⟩
           ·skip
            rw [hb310] at hA309
            refine c_true hA309 rfl ?_
            refine c_seq ?_
            have hA318 := hA309.as [] rfl; clear hA309
            refine c_region ?_
            refine s1 hA318 (op_assign rfl (evc _ _)) fun a319 hA320 => ?_; clear hA318 a308
            refine n1 ?_
            refine c_ret ?_
            refine blk_ret ?_
            refine then_ret ?_
            refine then_ret ?_
            refine blk_ret ?_
            refine blk_ret ?_
            refine then_ret ?_
            refine then_ret ?_
            refine blk_ret ?_
            refine then_ret ?_
            refine fin_run hA320 (.inl rfl) (run_results1 hA320 rfl (.tmp rfl)) ?_
            exact ⟨ret_int (Eq.symm (by first | exact check_3a (by omega) | exact check_3b (k := k) (by omega) (by omega) | exact check_3c (k := k1) (by omega) (by omega) | exact check_1a (⟨by omega, by omega, fun i hi => hq1 i (by omega), fun i hi => hq2 i (by omega)⟩ : ShortB b) (by assumption) | exact check_1b (k := k2) (⟨by omega, by omega, fun i hi => hq1 i (by omega), fun i hi => hq2 i (by omega)⟩ : ShortB b) (by omega) (by assumption) | exact check_1c (k := k3) (⟨by omega, by omega, fun i hi => hq1 i (by omega), fun i hi => hq2 i (by omega)⟩ : ShortB b) (by omega) (mac_n1 (by assumption)) | exact check_1c (k := k3) (⟨by omega, by omega, fun i hi => hq1 i (by omega), fun i hi => hq2 i (by omega)⟩ : ShortB b) (by omega) (mac_n2 (k := k4) (by omega) (blk_n (by first | exact .inl (by assumption) | exact .inr (by assumption)))) | exact check_0 (⟨by omega, by omega, fun i hi => hq1 i (by omega), fun i hi => hq2 i (by omega)⟩ : ShortB b) (by assumption) (fun i hi => hq3 i (by omega)) (fun i hi => hq4 i (by omega)))), hS305.ext⟩
          ·skip
           rw [hb288] at hA287
           refine s3 hA287 fun a321 hA322 => ?_; clear hA287 a286
           refine s3 hA322 fun a323 hA324 => ?_; clear hA322 a321
           refine s3 hA324 fun a325 hA326 => ?_; clear hA324 a323
           refine s3 hA326 fun a327 hA328 => ?_; clear hA326 a325
           refine s3 hA328 fun a329 hA330 => ?_; clear hA328 a327
           refine s3 hA330 fun a331 hA332 => ?_; clear hA330 a329
           refine s3 hA332 fun a333 hA334 => ?_; clear hA332 a331
           refine s3 hA334 fun a335 hA336 => ?_; clear hA334 a333
           refine s1 hA336 (op_pick_t rfl (hA336.ev rfl) (evc _ _)) fun a337 hA338 => ?_; clear hA336 a335
           refine n1 ?_
           refine c_true hA338 rfl ?_
           refine c_seq ?_
           have hA339 := hA338.as [] rfl; clear hA338
           refine c_region ?_
           refine s1 hA339 (op_assign rfl (evc _ _)) fun a340 hA341 => ?_; clear hA339 a337
           refine n1 ?_
           refine c_ret ?_
           refine blk_ret ?_
           refine then_ret ?_
           refine then_ret ?_
           refine blk_ret ?_
           refine blk_ret ?_
           refine then_ret ?_
           refine then_ret ?_
           refine blk_ret ?_
           refine then_ret ?_
           refine fin_run hA341 (.inl rfl) (run_results1 hA341 rfl (.tmp rfl)) ?_
           exact ⟨ret_int (Eq.symm (by first | exact check_3a (by omega) | exact check_3b (k := k) (by omega) (by omega) | exact check_3c (k := k1) (by omega) (by omega) | exact check_1a (⟨by omega, by omega, fun i hi => hq1 i (by omega), fun i hi => hq2 i (by omega)⟩ : ShortB b) (by assumption) | exact check_1b (k := k2) (⟨by omega, by omega, fun i hi => hq1 i (by omega), fun i hi => hq2 i (by omega)⟩ : ShortB b) (by omega) (by assumption) | exact check_1c (k := k3) (⟨by omega, by omega, fun i hi => hq1 i (by omega), fun i hi => hq2 i (by omega)⟩ : ShortB b) (by omega) (mac_n1 (by assumption)) | exact check_1c (k := k3) (⟨by omega, by omega, fun i hi => hq1 i (by omega), fun i hi => hq2 i (by omega)⟩ : ShortB b) (by omega) (mac_n2 (k := k4) (by omega) (blk_n (by first | exact .inl (by assumption) | exact .inr (by assumption)))) | exact check_0 (⟨by omega, by omega, fun i hi => hq1 i (by omega), fun i hi => hq2 i (by omega)⟩ : ShortB b) (by assumption) (fun i hi => hq3 i (by omega)) (fun i hi => hq4 i (by omega)))), hS283.ext⟩
         ·skip
          rw [decide_eq_false hb266] at hA265
          refine c_false hA265 rfl ?_
          refine c_exit ?_
          refine then_exit ?_
          refine then_exit ?_
          refine blk_hit ?_
          refine blk_n ?_
          refine then_n ?_
          have hA342 := hA265.as [(6, (Value.int .i64 (k3 : Int))), (1, (bptr b4 0))] rfl; clear hA265
          refine c_region ?_
          refine s1 hA342 (op_move rfl (hA342.ev rfl)) fun a343 hA344 => ?_; clear hA342 a264
          refine s1 hA344 (op_add rfl (hA344.ev rfl) (evc _ _) (by omega) (by omega)) fun a345 hA346 => ?_; clear hA344 a343
          refine s1 hA346 (op_assign rfl (hA346.ev rfl)) fun a347 hA348 => ?_; clear hA346 a345
          refine wl_nil ?_
          have hS349 : Sep NoB w w254 [(blk b4 25 [(Value.int .i64 b.scales), vt, vm]), (tabsR false vt lr lb b.tabs), (macsR false vm lk b.macs)] := hS255.keep [1, 2, 3] (by decide) _ rfl rfl; clear hS255
          exact then_n ⟨k3 + 1, ⟨hA348.as _ rfl, hS349, by omega, (fun i hi => by rcases Nat.lt_succ_iff_lt_or_eq.1 hi with h | h; exact hq4 i h; subst h; exact mac_y (by assumption) (fun j hj => hq5 j (by omega)))⟩, by omega⟩
        ·skip
         rw [hb247] at hA246
         refine c_true hA246 rfl ?_
         refine c_seq ?_
         have hA350 := hA246.as [] rfl; clear hA246
         refine c_region ?_
         refine s1 hA350 (op_assign rfl (evc _ _)) fun a351 hA352 => ?_; clear hA350 a245
         refine n1 ?_
         refine c_ret ?_
         refine then_ret ?_
         refine blk_ret ?_
         refine then_ret ?_
         refine then_ret ?_
         refine blk_ret ?_
         refine then_ret ?_
         refine fin_run hA352 (.inl rfl) (run_results1 hA352 rfl (.tmp rfl)) ?_
         exact ⟨ret_int (Eq.symm (by first | exact check_3a (by omega) | exact check_3b (k := k) (by omega) (by omega) | exact check_3c (k := k1) (by omega) (by omega) | exact check_1a (⟨by omega, by omega, fun i hi => hq1 i (by omega), fun i hi => hq2 i (by omega)⟩ : ShortB b) (by assumption) | exact check_1b (k := k2) (⟨by omega, by omega, fun i hi => hq1 i (by omega), fun i hi => hq2 i (by omega)⟩ : ShortB b) (by omega) (by assumption) | exact check_1c (k := k3) (⟨by omega, by omega, fun i hi => hq1 i (by omega), fun i hi => hq2 i (by omega)⟩ : ShortB b) (by omega) (mac_n1 (by assumption)) | exact check_1c (k := k3) (⟨by omega, by omega, fun i hi => hq1 i (by omega), fun i hi => hq2 i (by omega)⟩ : ShortB b) (by omega) (mac_n2 (k := k4) (by omega) (blk_n (by first | exact .inl (by assumption) | exact .inr (by assumption)))) | exact check_0 (⟨by omega, by omega, fun i hi => hq1 i (by omega), fun i hi => hq2 i (by omega)⟩ : ShortB b) (by assumption) (fun i hi => hq3 i (by omega)) (fun i hi => hq4 i (by omega)))), hS230.ext⟩
       ·skip
        rw [decide_eq_false hb211] at hA210
        refine c_false hA210 rfl ?_
        refine c_exit ?_
        refine then_exit ?_
        refine then_exit ?_
        refine blk_hit ?_
        refine then_n ?_
        refine c_seq ?_
        have hA353 := hA210.as [] rfl; clear hA210
        refine c_region ?_
        refine s1 hA353 (op_assign rfl (evc _ _)) fun a354 hA355 => ?_; clear hA353 a209
        refine n1 ?_
        refine c_ret ?_
        refine fin_run hA355 (.inl rfl) (run_results1 hA355 rfl (.tmp rfl)) ?_
        exact ⟨ret_int (Eq.symm (by first | exact check_3a (by omega) | exact check_3b (k := k) (by omega) (by omega) | exact check_3c (k := k1) (by omega) (by omega) | exact check_1a (⟨by omega, by omega, fun i hi => hq1 i (by omega), fun i hi => hq2 i (by omega)⟩ : ShortB b) (by assumption) | exact check_1b (k := k2) (⟨by omega, by omega, fun i hi => hq1 i (by omega), fun i hi => hq2 i (by omega)⟩ : ShortB b) (by omega) (by assumption) | exact check_1c (k := k3) (⟨by omega, by omega, fun i hi => hq1 i (by omega), fun i hi => hq2 i (by omega)⟩ : ShortB b) (by omega) (mac_n1 (by assumption)) | exact check_1c (k := k3) (⟨by omega, by omega, fun i hi => hq1 i (by omega), fun i hi => hq2 i (by omega)⟩ : ShortB b) (by omega) (mac_n2 (k := k4) (by omega) (blk_n (by first | exact .inl (by assumption) | exact .inr (by assumption)))) | exact check_0 (⟨by omega, by omega, fun i hi => hq1 i (by omega), fun i hi => hq2 i (by omega)⟩ : ShortB b) (by assumption) (fun i hi => hq3 i (by omega)) (fun i hi => hq4 i (by omega)))), hS200.ext⟩
     ·skip
      rw [hb148] at hA147
      refine c_true hA147 rfl ?_
      refine m2 ?_
      refine s1 hA147 (op_assign rfl (evc _ _)) fun a356 hA357 => ?_; clear hA147 a146
      refine n1 ?_
      refine c_ret ?_
      refine then_ret ?_
      refine fin_run hA357 (.inl rfl) (run_results1 hA357 rfl (.tmp rfl)) ?_
      exact ⟨ret_int (Eq.symm (by first | exact check_3a (by omega) | exact check_3b (k := k) (by omega) (by omega) | exact check_3c (k := k1) (by omega) (by omega) | exact check_1a (⟨by omega, by omega, fun i hi => hq1 i (by omega), fun i hi => hq2 i (by omega)⟩ : ShortB b) (by assumption) | exact check_1b (k := k2) (⟨by omega, by omega, fun i hi => hq1 i (by omega), fun i hi => hq2 i (by omega)⟩ : ShortB b) (by omega) (by assumption) | exact check_1c (k := k3) (⟨by omega, by omega, fun i hi => hq1 i (by omega), fun i hi => hq2 i (by omega)⟩ : ShortB b) (by omega) (mac_n1 (by assumption)) | exact check_1c (k := k3) (⟨by omega, by omega, fun i hi => hq1 i (by omega), fun i hi => hq2 i (by omega)⟩ : ShortB b) (by omega) (mac_n2 (k := k4) (by omega) (blk_n (by first | exact .inl (by assumption) | exact .inr (by assumption)))) | exact check_0 (⟨by omega, by omega, fun i hi => hq1 i (by omega), fun i hi => hq2 i (by omega)⟩ : ShortB b) (by assumption) (fun i hi => hq3 i (by omega)) (fun i hi => hq4 i (by omega)))), hS99.ext⟩
set_option maxHeartbeats 4000000 in
theorem check_book (b : BookD) (vt vm : Value) (lr lb lk : Nat → Value) (w : World) (hT : TabsAt w vt lr lb b.tabs) (hM : MacsAt w vm lk b.macs) (hth : ThinB b) :
  Calls Try.prog 32 #[(Value.agg #[(Value.int .i64 b.scales), vt, vm])] w (Ret fun v w' => v = .int .i64 (checkF b) ∧ Ext NoB w w') := by
 refine calls_enter Try.func32 rfl fun a0 hA0 => ?_
 replace hA0 : Fr 45 [] [(0, (Value.agg #[(Value.int .i64 b.scales), vt, vm]))] a0 := hA0
 have hS0 : Sep NoB w w [(tabsR false vt lr lb b.tabs), (macsR false vm lk b.macs)] := sep_ro ⟨rfl, hT, rfl, hM, trivial⟩
 refine m2 ?_
 refine s2 hA0 (op_box hS0 rfl (hA0.ev rfl) (cs := [(Value.int .i64 b.scales), vt, vm]) rfl) ?_
 rintro a1 _ w3 ⟨b4, rfl, hS5⟩ hA2; clear hA0 hS0 a0
 refine s1 hA2 (op_assign rfl (evc _ _)) fun a6 hA7 => ?_; clear hA2 a1
 refine n2 ?_
 refine c_block ?_
 refine m2 ?_
 refine s1 hA7 (op_field rfl fd_37_1 (hA7.ev rfl)) fun a8 hA9 => ?_; clear hA7 a6
 refine s1 hA9 (op_load1 rfl ty_34 (hA9.ev rfl) (hS5.bk 0 rfl) rfl) fun a10 hA11 => ?_; clear hA9 a8
 refine s1 hA11 (op_lenS rfl un_34 (hA11.ev rfl) (tabs_at (hS5.ok 1 _ rfl)).tabs) fun a12 hA13 => ?_; clear hA11 a10
 refine s1 hA13 (op_gtr rfl (hA13.ev rfl) (evc _ _)) fun a14 hA15 => ?_; clear hA13 a12
 refine s1 hA15 (op_move rfl (hA15.ev rfl)) fun a16 hA17 => ?_; clear hA15 a14
 by_cases hb18 : 6 < (b.tabs.length : Int)
 ·skip
  rw [decide_eq_true hb18] at hA17
  refine s3 hA17 fun a19 hA20 => ?_; clear hA17 a16
  refine s3 hA20 fun a21 hA22 => ?_; clear hA20 a19
  refine s3 hA22 fun a23 hA24 => ?_; clear hA22 a21
  refine s3 hA24 fun a25 hA26 => ?_; clear hA24 a23
  refine s1 hA26 (op_pick_t rfl (hA26.ev rfl) (evc _ _)) fun a27 hA28 => ?_; clear hA26 a25
  refine s1 hA28 (op_assign rfl (hA28.ev rfl)) fun a29 hA30 => ?_; clear hA28 a27
  refine n1 ?_
  refine c_true hA30 rfl ?_
  refine c_seq ?_
  have hA31 := hA30.as [] rfl; clear hA30
  refine c_region ?_
  refine s1 hA31 (op_assign rfl (evc _ _)) fun a32 hA33 => ?_; clear hA31 a29
  refine n1 ?_
  refine c_ret ?_
  refine blk_ret ?_
  refine then_ret ?_
  refine fin_run hA33 (.inl rfl) (run_results1 hA33 rfl (.tmp rfl)) ?_
  exact ⟨ret_int (Eq.symm (by first | exact check_3a (by omega) | exact check_3b' (by assumption) | exact check_3c' (by assumption))), hS5.ext⟩
 ·skip
  rw [decide_eq_false hb18] at hA17
  refine s5 hA17 (op_field rfl fd_37_2 (hA17.ev rfl)) fun a34 hA35 => ?_; clear hA17 a16
  refine s5 hA35 (op_load1 rfl ty_35 (hA35.ev rfl) (hS5.bk 0 rfl) rfl) fun a36 hA37 => ?_; clear hA35 a34
  refine s5 hA37 (op_lenS rfl un_35 (hA37.ev rfl) (macs_at (hS5.ok 2 _ rfl)).macs) fun a38 hA39 => ?_; clear hA37 a36
  refine s5 hA39 (op_gtr rfl (hA39.ev rfl) (evc _ _)) fun a40 hA41 => ?_; clear hA39 a38
  refine s1 hA41 (op_pick_f rfl (hA41.ev rfl) (hA41.ev rfl)) fun a42 hA43 => ?_; clear hA41 a40
  refine s1 hA43 (op_assign rfl (hA43.ev rfl)) fun a44 hA45 => ?_; clear hA43 a42
  refine n1 ?_
  by_cases hb46 : 6 < (b.macs.length : Int)
  ·skip
   rw [decide_eq_true hb46] at hA45
   refine c_true hA45 rfl ?_
   refine c_seq ?_
   have hA47 := hA45.as [] rfl; clear hA45
   refine c_region ?_
   refine s1 hA47 (op_assign rfl (evc _ _)) fun a48 hA49 => ?_; clear hA47 a44
   refine n1 ?_
   refine c_ret ?_
   refine blk_ret ?_
   refine then_ret ?_
   refine fin_run hA49 (.inl rfl) (run_results1 hA49 rfl (.tmp rfl)) ?_
   exact ⟨ret_int (Eq.symm (by first | exact check_3a (by omega) | exact check_3b' (by assumption) | exact check_3c' (by assumption))), hS5.ext⟩
  ·skip
   rw [decide_eq_false hb46] at hA45
   refine c_false hA45 rfl ?_
   refine c_seq ?_
   have hA50 := hA45.as [(1, (bptr b4 0))] rfl; clear hA45
   refine c_region ?_
   refine s1 hA50 (op_field rfl fd_37_1 (hA50.ev rfl)) fun a51 hA52 => ?_; clear hA50 a44
   refine s1 hA52 (op_load1 rfl ty_34 (hA52.ev rfl) (hS5.bk 0 rfl) rfl) fun a53 hA54 => ?_; clear hA52 a51
   refine s2 hA54 (op_call rfl en_61 (ev2 (hA54.ev rfl) (evf _ _)) (all_tab b.tabs lr lb _ 62 #[] #[] (fun i => decide (((b.tabs.getD i tab0).rows.length : Int) ≤ 8)) _ (tabs_at (hS5.ok 1 _ rfl)).tabs (by have := hth.tl; omega) ⟨en_62, fun i hi W hW => tshort_ok (b.tabs.getD i tab0) _ _ W ((tabs_at ((hS5.step hW).ok 1 _ rfl)).row hi) ((tabs_at ((hS5.step hW).ok 1 _ rfl)).brk hi) (hth.rl i) (hth.bl i)⟩ (fun i hi => ⟨((tabs_at (hS5.ok 1 _ rfl)).row hi).one, ((tabs_at (hS5.ok 1 _ rfl)).brk hi).one⟩))) ?_
   rintro a55 _ w57 ⟨rfl, hE58⟩ hA56; have hS59 := hS5.step hE58; clear hE58 hA54 hS5 a53
   refine s1 hA56 (op_not rfl (hA56.ev rfl)) fun a60 hA61 => ?_; clear hA56 a55
   refine s1 hA61 (op_assign rfl (hA61.ev rfl)) fun a62 hA63 => ?_; clear hA61 a60
   refine n1 ?_
   rcases Bool.eq_false_or_eq_true (((List.range b.tabs.length).all (fun i => decide (((b.tabs.getD i tab0).rows.length : Int) ≤ 8)))) with hb64 | hb64
   ·skip
    rw [hb64] at hA63
    refine c_false hA63 rfl ?_
    refine m2 ?_
    refine s1 hA63 (op_field rfl fd_37_2 (hA63.ev rfl)) fun a65 hA66 => ?_; clear hA63 a62
    refine s1 hA66 (op_load1 rfl ty_35 (hA66.ev rfl) (hS59.bk 0 rfl) rfl) fun a67 hA68 => ?_; clear hA66 a65
    refine s2 hA68 (op_call rfl en_63 (ev2 (hA68.ev rfl) (evf _ _)) (all_mac b.macs lk _ 64 #[] #[] (fun i => decide (((b.macs.getD i mac0).blocks.length : Int) ≤ 5)) _ (macs_at (hS59.ok 2 _ rfl)).macs (by have := hth.ml; omega) ⟨en_64, fun i hi W hW => mshort_ok (b.macs.getD i mac0) _ W ((macs_at ((hS59.step hW).ok 2 _ rfl)).blk hi)⟩ (fun i hi => ((macs_at (hS59.ok 2 _ rfl)).blk hi).one))) ?_
    rintro a69 _ w71 ⟨rfl, hE72⟩ hA70; have hS73 := hS59.step hE72; clear hE72 hA68 hS59 a67
    refine s1 hA70 (op_not rfl (hA70.ev rfl)) fun a74 hA75 => ?_; clear hA70 a69
    refine s1 hA75 (op_assign rfl (hA75.ev rfl)) fun a76 hA77 => ?_; clear hA75 a74
    refine n1 ?_
    rcases Bool.eq_false_or_eq_true (((List.range b.macs.length).all (fun i => decide (((b.macs.getD i mac0).blocks.length : Int) ≤ 5)))) with hb78 | hb78
    ·skip
     rw [hb78] at hA77
     refine c_false hA77 rfl ?_
     refine c_seq ?_
     have hA79 := hA77.as [(1, (bptr b4 0))] rfl; clear hA77
     refine c_region ?_
     refine s1 hA79 (op_field rfl fd_37_0 (hA79.ev rfl)) fun a80 hA81 => ?_; clear hA79 a76
     refine s1 hA81 (op_load1 rfl ty_3 (hA81.ev rfl) (hS73.bk 0 rfl) rfl) fun a82 hA83 => ?_; clear hA81 a80
     refine s2 hA83 (op_call rfl en_47 (ev3 (hA83.ev rfl) (evc _ _) (evc _ _)) (within_ok _ _ _ _)) ?_
     rintro a84 _ W_ ⟨rfl, hW_⟩ hA85; have hW2_ := hW_.symm; subst hW2_; clear hW_ hA83 a82
     refine s1 hA85 (op_not rfl (hA85.ev rfl)) fun a87 hA88 => ?_; clear hA85 a84
     refine s1 hA88 (op_move rfl (hA88.ev rfl)) fun a89 hA90 => ?_; clear hA88 a87
     rcases Bool.eq_false_or_eq_true ((inB b.scales 1 4)) with hb91 | hb91
     ·skip
      rw [hb91] at hA90
      refine s5 hA90 (op_field rfl fd_37_1 (hA90.ev rfl)) fun a92 hA93 => ?_; clear hA90 a89
      refine s5 hA93 (op_load1 rfl ty_34 (hA93.ev rfl) (hS73.bk 0 rfl) rfl) fun a94 hA95 => ?_; clear hA93 a92
      refine s5 hA95 (op_loadA rfl ty_37 (hA95.ev rfl) (hS73.bk 0 rfl) (l := [(Value.int .i64 b.scales), vt, vm]) rfl rfl) fun a96 hA97 => ?_; clear hA95 a94
      refine s5 hA97 (op_makeFunc rfl (ev1 (hA97.ev rfl)) ev0) fun a98 hA99 => ?_; clear hA97 a96
      refine s6 hA99 (op_call rfl en_61 (ev2 (hA99.ev rfl) (hA99.ev rfl)) (all_tab b.tabs lr lb _ 65 #[(Value.agg #[(Value.int .i64 b.scales), vt, vm])] #[] (fun i => tabB b.scales (b.tabs.getD i tab0)) _ (tabs_at (hS73.ok 1 _ rfl)).tabs (by have := hth.tl; omega) ⟨en_65, fun i hi W hW => table_ok b.scales vt vm (tabs_at (hS73.ok 1 _ rfl)).tabs.one (macs_at (hS73.ok 2 _ rfl)).macs.one (inB_iff.1 (by assumption)) (b.tabs.getD i tab0) _ _ W ((tabs_at ((hS73.step hW).ok 1 _ rfl)).row hi) ((tabs_at ((hS73.step hW).ok 1 _ rfl)).brk hi) (hth.rl i) (hth.bl i)⟩ (fun i hi => ⟨((tabs_at (hS73.ok 1 _ rfl)).row hi).one, ((tabs_at (hS73.ok 1 _ rfl)).brk hi).one⟩))) ?_
      rintro a100 _ w102 ⟨rfl, hE103⟩ hA101; have hS104 := hS73.step hE103; clear hE103 hA99 hS73 a98
      refine s5 hA101 (op_not rfl (hA101.ev rfl)) fun a105 hA106 => ?_; clear hA101 a100
      refine s1 hA106 (op_pick_f rfl (hA106.ev rfl) (hA106.ev rfl)) fun a107 hA108 => ?_; clear hA106 a105
      refine s1 hA108 (op_move rfl (hA108.ev rfl)) fun a109 hA110 => ?_; clear hA108 a107
      rcases Bool.eq_false_or_eq_true (((List.range b.tabs.length).all (fun i => tabB b.scales (b.tabs.getD i tab0)))) with hb111 | hb111
      ·skip
       rw [hb111] at hA110
       refine s5 hA110 (op_field rfl fd_37_2 (hA110.ev rfl)) fun a112 hA113 => ?_; clear hA110 a109
       refine s5 hA113 (op_load1 rfl ty_35 (hA113.ev rfl) (hS104.bk 0 rfl) rfl) fun a114 hA115 => ?_; clear hA113 a112
       refine s5 hA115 (op_loadA rfl ty_37 (hA115.ev rfl) (hS104.bk 0 rfl) (l := [(Value.int .i64 b.scales), vt, vm]) rfl rfl) fun a116 hA117 => ?_; clear hA115 a114
       refine s5 hA117 (op_makeFunc rfl (ev1 (hA117.ev rfl)) ev0) fun a118 hA119 => ?_; clear hA117 a116
       refine s6 hA119 (op_call rfl en_63 (ev2 (hA119.ev rfl) (hA119.ev rfl)) (all_mac b.macs lk _ 66 #[(Value.agg #[(Value.int .i64 b.scales), vt, vm])] #[] (fun i => macB b.scales (b.macs.getD i mac0)) _ (macs_at (hS104.ok 2 _ rfl)).macs (by have := hth.ml; omega) ⟨en_66, fun i hi W hW => machine_ok b.scales vt vm W (tabs_at (hS104.ok 1 _ rfl)).tabs.one (macs_at (hS104.ok 2 _ rfl)).macs.one (inB_iff.1 (by assumption)) (b.macs.getD i mac0) _ ((macs_at ((hS104.step hW).ok 2 _ rfl)).blk hi) (hth.kl i)⟩ (fun i hi => ((macs_at (hS104.ok 2 _ rfl)).blk hi).one))) ?_
       rintro a120 _ w122 ⟨rfl, hE123⟩ hA121; have hS124 := hS104.step hE123; clear hE123 hA119 hS104 a118
       refine s5 hA121 (op_not rfl (hA121.ev rfl)) fun a125 hA126 => ?_; clear hA121 a120
       refine s1 hA126 (op_pick_f rfl (hA126.ev rfl) (hA126.ev rfl)) fun a127 hA128 => ?_; clear hA126 a125
       refine s1 hA128 (op_assign rfl (hA128.ev rfl)) fun a129 hA130 => ?_; clear hA128 a127
       refine n1 ?_
       rcases Bool.eq_false_or_eq_true (((List.range b.macs.length).all (fun i => macB b.scales (b.macs.getD i mac0)))) with hb131 | hb131
       ·skip
        rw [hb131] at hA130
        refine c_false hA130 rfl ?_
        refine c_skip ?_
        refine blk_n ?_
        refine then_n ?_
        refine c_seq ?_
        have hA132 := hA130.as [] rfl; clear hA130
        refine c_region ?_
        refine s1 hA132 (op_assign rfl (evc _ _)) fun a133 hA134 => ?_; clear hA132 a129
        refine n1 ?_
        refine c_ret ?_
        refine fin_run hA134 (.inl rfl) (run_results1 hA134 rfl (.tmp rfl)) ?_
        exact ⟨ret_int (Eq.symm (check_0' (short_of (by omega) (by omega) (by assumption) (by assumption)) (by assumption) (by assumption) (by assumption))), hS124.ext⟩
       ·skip
        rw [hb131] at hA130
        refine c_true hA130 rfl ?_
        refine c_seq ?_
        have hA135 := hA130.as [] rfl; clear hA130
        refine c_region ?_
        refine s1 hA135 (op_assign rfl (evc _ _)) fun a136 hA137 => ?_; clear hA135 a129
        refine n1 ?_
        refine c_ret ?_
        refine blk_ret ?_
        refine then_ret ?_
        refine fin_run hA137 (.inl rfl) (run_results1 hA137 rfl (.tmp rfl)) ?_
        exact ⟨ret_int (Eq.symm (by first | exact check_1a (short_of (by omega) (by omega) (by assumption) (by assumption)) (by assumption) | exact check_1b' (short_of (by omega) (by omega) (by assumption) (by assumption)) (by assumption) | exact check_1c' (short_of (by omega) (by omega) (by assumption) (by assumption)) (by assumption))), hS124.ext⟩
      ·skip
       rw [hb111] at hA110
       refine s3 hA110 fun a138 hA139 => ?_; clear hA110 a109
       refine s3 hA139 fun a140 hA141 => ?_; clear hA139 a138
       refine s3 hA141 fun a142 hA143 => ?_; clear hA141 a140
       refine s3 hA143 fun a144 hA145 => ?_; clear hA143 a142
       refine s3 hA145 fun a146 hA147 => ?_; clear hA145 a144
       refine s3 hA147 fun a148 hA149 => ?_; clear hA147 a146
       refine s1 hA149 (op_pick_t rfl (hA149.ev rfl) (evc _ _)) fun a150 hA151 => ?_; clear hA149 a148
       refine s1 hA151 (op_assign rfl (hA151.ev rfl)) fun a152 hA153 => ?_; clear hA151 a150
       refine n1 ?_
       refine c_true hA153 rfl ?_
       refine c_seq ?_
       have hA154 := hA153.as [] rfl; clear hA153
       refine c_region ?_
       refine s1 hA154 (op_assign rfl (evc _ _)) fun a155 hA156 => ?_; clear hA154 a152
       refine n1 ?_
       refine c_ret ?_
       refine blk_ret ?_
       refine then_ret ?_
       refine fin_run hA156 (.inl rfl) (run_results1 hA156 rfl (.tmp rfl)) ?_
       exact ⟨ret_int (Eq.symm (by first | exact check_1a (short_of (by omega) (by omega) (by assumption) (by assumption)) (by assumption) | exact check_1b' (short_of (by omega) (by omega) (by assumption) (by assumption)) (by assumption) | exact check_1c' (short_of (by omega) (by omega) (by assumption) (by assumption)) (by assumption))), hS104.ext⟩
     ·skip
      rw [hb91] at hA90
      refine s3 hA90 fun a157 hA158 => ?_; clear hA90 a89
      refine s3 hA158 fun a159 hA160 => ?_; clear hA158 a157
      refine s3 hA160 fun a161 hA162 => ?_; clear hA160 a159
      refine s3 hA162 fun a163 hA164 => ?_; clear hA162 a161
      refine s3 hA164 fun a165 hA166 => ?_; clear hA164 a163
      refine s3 hA166 fun a167 hA168 => ?_; clear hA166 a165
      refine s1 hA168 (op_pick_t rfl (hA168.ev rfl) (evc _ _)) fun a169 hA170 => ?_; clear hA168 a167
      refine s1 hA170 (op_move rfl (hA170.ev rfl)) fun a171 hA172 => ?_; clear hA170 a169
      refine s3 hA172 fun a173 hA174 => ?_; clear hA172 a171
      refine s3 hA174 fun a175 hA176 => ?_; clear hA174 a173
      refine s3 hA176 fun a177 hA178 => ?_; clear hA176 a175
      refine s3 hA178 fun a179 hA180 => ?_; clear hA178 a177
      refine s3 hA180 fun a181 hA182 => ?_; clear hA180 a179
      refine s3 hA182 fun a183 hA184 => ?_; clear hA182 a181
      refine s1 hA184 (op_pick_t rfl (hA184.ev rfl) (evc _ _)) fun a185 hA186 => ?_; clear hA184 a183
      refine s1 hA186 (op_assign rfl (hA186.ev rfl)) fun a187 hA188 => ?_; clear hA186 a185
      refine n1 ?_
      refine c_true hA188 rfl ?_
      refine c_seq ?_
      have hA189 := hA188.as [] rfl; clear hA188
      refine c_region ?_
      refine s1 hA189 (op_assign rfl (evc _ _)) fun a190 hA191 => ?_; clear hA189 a187
      refine n1 ?_
      refine c_ret ?_
      refine blk_ret ?_
      refine then_ret ?_
      refine fin_run hA191 (.inl rfl) (run_results1 hA191 rfl (.tmp rfl)) ?_
      exact ⟨ret_int (Eq.symm (by first | exact check_1a (short_of (by omega) (by omega) (by assumption) (by assumption)) (by assumption) | exact check_1b' (short_of (by omega) (by omega) (by assumption) (by assumption)) (by assumption) | exact check_1c' (short_of (by omega) (by omega) (by assumption) (by assumption)) (by assumption))), hS73.ext⟩
    ·skip
     rw [hb78] at hA77
     refine c_true hA77 rfl ?_
     refine c_seq ?_
     have hA192 := hA77.as [] rfl; clear hA77
     refine c_region ?_
     refine s1 hA192 (op_assign rfl (evc _ _)) fun a193 hA194 => ?_; clear hA192 a76
     refine n1 ?_
     refine c_ret ?_
     refine blk_ret ?_
     refine then_ret ?_
     refine fin_run hA194 (.inl rfl) (run_results1 hA194 rfl (.tmp rfl)) ?_
     exact ⟨ret_int (Eq.symm (by first | exact check_3a (by omega) | exact check_3b' (by assumption) | exact check_3c' (by assumption))), hS73.ext⟩
   ·skip
    rw [hb64] at hA63
    refine c_true hA63 rfl ?_
    refine c_seq ?_
    have hA195 := hA63.as [] rfl; clear hA63
    refine c_region ?_
    refine s1 hA195 (op_assign rfl (evc _ _)) fun a196 hA197 => ?_; clear hA195 a62
    refine n1 ?_
    refine c_ret ?_
    refine blk_ret ?_
    refine then_ret ?_
    refine fin_run hA197 (.inl rfl) (run_results1 hA197 rfl (.tmp rfl)) ?_
    exact ⟨ret_int (Eq.symm (by first | exact check_3a (by omega) | exact check_3b' (by assumption) | exact check_3c' (by assumption))), hS59.ext⟩
end Go.Proofs.Ytohgladndklciaa

namespace Go.Hard
section
variable {b : BookD} {l : List (Int × Int)} {k : Nat} {i : Int}
theorem BookV.mac (h : BookV b) (hi : k < b.macs.length) : MacV b.scales (b.macs.getD k mac0) := h.macs _ (by simp only [List.getD, List.getElem?_eq_getElem hi, Option.getD_some]; exact List.getElem_mem hi)
theorem BookV.tab (h : BookV b) (hi : k < b.tabs.length) : TabV b.scales (b.tabs.getD k tab0) := h.tabs _ (by simp only [List.getD, List.getElem?_eq_getElem hi, Option.getD_some]; exact List.getElem_mem hi)
theorem read_3 (h : checkF b = 0) (h2 : 8 < l.length) : readF b l = 3 := by unfold readF; rw [if_neg (not_not_intro h), if_pos h2]
theorem read_2' (h : checkF b = 0) (h2 : ¬ 8 < l.length) (h3 : (List.range l.length).all (fun i => readB b (l.getD i (0, 0))) = false) : readF b l = 2 := by
  unfold readF; rw [if_neg (not_not_intro h), if_neg h2, if_pos (show allI l.length (fun i => readB b (l.getD i (0, 0))) = false from h3)]
theorem read_11' (h : checkF b = 0) (h2 : ¬ 8 < l.length) (h3 : (List.range l.length).all (fun i => readB b (l.getD i (0, 0))) = true) (h4 : (List.range l.length).all (fun i => !offB (b.macs.getD (l.getD i (0, 0)).1.toNat mac0)) = false) : readF b l = 11 := by
  unfold readF; rw [if_neg (not_not_intro h), if_neg h2, if_neg (by rw [show allI l.length (fun i => readB b (l.getD i (0, 0))) = true from h3]; decide), if_pos (show allI l.length (fun i => !offB (b.macs.getD (l.getD i (0, 0)).1.toNat mac0)) = false from h4)]
theorem read_check (h : readF b l = 0) : checkF b = 0 := by
  unfold readF at h
  split at h
  · rename_i h1; exact absurd h h1
  · rename_i h1; exact Decidable.not_not.1 h1
theorem readB_is (h : readB b (l.getD k (0, 0)) = true) : (0 ≤ (l.getD k (0, 0)).1 ∧ (l.getD k (0, 0)).1 ≤ (b.macs.length : Int) - 1) ∧ 0 ≤ (l.getD k (0, 0)).2 ∧ (l.getD k (0, 0)).2 ≤ 100000 := by
  unfold readB at h; rwa [Bool.and_eq_true, inB_iff, inB_iff] at h
end
def biasE (b : BookD) (i : Int) : Int := if checkF b ≠ 0 then checkF b else if inB i 0 ((b.macs.length : Int) - 1) = false then 2 else if offB (b.macs.getD i.toNat mac0) = true then 11 else 0
def biasR (b : BookD) (i : Int) : Rng := if biasE b i = 0 then biasF (b.macs.getD i.toNat mac0) else (0, 0)
theorem biasE_c {b : BookD} {i : Int} (h : checkF b ≠ 0) : biasE b i = checkF b := by unfold biasE; rw [if_pos h]
theorem biasE_2 {b : BookD} {i : Int} (h : checkF b = 0) (h2 : inB i 0 ((b.macs.length : Int) - 1) = false) : biasE b i = 2 := by unfold biasE; rw [if_neg (not_not_intro h), if_pos h2]
theorem biasE_11 {b : BookD} {i : Int} (h : checkF b = 0) (h2 : inB i 0 ((b.macs.length : Int) - 1) = true) (h3 : offB (b.macs.getD i.toNat mac0) = true) : biasE b i = 11 := by unfold biasE; rw [if_neg (not_not_intro h), if_neg (by rw [h2]; decide), if_pos h3]
theorem biasE_0 {b : BookD} {i : Int} (h : checkF b = 0) (h2 : inB i 0 ((b.macs.length : Int) - 1) = true) (h3 : offB (b.macs.getD i.toNat mac0) = false) : biasE b i = 0 := by unfold biasE; rw [if_neg (not_not_intro h), if_neg (by rw [h2]; decide), if_neg (by rw [h3]; decide)]
theorem biasR_n {b : BookD} {i : Int} (h : biasE b i ≠ 0) : biasR b i = (0, 0) := if_neg h
theorem biasR_y {b : BookD} {i : Int} (h : biasE b i = 0) : biasR b i = biasF (b.macs.getD i.toNat mac0) := if_pos h
theorem off_t {m : MacD} (h : (biasF m).2 < (biasF m).1) : offB m = true := decide_eq_true h
theorem off_f {m : MacD} (h : ¬ (biasF m).2 < (biasF m).1) : offB m = false := decide_eq_false h
def convE (b : BookD) (i : Int) (r : Rng) : Int := if checkF b ≠ 0 then checkF b else if inB i 0 ((b.tabs.length : Int) - 1) = false ∨ spanB r = false then 2 else if convB (b.tabs.getD i.toNat tab0) r = false then 10 else 0
def convR (b : BookD) (i : Int) (r : Rng) : Rng := if convE b i r = 0 then convF (b.tabs.getD i.toNat tab0) r else (0, 0)
section
variable {b : BookD} {i : Int} {r : Rng}
theorem convE_c (h : checkF b ≠ 0) : convE b i r = checkF b := by unfold convE; rw [if_pos h]
theorem convE_2 (h : checkF b = 0) (h2 : inB i 0 ((b.tabs.length : Int) - 1) = false ∨ spanB r = false) : convE b i r = 2 := by unfold convE; rw [if_neg (not_not_intro h), if_pos h2]
theorem convE_10 (h : checkF b = 0) (h2 : inB i 0 ((b.tabs.length : Int) - 1) = true) (h3 : spanB r = true) (h4 : convB (b.tabs.getD i.toNat tab0) r = false) : convE b i r = 10 := by unfold convE; rw [if_neg (not_not_intro h), if_neg (by rw [h2, h3]; decide), if_pos h4]
theorem convE_0 (h : checkF b = 0) (h2 : inB i 0 ((b.tabs.length : Int) - 1) = true) (h3 : spanB r = true) (h4 : convB (b.tabs.getD i.toNat tab0) r = true) : convE b i r = 0 := by unfold convE; rw [if_neg (not_not_intro h), if_neg (by rw [h2, h3]; decide), if_neg (by rw [h4]; decide)]
theorem convR_n (h : convE b i r ≠ 0) : convR b i r = (0, 0) := if_neg h
theorem convR_y (h : convE b i r = 0) : convR b i r = convF (b.tabs.getD i.toNat tab0) r := if_pos h
end
end Go.Hard
