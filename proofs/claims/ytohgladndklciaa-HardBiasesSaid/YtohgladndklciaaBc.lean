/-
  When a table is one of a book: told by all its tests at once.
  The error of a book, told by the first thing that is not right; thin books.
-/
import Derived.Test.YtohgladndklciaaBb
import Derived.Test.YtohgladndklciaaEnga
set_option linter.unusedSimpArgs false
set_option linter.unusedVariables false
namespace Go.Proofs.Ytohgladndklciaa
open Go.RowKit Go.Shelf Go.Eng Go.Hard
theorem ze_4 : (Try.prog.info? 4).bind (·.zero) = some (Value.bool false) := by kernel_rfl
theorem ty_4 : tyK Try.prog 4 = some (false, 1) := by kernel_rfl
theorem en_116 : ∀ args w, (callFunc 116 args).run Try.prog w = .ok (.enter 116 args) w := enters_of Try.func116 (by kernel_rfl) rfl
theorem en_121 : ∀ args w, (callFunc 121 args).run Try.prog w = .ok (.enter 121 args) w := enters_of Try.func121 (by kernel_rfl) rfl
theorem fd_159_0 : fldK Try.prog 159 0 = some 0 := by kernel_rfl
theorem ty_154 : tyK Try.prog 154 = some (false, 1) := by kernel_rfl
theorem en_103 : ∀ args w, (callFunc 103 args).run Try.prog w = .ok (.enter 103 args) w := enters_of Try.func103 (by kernel_rfl) rfl
theorem bd_159_0f (x0_0 : Fn) (x0_0a x0_0b : Array Value) (w : World) : (Instr.build 159 #[(0, (.func x0_0 x0_0a x0_0b))]).run Try.prog w = .ok (.agg #[(.func x0_0 x0_0a x0_0b)]) w := by kernel_rfl
theorem en_101 : ∀ args w, (callFunc 101 args).run Try.prog w = .ok (.enter 101 args) w := enters_of Try.func101 (by kernel_rfl) rfl
theorem en_72 : ∀ args w, (callFunc 72 args).run Try.prog w = .ok (.enter 72 args) w := enters_of Try.func72 (by kernel_rfl) rfl
theorem fd_106_4 : fldK Try.prog 106 4 = some 4 := by kernel_rfl
theorem makes_dn (t : TabD) (vr vb : Value) (w : World) (hr : SlAt w vr 2 t.rows.length (pairs t.rows)) (hb : SlAt w vb 1 t.brk.length (ints t.brk)) (hrl : t.rows.length ≤ 1000000) (hbl : t.brk.length ≤ 1000000) (n : Int) (hV : TabV n t) (x : Int) :
  Calls Try.prog 101 #[(Value.agg #[(Value.int .i64 t.frm), (Value.int .i64 t.dst), vr, vb, (Value.int .i64 t.err)]), (Value.int .i64 x), (Value.agg #[(Value.func (.func 102) #[] #[])])] w (Ret fun v w' => v = .tuple #[.int .i64 (madeV t x).1, .bool (madeF t x).isSome] ∧ Ext NoB w w') := by
 refine calls_enterM Try.func101 rfl fun a0 hA0 => ?_
 replace hA0 : Fr 62 (marks []) [(0, (Value.agg #[(Value.int .i64 t.frm), (Value.int .i64 t.dst), vr, vb, (Value.int .i64 t.err)])), (1, (Value.int .i64 x)), (2, (Value.agg #[(Value.func (.func 102) #[] #[])]))] a0 := hA0
 have hS0 : Sep NoB w w [(marksR []), (sl vr 2 t.rows.length (pairs t.rows)), (sl vb 1 t.brk.length (ints t.brk))] := sep_marks (sep_ro ⟨rfl, hr, rfl, hb, trivial⟩)
 refine c_seq ?_
 refine c_region ?_
 refine stw hA0 (op_box hS0 rfl (hA0.ev rfl) (cs := [(Value.int .i64 t.frm), (Value.int .i64 t.dst), vr, vb, (Value.int .i64 t.err)]) rfl) rfl rfl (by decide) ?_
 rintro a1 _ w3 ⟨b4, rfl, hS5⟩ hA2; clear hA0 hS0 a0
 refine stw hA2 (op_box hS5 rfl (hA2.ev rfl) (cs := [(Value.int .i64 x)]) rfl) rfl rfl (by decide) ?_
 rintro a6 _ w8 ⟨b9, rfl, hS10⟩ hA7; clear hA2 hS5 a1
 refine stw hA7 (op_box hS10 rfl (hA7.ev rfl) (cs := [(Value.func (.func 102) #[] #[])]) rfl) rfl rfl (by decide) ?_
 rintro a11 _ w13 ⟨b14, rfl, hS15⟩ hA12; clear hA7 hS10 a6
 refine stw hA12 (op_alloc hS15 rfl ze_3 (cs := [(Value.int .i64 0)]) rfl) rfl rfl (by decide) ?_
 rintro a16 _ w18 ⟨b19, rfl, hS20⟩ hA17; clear hA12 hS15 a11
 refine stw hA17 (op_alloc hS20 rfl ze_4 (cs := [(Value.bool false)]) rfl) rfl rfl (by decide) ?_
 rintro a21 _ w23 ⟨b24, rfl, hS25⟩ hA22; clear hA17 hS20 a16
 refine wl_nil ?_
 refine then_n ?_
 refine c_seq ?_
 refine c_seq ?_
 refine c_region ?_
 refine st hA22 (op_field rfl fd_106_2 (hA22.ev rfl)) rfl rfl (by decide) fun a26 hA27 => ?_; clear hA22 a21
 refine st hA27 (op_load1 rfl ty_104 (hA27.ev rfl) (hS25.bk 4 rfl) rfl) rfl rfl (by decide) fun a28 hA29 => ?_; clear hA27 a26
 refine st hA29 (op_lenS rfl un_104 (hA29.ev rfl) (hS25.sk 6 rfl)) rfl rfl (by decide) fun a30 hA31 => ?_; clear hA29 a28
 refine st hA31 (op_move rfl (evc _ _)) rfl rfl (by decide) fun a32 hA33 => ?_; clear hA31 a30
 refine wl_nil ?_
 refine then_n ?_
 refine c_block ?_
 have hA34 := hA33.as [(15, (Value.int .i64 0)), (14, (Value.int .i64 (t.rows.length : Int))), (13, vr), (7, (bptr b24 0)), (6, (bptr b19 0)), (5, (bptr b14 0)), (4, (bptr b9 0)), (3, (bptr b4 0))] rfl; clear hA33
 refine c_loop (G := Nat) (fun (k : Nat) a_ w_ => Fr 62 (marks []) [(15, (Value.int .i64 (k : Int))), (14, (Value.int .i64 (t.rows.length : Int))), (13, vr), (7, (bptr b24 0)), (6, (bptr b19 0)), (5, (bptr b14 0)), (4, (bptr b9 0)), (3, (bptr b4 0))] a_ ∧ Sep NoB w w_ [(blk b24 4 [(Value.bool false)]), (blk b19 3 [(Value.int .i64 0)]), (blk b14 159 [(Value.func (.func 102) #[] #[])]), (blk b9 3 [(Value.int .i64 x)]), (blk b4 106 [(Value.int .i64 t.frm), (Value.int .i64 t.dst), vr, vb, (Value.int .i64 t.err)]), (marksR []), (sl vr 2 t.rows.length (pairs t.rows)), (sl vb 1 t.brk.length (ints t.brk))] ∧ (k ≤ t.rows.length) ∧ (∀ i, i < k → ¬ tx t i = x)) (fun k => t.rows.length - k) 0 ⟨hA34.as _ rfl, hS25, by omega, (fun _ h => absurd h (Nat.not_lt_zero _))⟩ ?_
 clear hA34 hS25 a32
 rintro k a35 w37 ⟨hA36, hS38, hkk, hrw⟩
 refine c_seq ?_
 refine c_region ?_
 refine st hA36 (op_lss rfl (hA36.ev rfl) (hA36.ev rfl)) rfl rfl (by decide) fun a39 hA40 => ?_; clear hA36 a35
 refine wl_nil ?_
 refine then_n ?_
 refine c_seq ?_
 by_cases hb41 : (k : Int) < (t.rows.length : Int)
 ·skip
  rw [decide_eq_true hb41] at hA40
  refine c_true hA40 rfl ?_
  refine c_skip ?_
  refine then_n ?_
  refine c_seq ?_
  refine c_block ?_
  refine c_seq ?_
  refine c_region ?_
  refine st hA40 (op_indexS rfl un_104 ty_107 (hA40.ev rfl) (i := k) (hA40.ev rfl) (hS38.sk 6 rfl) (by decide) (by omega)) rfl rfl (by decide) fun a42 hA43 => ?_; clear hA40 a39
  refine st hA43 (op_loadAE rfl ty_107 (hA43.ev rfl) (hS38.sk 6 rfl) (pairs_all (by omega)) rfl (by decide)) rfl rfl (by decide) fun a44 hA45 => ?_; clear hA43 a42
  refine stw hA45 (op_alloc hS38 rfl ze_107 (cs := [(Value.int .i64 0), (Value.int .i64 0)]) rfl) rfl rfl (by decide) ?_
  rintro a46 _ w48 ⟨b49, rfl, hS50⟩ hA47; clear hA45 hS38 a44
  refine sts hA47 (op_store hS50 rfl ty_107 (hA47.ev rfl) (hA47.ev rfl) (i := 0) rfl (vs := [(Value.int .i64 ((t.rows.getD k (0, 0)).1)), (Value.int .i64 ((t.rows.getD k (0, 0)).2))]) rfl rfl rfl (Nat.le_of_ble_eq_true rfl)) rfl rfl ?_
  intro _ w51 hS52 hA53; clear hA47
  have hS54 : Sep NoB w w51 [(blk b49 107 [(Value.int .i64 ((t.rows.getD k (0, 0)).1)), (Value.int .i64 ((t.rows.getD k (0, 0)).2))]), (blk b24 4 [(Value.bool false)]), (blk b19 3 [(Value.int .i64 0)]), (blk b14 159 [(Value.func (.func 102) #[] #[])]), (blk b9 3 [(Value.int .i64 x)]), (blk b4 106 [(Value.int .i64 t.frm), (Value.int .i64 t.dst), vr, vb, (Value.int .i64 t.err)]), (marksR []), (sl vr 2 t.rows.length (pairs t.rows)), (sl vb 1 t.brk.length (ints t.brk))] := hS52; clear hS52 hS50
  refine wl_nil ?_
  refine then_n ?_
  refine c_seq ?_
  refine c_region ?_
  refine st hA53 (op_field rfl fd_107_0 (hA53.ev rfl)) rfl rfl (by decide) fun a55 hA56 => ?_; clear hA53 a46
  refine st hA56 (op_load1 rfl ty_3 (hA56.ev rfl) (hS54.bk 0 rfl) rfl) rfl rfl (by decide) fun a57 hA58 => ?_; clear hA56 a55
  refine st hA58 (op_load1 rfl ty_3 (hA58.ev rfl) (hS54.bk 4 rfl) rfl) rfl rfl (by decide) fun a59 hA60 => ?_; clear hA58 a57
  refine st hA60 (op_eql rfl (hA60.ev rfl) (hA60.ev rfl)) rfl rfl (by decide) fun a61 hA62 => ?_; clear hA60 a59
  refine wl_nil ?_
  refine then_n ?_
  by_cases hb63 : ((t.rows.getD k (0, 0)).1) = x
  ·skip
   rw [decide_eq_true hb63] at hA62
   refine c_true hA62 rfl ?_
   refine c_seq ?_
   have hA64 := hA62.as [(9, (bptr b49 0)), (7, (bptr b24 0)), (6, (bptr b19 0))] rfl; clear hA62
   refine c_region ?_
   refine st hA64 (op_field rfl fd_107_1 (hA64.ev rfl)) rfl rfl (by decide) fun a65 hA66 => ?_; clear hA64 a61
   refine st hA66 (op_load1 rfl ty_3 (hA66.ev rfl) (hS54.bk 0 rfl) rfl) rfl rfl (by decide) fun a67 hA68 => ?_; clear hA66 a65
   refine sts hA68 (op_store hS54 rfl ty_3 (hA68.ev rfl) (hA68.ev rfl) (i := 2) rfl (vs := [(Value.int .i64 ((t.rows.getD k (0, 0)).2))]) rfl rfl rfl (Nat.le_of_ble_eq_true rfl)) rfl rfl ?_
   intro _ w69 hS70 hA71; clear hA68
   have hS72 : Sep NoB w w69 [(blk b49 107 [(Value.int .i64 ((t.rows.getD k (0, 0)).1)), (Value.int .i64 ((t.rows.getD k (0, 0)).2))]), (blk b24 4 [(Value.bool false)]), (blk b19 3 [(Value.int .i64 ((t.rows.getD k (0, 0)).2))]), (blk b14 159 [(Value.func (.func 102) #[] #[])]), (blk b9 3 [(Value.int .i64 x)]), (blk b4 106 [(Value.int .i64 t.frm), (Value.int .i64 t.dst), vr, vb, (Value.int .i64 t.err)]), (marksR []), (sl vr 2 t.rows.length (pairs t.rows)), (sl vb 1 t.brk.length (ints t.brk))] := hS70; clear hS70 hS54
   refine sts hA71 (op_store hS72 rfl ty_4 (hA71.ev rfl) (evc _ _) (i := 1) rfl (vs := [(Value.bool true)]) rfl rfl rfl (Nat.le_of_ble_eq_true rfl)) rfl rfl ?_
   intro _ w73 hS74 hA75; clear hA71
   have hS76 : Sep NoB w w73 [(blk b49 107 [(Value.int .i64 ((t.rows.getD k (0, 0)).1)), (Value.int .i64 ((t.rows.getD k (0, 0)).2))]), (blk b24 4 [(Value.bool true)]), (blk b19 3 [(Value.int .i64 ((t.rows.getD k (0, 0)).2))]), (blk b14 159 [(Value.func (.func 102) #[] #[])]), (blk b9 3 [(Value.int .i64 x)]), (blk b4 106 [(Value.int .i64 t.frm), (Value.int .i64 t.dst), vr, vb, (Value.int .i64 t.err)]), (marksR []), (sl vr 2 t.rows.length (pairs t.rows)), (sl vb 1 t.brk.length (ints t.brk))] := hS74; clear hS74 hS72
   refine wl_nil ?_
   refine then_n ?_
   refine c_ret ?_
   refine blk_ret ?_
   refine then_ret ?_
   refine then_ret ?_
   refine blk_ret ?_
   refine then_ret ?_
   have hS77 : Sep NoB w w73 [(marksR []), (blk b49 107 [(Value.int .i64 ((t.rows.getD k (0, 0)).1)), (Value.int .i64 ((t.rows.getD k (0, 0)).2))]), (blk b24 4 [(Value.bool true)]), (blk b19 3 [(Value.int .i64 ((t.rows.getD k (0, 0)).2))]), (blk b14 159 [(Value.func (.func 102) #[] #[])]), (blk b9 3 [(Value.int .i64 x)]), (blk b4 106 [(Value.int .i64 t.frm), (Value.int .i64 t.dst), vr, vb, (Value.int .i64 t.err)]), (sl vr 2 t.rows.length (pairs t.rows)), (sl vb 1 t.brk.length (ints t.brk))] := hS76.keep [6, 0, 1, 2, 3, 4, 5, 7, 8] (by decide) _ rfl rfl; clear hS76
   refine fin_runM hA75 (.inl rfl) hS77 ?_
   intro w78 hS79; clear hS77
   refine ⟨_, (run_results2 hA75 rfl (.cell1 rfl ty_3 (hS79.bk 2 rfl) rfl) (.cell1 rfl ty_4 (hS79.bk 1 rfl) rfl)), ?_⟩
   have hz := (made_row (k := k) (by omega) (fun i hi => hrw i (by omega)) (by assumption))
   exact ⟨by unfold madeV; rw [hz]; rfl, hS79.ext⟩
  ·skip
   rw [decide_eq_false hb63] at hA62
   refine c_false hA62 rfl ?_
   refine c_skip ?_
   refine blk_n ?_
   refine then_n ?_
   have hA80 := hA62.as [(15, (Value.int .i64 (k : Int))), (14, (Value.int .i64 (t.rows.length : Int))), (13, vr), (7, (bptr b24 0)), (6, (bptr b19 0)), (5, (bptr b14 0)), (4, (bptr b9 0)), (3, (bptr b4 0))] rfl; clear hA62
   refine c_region ?_
   refine st hA80 (op_add rfl (hA80.ev rfl) (evc _ _) (by omega) (by omega)) rfl rfl (by decide) fun a81 hA82 => ?_; clear hA80 a61
   refine st hA82 (op_move rfl (hA82.ev rfl)) rfl rfl (by decide) fun a83 hA84 => ?_; clear hA82 a81
   refine wl_nil ?_
   have hS85 : Sep NoB w w51 [(blk b24 4 [(Value.bool false)]), (blk b19 3 [(Value.int .i64 0)]), (blk b14 159 [(Value.func (.func 102) #[] #[])]), (blk b9 3 [(Value.int .i64 x)]), (blk b4 106 [(Value.int .i64 t.frm), (Value.int .i64 t.dst), vr, vb, (Value.int .i64 t.err)]), (marksR []), (sl vr 2 t.rows.length (pairs t.rows)), (sl vb 1 t.brk.length (ints t.brk))] := hS54.keep [1, 2, 3, 4, 5, 6, 7, 8] (by decide) _ rfl rfl; clear hS54
   exact then_n ⟨k + 1, ⟨hA84.as _ rfl, hS85, by omega, (fun i hi => by rcases Nat.lt_succ_iff_lt_or_eq.1 hi with h | h; exact hrw i h; subst h; assumption)⟩, by omega⟩
 ·skip
  rw [decide_eq_false hb41] at hA40
  refine c_false hA40 rfl ?_
  refine c_exit ?_
  refine then_exit ?_
  refine then_exit ?_
  refine blk_hit ?_
  refine then_n ?_
  refine c_seq ?_
  refine c_seq ?_
  refine c_region ?_
  refine st hA40 (op_loadA rfl ty_106 (hA40.ev rfl) (hS38.bk 4 rfl) (l := [(Value.int .i64 t.frm), (Value.int .i64 t.dst), vr, vb, (Value.int .i64 t.err)]) rfl rfl) rfl rfl (by decide) fun a86 hA87 => ?_; clear hA40 a39
  refine stw hA87 (op_call rfl en_116 (ev1 (hA87.ev rfl)) (pieces_ok t vr vb _ hr.one hb.one)) rfl rfl (by decide) ?_
  rintro a88 _ w90 ⟨bl93, rfl, hT91⟩ hA89; have hS92 := hS38.callS hT91 rfl; clear hT91 hA87 hS38 a86
  refine wl_nil ?_
  refine then_n ?_
  refine c_block ?_
  have hA94 := hA89.as [(27, (Value.func (.func 121) #[] #[(bptr bl93 0)])), (7, (bptr b24 0)), (6, (bptr b19 0)), (5, (bptr b14 0)), (4, (bptr b9 0))] rfl; clear hA89
  have hS95 := hS92.nilR; clear hS92
  have hS96 : Sep NoB w w90 [(marksR []), nilR, (blk bl93 106 [(Value.int .i64 t.frm), (Value.int .i64 t.dst), vr, vb, (Value.int .i64 t.err)]), (blk b24 4 [(Value.bool false)]), (blk b19 3 [(Value.int .i64 0)]), (blk b14 159 [(Value.func (.func 102) #[] #[])]), (blk b9 3 [(Value.int .i64 x)]), (blk b4 106 [(Value.int .i64 t.frm), (Value.int .i64 t.dst), vr, vb, (Value.int .i64 t.err)]), (sl vr 2 t.rows.length (pairs t.rows)), (sl vb 1 t.brk.length (ints t.brk))] := hS95.keep [7, 0, 1, 2, 3, 4, 5, 6, 8, 9] (by decide) _ rfl rfl; clear hS95
  refine c_rangeG hA94 nilR rfl hS96 (hA94.ev rfl) en_121 ((goodF t).length) (fun q => #[.agg #[.int .i64 (t.rows.getD ((goodF t).getD q 0) (0, 0)).1, .int .i64 (t.rows.getD ((goodF t).getD q 0) (0, 0)).2], .agg #[.int .i64 (t.rows.getD ((goodF t).getD q 0 + 1) (0, 0)).1, .int .i64 (t.rows.getD ((goodF t).getD q 0 + 1) (0, 0)).2]]) (fun _ => rfl) [rob bl93 106 [.int .i64 t.frm, .int .i64 t.dst, vr, vb, .int .i64 t.err], sl vr 2 t.rows.length (pairs t.rows), sl vb 1 t.brk.length (ints t.brk)] (fun r hr => by simp only [List.mem_cons, List.not_mem_nil, or_false] at hr; rcases hr with rfl | rfl | rfl <;> rfl) (pieces_it bl93 t vr vb hV.len hrl hbl) (fun q L_ => L_ = [(blk bl93 106 [(Value.int .i64 t.frm), (Value.int .i64 t.dst), vr, vb, (Value.int .i64 t.err)]), (blk b24 4 [(Value.bool false)]), (blk b19 3 [(Value.int .i64 0)]), (blk b14 159 [(Value.func (.func 102) #[] #[])]), (blk b9 3 [(Value.int .i64 x)]), (blk b4 106 [(Value.int .i64 t.frm), (Value.int .i64 t.dst), vr, vb, (Value.int .i64 t.err)]), (sl vr 2 t.rows.length (pairs t.rows)), (sl vb 1 t.brk.length (ints t.brk))] ∧ (∀ j, j < q → inPiece t x ((goodF t).getD j 0) = false)) (fun L_ => L_ = [(blk bl93 106 [(Value.int .i64 t.frm), (Value.int .i64 t.dst), vr, vb, (Value.int .i64 t.err)]), (blk b24 4 [(Value.bool true)]), (blk b19 3 [(Value.int .i64 ((madeV t x).1))]), (blk b14 159 [(Value.func (.func 102) #[] #[])]), (blk b9 3 [(Value.int .i64 x)]), (blk b4 106 [(Value.int .i64 t.frm), (Value.int .i64 t.dst), vr, vb, (Value.int .i64 t.err)]), (sl vr 2 t.rows.length (pairs t.rows)), (sl vb 1 t.brk.length (ints t.brk))] ∧ ((madeF t x).isSome = true)) (some .ret) ⟨rfl, (fun _ h => absurd h (Nat.not_lt_zero _))⟩ (fun q L_ hI_ G_ W_ r1_ r2_ hW_ => by obtain ⟨rfl, hpc⟩ := hI_; exact (Sep.keep (hW_.to_ro (i := 3) rfl) [2, 3, 9, 10] (by decide) _ rfl rfl)) (fun L_ hI_ G_ W_ r1_ r2_ hW_ => by obtain ⟨rfl, hsm⟩ := hI_; exact (Sep.keep (hW_.to_ro (i := 3) rfl) [2, 3, 9, 10] (by decide) _ rfl rfl)) ?_ ?_ ?_
  ·skip
   intro q hq L_ hL_ G105 hG106 l102 D103 rc104 a97 w98 ha101 hS99; obtain ⟨rfl, hpc⟩ := hL_
   have hA100 : Fr 62 [] [(29, (Value.agg #[(Value.int .i64 ((t.rows.getD (((goodF t).getD q 0) + 1) (0, 0)).1)), (Value.int .i64 ((t.rows.getD (((goodF t).getD q 0) + 1) (0, 0)).2))])), (28, (Value.agg #[(Value.int .i64 ((t.rows.getD (((goodF t).getD q 0)) (0, 0)).1)), (Value.int .i64 ((t.rows.getD (((goodF t).getD q 0)) (0, 0)).2))])), (27, (Value.func (.func 121) #[] #[(bptr bl93 0)])), (7, (bptr b24 0)), (6, (bptr b19 0)), (5, (bptr b14 0)), (4, (bptr b9 0))] a97 := by rw [ha101]; exact Fr.round2 hA94 (by decide) (by decide)
   clear ha101 hS96
   have hgq : ((goodF t).getD q 0) < t.rows.length - 1 := (good_mem hq).1; have hbn := hV.bnd _ (show ((goodF t).getD q 0) < t.rows.length by omega); have hbn1 := hV.bnd (((goodF t).getD q 0) + 1) (by omega); unfold tx ty at hbn hbn1
   refine c_seq ?_
   refine c_region ?_
   refine stw hA100 (op_alloc hS99 rfl ze_107 (cs := [(Value.int .i64 0), (Value.int .i64 0)]) rfl) rfl rfl (by decide) ?_
   rintro a107 _ w109 ⟨b110, rfl, hS111⟩ hA108; clear hA100 hS99 a97
   refine sts hA108 (op_store hS111 rfl ty_107 (hA108.ev rfl) (hA108.ev rfl) (i := 0) rfl (vs := [(Value.int .i64 ((t.rows.getD (((goodF t).getD q 0)) (0, 0)).1)), (Value.int .i64 ((t.rows.getD (((goodF t).getD q 0)) (0, 0)).2))]) rfl rfl rfl (Nat.le_of_ble_eq_true rfl)) rfl rfl ?_
   intro _ w112 hS113 hA114; clear hA108
   have hS115 : Sep NoB w w112 [(blk b110 107 [(Value.int .i64 ((t.rows.getD (((goodF t).getD q 0)) (0, 0)).1)), (Value.int .i64 ((t.rows.getD (((goodF t).getD q 0)) (0, 0)).2))]), (obR l102 (.loop (rc104 .ready none))), (marksR (D103 :: [])), G105, (blk bl93 106 [(Value.int .i64 t.frm), (Value.int .i64 t.dst), vr, vb, (Value.int .i64 t.err)]), (blk b24 4 [(Value.bool false)]), (blk b19 3 [(Value.int .i64 0)]), (blk b14 159 [(Value.func (.func 102) #[] #[])]), (blk b9 3 [(Value.int .i64 x)]), (blk b4 106 [(Value.int .i64 t.frm), (Value.int .i64 t.dst), vr, vb, (Value.int .i64 t.err)]), (sl vr 2 t.rows.length (pairs t.rows)), (sl vb 1 t.brk.length (ints t.brk))] := hS113; clear hS113 hS111
   refine wl_nil ?_
   refine then_n ?_
   refine c_region ?_
   refine stw hA114 (op_alloc hS115 rfl ze_107 (cs := [(Value.int .i64 0), (Value.int .i64 0)]) rfl) rfl rfl (by decide) ?_
   rintro a116 _ w118 ⟨b119, rfl, hS120⟩ hA117; clear hA114 hS115 a107
   refine sts hA117 (op_store hS120 rfl ty_107 (hA117.ev rfl) (hA117.ev rfl) (i := 0) rfl (vs := [(Value.int .i64 ((t.rows.getD (((goodF t).getD q 0) + 1) (0, 0)).1)), (Value.int .i64 ((t.rows.getD (((goodF t).getD q 0) + 1) (0, 0)).2))]) rfl rfl rfl (Nat.le_of_ble_eq_true rfl)) rfl rfl ?_
   intro _ w121 hS122 hA123; clear hA117
   have hS124 : Sep NoB w w121 [(blk b119 107 [(Value.int .i64 ((t.rows.getD (((goodF t).getD q 0) + 1) (0, 0)).1)), (Value.int .i64 ((t.rows.getD (((goodF t).getD q 0) + 1) (0, 0)).2))]), (blk b110 107 [(Value.int .i64 ((t.rows.getD (((goodF t).getD q 0)) (0, 0)).1)), (Value.int .i64 ((t.rows.getD (((goodF t).getD q 0)) (0, 0)).2))]), (obR l102 (.loop (rc104 .ready none))), (marksR (D103 :: [])), G105, (blk bl93 106 [(Value.int .i64 t.frm), (Value.int .i64 t.dst), vr, vb, (Value.int .i64 t.err)]), (blk b24 4 [(Value.bool false)]), (blk b19 3 [(Value.int .i64 0)]), (blk b14 159 [(Value.func (.func 102) #[] #[])]), (blk b9 3 [(Value.int .i64 x)]), (blk b4 106 [(Value.int .i64 t.frm), (Value.int .i64 t.dst), vr, vb, (Value.int .i64 t.err)]), (sl vr 2 t.rows.length (pairs t.rows)), (sl vb 1 t.brk.length (ints t.brk))] := hS122; clear hS122 hS120
   refine wl_nil ?_
   have hS125 : Sep NoB w w121 [(obR l102 (.loop (rc104 .ready none))), (marksR (D103 :: [])), G105, (blk b119 107 [(Value.int .i64 ((t.rows.getD (((goodF t).getD q 0) + 1) (0, 0)).1)), (Value.int .i64 ((t.rows.getD (((goodF t).getD q 0) + 1) (0, 0)).2))]), (blk b110 107 [(Value.int .i64 ((t.rows.getD (((goodF t).getD q 0)) (0, 0)).1)), (Value.int .i64 ((t.rows.getD (((goodF t).getD q 0)) (0, 0)).2))]), (blk bl93 106 [(Value.int .i64 t.frm), (Value.int .i64 t.dst), vr, vb, (Value.int .i64 t.err)]), (blk b24 4 [(Value.bool false)]), (blk b19 3 [(Value.int .i64 0)]), (blk b14 159 [(Value.func (.func 102) #[] #[])]), (blk b9 3 [(Value.int .i64 x)]), (blk b4 106 [(Value.int .i64 t.frm), (Value.int .i64 t.dst), vr, vb, (Value.int .i64 t.err)]), (sl vr 2 t.rows.length (pairs t.rows)), (sl vb 1 t.brk.length (ints t.brk))] := hS124.keep [2, 3, 4, 0, 1, 5, 6, 7, 8, 9, 10, 11, 12] (by decide) _ rfl rfl; clear hS124
   refine ⟨rfl, _, hS125, ?_⟩; intro w126 hS127; clear hS125
   refine c_block ?_
   refine c_seq ?_
   refine c_region ?_
   refine st hA123 (op_field rfl fd_107_0 (hA123.ev rfl)) rfl rfl (by decide) fun a128 hA129 => ?_; clear hA123 a116
   refine st hA129 (op_load1 rfl ty_3 (hA129.ev rfl) (hS127.bk 4 rfl) rfl) rfl rfl (by decide) fun a130 hA131 => ?_; clear hA129 a128
   refine st hA131 (op_load1 rfl ty_3 (hA131.ev rfl) (hS127.bk 9 rfl) rfl) rfl rfl (by decide) fun a132 hA133 => ?_; clear hA131 a130
   refine st hA133 (op_lss rfl (hA133.ev rfl) (hA133.ev rfl)) rfl rfl (by decide) fun a134 hA135 => ?_; clear hA133 a132
   refine st hA135 (op_move rfl (hA135.ev rfl)) rfl rfl (by decide) fun a136 hA137 => ?_; clear hA135 a134
   by_cases hb138 : ((t.rows.getD (((goodF t).getD q 0)) (0, 0)).1) < x
   ·skip
    rw [decide_eq_true hb138] at hA137
    refine stg hA137 (op_load1 rfl ty_3 (hA137.ev rfl) (hS127.bk 9 rfl) rfl) rfl rfl rfl rfl (by decide) fun a139 hA140 => ?_; clear hA137 a136
    refine stg hA140 (op_field rfl fd_107_0 (hA140.ev rfl)) rfl rfl rfl rfl (by decide) fun a141 hA142 => ?_; clear hA140 a139
    refine stg hA142 (op_load1 rfl ty_3 (hA142.ev rfl) (hS127.bk 3 rfl) rfl) rfl rfl rfl rfl (by decide) fun a143 hA144 => ?_; clear hA142 a141
    refine stg hA144 (op_lss rfl (hA144.ev rfl) (hA144.ev rfl)) rfl rfl rfl rfl (by decide) fun a145 hA146 => ?_; clear hA144 a143
    refine st hA146 (op_pick_t rfl (hA146.ev rfl) (hA146.ev rfl)) rfl rfl (by decide) fun a147 hA148 => ?_; clear hA146 a145
    refine wl_nil ?_
    refine then_n ?_
    by_cases hb149 : x < ((t.rows.getD (((goodF t).getD q 0) + 1) (0, 0)).1)
    ·skip
     rw [decide_eq_true hb149] at hA148
     have hpb := piece_bds (v := x) (k := ((goodF t).getD q 0)) hV (by omega) (by unfold tx; omega) (by unfold tx; omega); unfold pieceN pieceD tx ty at hpb; have hdb := downF_bd hpb.1 hpb.2; have hub := upF_bd hpb.1 hpb.2
     refine c_true hA148 rfl ?_
     refine c_seq ?_
     have hA150 := hA148.as [(11, (bptr b119 0)), (10, (bptr b110 0)), (7, (bptr b24 0)), (6, (bptr b19 0)), (5, (bptr b14 0)), (4, (bptr b9 0))] rfl; clear hA148
     have hA151 := hA150.as [(11, (bptr b119 0)), (10, (bptr b110 0)), (7, (bptr b24 0)), (6, (bptr b19 0)), (5, (bptr b14 0)), (4, (bptr b9 0))] rfl; clear hA150
     refine c_drawn mixed hA151 hS127 21 [[], [0], [], [2], [], [], [5], [4, 6], [], [8], [], [10], [9, 11], [7, 12], [], [14], [], [16], [15, 17], [13, 18], [3, 19]] [(Yd.val (bptr b110 1)), (Yd.val (Value.int .i64 ((t.rows.getD (((goodF t).getD q 0)) (0, 0)).2))), (Yd.val (bptr b14 0)), (Yd.val (Value.func (.func 102) #[] #[])), (Yd.val (Value.int .i64 x)), (Yd.val (bptr b110 0)), (Yd.val (Value.int .i64 ((t.rows.getD (((goodF t).getD q 0)) (0, 0)).1))), (Yd.val (Value.int .i64 (x - ((t.rows.getD (((goodF t).getD q 0)) (0, 0)).1)))), (Yd.val (bptr b119 1)), (Yd.val (Value.int .i64 ((t.rows.getD (((goodF t).getD q 0) + 1) (0, 0)).2))), (Yd.val (bptr b110 1)), (Yd.val (Value.int .i64 ((t.rows.getD (((goodF t).getD q 0)) (0, 0)).2))), (Yd.val (Value.int .i64 (((t.rows.getD (((goodF t).getD q 0) + 1) (0, 0)).2) - ((t.rows.getD (((goodF t).getD q 0)) (0, 0)).2)))), (Yd.val (Value.int .i64 ((x - ((t.rows.getD (((goodF t).getD q 0)) (0, 0)).1)) * (((t.rows.getD (((goodF t).getD q 0) + 1) (0, 0)).2) - ((t.rows.getD (((goodF t).getD q 0)) (0, 0)).2))))), (Yd.val (bptr b119 0)), (Yd.val (Value.int .i64 ((t.rows.getD (((goodF t).getD q 0) + 1) (0, 0)).1))), (Yd.val (bptr b110 0)), (Yd.val (Value.int .i64 ((t.rows.getD (((goodF t).getD q 0)) (0, 0)).1))), (Yd.val (Value.int .i64 (((t.rows.getD (((goodF t).getD q 0) + 1) (0, 0)).1) - ((t.rows.getD (((goodF t).getD q 0)) (0, 0)).1)))), (Yd.val (Value.agg #[(Value.int .i64 ((x - ((t.rows.getD (((goodF t).getD q 0)) (0, 0)).1)) * (((t.rows.getD (((goodF t).getD q 0) + 1) (0, 0)).2) - ((t.rows.getD (((goodF t).getD q 0)) (0, 0)).2)))), (Value.int .i64 (((t.rows.getD (((goodF t).getD q 0) + 1) (0, 0)).1) - ((t.rows.getD (((goodF t).getD q 0)) (0, 0)).1)))])), (Yd.val (Value.int .i64 (downF ((x - ((t.rows.getD (((goodF t).getD q 0)) (0, 0)).1)) * (((t.rows.getD (((goodF t).getD q 0) + 1) (0, 0)).2) - ((t.rows.getD (((goodF t).getD q 0)) (0, 0)).2))) (((t.rows.getD (((goodF t).getD q 0) + 1) (0, 0)).1) - ((t.rows.getD (((goodF t).getD q 0)) (0, 0)).1)))))] (by decide +kernel) rfl rfl ?_ ?_
     ·skip
      refine ⟨fun a w hA hS hd => ?_, ?_⟩
      ·skip
       exact opG_of rfl (dv (op_field rfl fd_107_1 (hA.ev rfl)) hS rfl)
      refine ⟨fun a w hA hS hd => ?_, ?_⟩
      ·skip
       have e0 := has_ev (hd 0 (by decide)) rfl (fun _ h => h)
       exact opG_of rfl (dv (op_load1 rfl ty_3 (tmp_ev e0) (hS.bk 4 rfl) rfl) hS rfl)
      refine ⟨fun a w hA hS hd => ?_, ?_⟩
      ·skip
       exact opG_of rfl (dv (op_field rfl fd_159_0 (hA.ev rfl)) hS rfl)
      refine ⟨fun a w hA hS hd => ?_, ?_⟩
      ·skip
       have e2 := has_ev (hd 2 (by decide)) rfl (fun _ h => h)
       exact opG_of rfl (dv (op_load1 rfl ty_154 (tmp_ev e2) (hS.bk 8 rfl) rfl) hS rfl)
      refine ⟨fun a w hA hS hd => ?_, ?_⟩
      ·skip
       exact opG_of rfl (dv (op_load1 rfl ty_3 (hA.ev rfl) (hS.bk 9 rfl) rfl) hS rfl)
      refine ⟨fun a w hA hS hd => ?_, ?_⟩
      ·skip
       exact opG_of rfl (dv (op_field rfl fd_107_0 (hA.ev rfl)) hS rfl)
      refine ⟨fun a w hA hS hd => ?_, ?_⟩
      ·skip
       have e5 := has_ev (hd 5 (by decide)) rfl (fun _ h => h)
       exact opG_of rfl (dv (op_load1 rfl ty_3 (tmp_ev e5) (hS.bk 4 rfl) rfl) hS rfl)
      refine ⟨fun a w hA hS hd => ?_, ?_⟩
      ·skip
       have e4 := has_ev (hd 4 (by decide)) rfl (fun _ h => h)
       have e6 := has_ev (hd 6 (by decide)) rfl (fun _ h => h)
       exact opG_of rfl (dv (op_sub rfl (tmp_ev e4) (tmp_ev e6) (by omega) (by omega)) hS rfl)
      refine ⟨fun a w hA hS hd => ?_, ?_⟩
      ·skip
       exact opG_of rfl (dv (op_field rfl fd_107_1 (hA.ev rfl)) hS rfl)
      refine ⟨fun a w hA hS hd => ?_, ?_⟩
      ·skip
       have e8 := has_ev (hd 8 (by decide)) rfl (fun _ h => h)
       exact opG_of rfl (dv (op_load1 rfl ty_3 (tmp_ev e8) (hS.bk 3 rfl) rfl) hS rfl)
      refine ⟨fun a w hA hS hd => ?_, ?_⟩
      ·skip
       exact opG_of rfl (dv (op_field rfl fd_107_1 (hA.ev rfl)) hS rfl)
      refine ⟨fun a w hA hS hd => ?_, ?_⟩
      ·skip
       have e10 := has_ev (hd 10 (by decide)) rfl (fun _ h => h)
       exact opG_of rfl (dv (op_load1 rfl ty_3 (tmp_ev e10) (hS.bk 4 rfl) rfl) hS rfl)
      refine ⟨fun a w hA hS hd => ?_, ?_⟩
      ·skip
       have e9 := has_ev (hd 9 (by decide)) rfl (fun _ h => h)
       have e11 := has_ev (hd 11 (by decide)) rfl (fun _ h => h)
       exact opG_of rfl (dv (op_sub rfl (tmp_ev e9) (tmp_ev e11) (by omega) (by omega)) hS rfl)
      refine ⟨fun a w hA hS hd => ?_, ?_⟩
      ·skip
       have e7 := has_ev (hd 7 (by decide)) rfl (fun _ h => h)
       have e12 := has_ev (hd 12 (by decide)) rfl (fun _ h => h)
       exact opG_of rfl (dv (op_mul rfl (tmp_ev e7) (tmp_ev e12) (by omega) (by omega)) hS rfl)
      refine ⟨fun a w hA hS hd => ?_, ?_⟩
      ·skip
       exact opG_of rfl (dv (op_field rfl fd_107_0 (hA.ev rfl)) hS rfl)
      refine ⟨fun a w hA hS hd => ?_, ?_⟩
      ·skip
       have e14 := has_ev (hd 14 (by decide)) rfl (fun _ h => h)
       exact opG_of rfl (dv (op_load1 rfl ty_3 (tmp_ev e14) (hS.bk 3 rfl) rfl) hS rfl)
      refine ⟨fun a w hA hS hd => ?_, ?_⟩
      ·skip
       exact opG_of rfl (dv (op_field rfl fd_107_0 (hA.ev rfl)) hS rfl)
      refine ⟨fun a w hA hS hd => ?_, ?_⟩
      ·skip
       have e16 := has_ev (hd 16 (by decide)) rfl (fun _ h => h)
       exact opG_of rfl (dv (op_load1 rfl ty_3 (tmp_ev e16) (hS.bk 4 rfl) rfl) hS rfl)
      refine ⟨fun a w hA hS hd => ?_, ?_⟩
      ·skip
       have e15 := has_ev (hd 15 (by decide)) rfl (fun _ h => h)
       have e17 := has_ev (hd 17 (by decide)) rfl (fun _ h => h)
       exact opG_of rfl (dv (op_sub rfl (tmp_ev e15) (tmp_ev e17) (by omega) (by omega)) hS rfl)
      refine ⟨fun a w hA hS hd => ?_, ?_⟩
      ·skip
       have e13 := has_ev (hd 13 (by decide)) rfl (fun _ h => h)
       have e18 := has_ev (hd 18 (by decide)) rfl (fun _ h => h)
       exact opG_of rfl (dv (op_build rfl (pv2 (tmp_ev e13) (tmp_ev e18)) (bd_157_0i_1i _ _)) hS rfl)
      refine ⟨fun a w hA hS hd => ?_, ?_⟩
      ·skip
       have e3 := has_ev (hd 3 (by decide)) rfl (fun _ h => h)
       have e19 := has_ev (hd 19 (by decide)) rfl (fun _ h => h)
       exact opG_of rfl (dx (op_callv rfl (tmp_ev e3) en_102 (ev1 (tmp_ev e19)) (down_ok _ _ _ (by omega) (by omega))) hS (fun _ => rfl))
      trivial
     intro a152 w153 hA154 hS155 hH156; clear hA151 hS127
     have hA158 := hA154.add (has_ev (hH156 1 (by decide)) rfl (fun _ h => h)); clear hA154
     have hA159 := hA158.add (has_ev (hH156 20 (by decide)) rfl (fun _ h => h)); clear hA158
     clear hH156
     refine st hA159 (op_add rfl (hA159.ev rfl) (hA159.ev rfl) (by omega) (by omega)) rfl rfl (by decide) fun a160 hA161 => ?_; clear hA159 a152
     have hvl : ((t.rows.getD (((goodF t).getD q 0)) (0, 0)).2) + (downF ((x - ((t.rows.getD (((goodF t).getD q 0)) (0, 0)).1)) * (((t.rows.getD (((goodF t).getD q 0) + 1) (0, 0)).2) - ((t.rows.getD (((goodF t).getD q 0)) (0, 0)).2))) (((t.rows.getD (((goodF t).getD q 0) + 1) (0, 0)).1) - ((t.rows.getD (((goodF t).getD q 0)) (0, 0)).1))) = (madeV t x).1 := by unfold madeV; rw [made_good (fun i hi => hrw i (by omega)) hq hpc (good_piece hq (by assumption) (by assumption))]; rfl
     have hA162 : Fr 62 [] [(61, (Value.int .i64 ((madeV t x).1))), (60, (Value.int .i64 (downF ((x - ((t.rows.getD (((goodF t).getD q 0)) (0, 0)).1)) * (((t.rows.getD (((goodF t).getD q 0) + 1) (0, 0)).2) - ((t.rows.getD (((goodF t).getD q 0)) (0, 0)).2))) (((t.rows.getD (((goodF t).getD q 0) + 1) (0, 0)).1) - ((t.rows.getD (((goodF t).getD q 0)) (0, 0)).1))))), (41, (Value.int .i64 ((t.rows.getD (((goodF t).getD q 0)) (0, 0)).2))), (11, (bptr b119 0)), (10, (bptr b110 0)), (7, (bptr b24 0)), (6, (bptr b19 0)), (5, (bptr b14 0)), (4, (bptr b9 0))] a160 := by rw [← hvl]; exact hA161
     refine sts hA162 (op_store hS155 rfl ty_3 (hA162.ev rfl) (hA162.ev rfl) (i := 7) rfl (vs := [(Value.int .i64 ((madeV t x).1))]) rfl rfl rfl (Nat.le_of_ble_eq_true rfl)) rfl rfl ?_
     intro _ w163 hS164 hA165; clear hA162
     have hS166 : Sep NoB w w163 [(obR l102 (.loop (rc104 .busy none))), (marksR (D103 :: [])), G105, (blk b119 107 [(Value.int .i64 ((t.rows.getD (((goodF t).getD q 0) + 1) (0, 0)).1)), (Value.int .i64 ((t.rows.getD (((goodF t).getD q 0) + 1) (0, 0)).2))]), (blk b110 107 [(Value.int .i64 ((t.rows.getD (((goodF t).getD q 0)) (0, 0)).1)), (Value.int .i64 ((t.rows.getD (((goodF t).getD q 0)) (0, 0)).2))]), (blk bl93 106 [(Value.int .i64 t.frm), (Value.int .i64 t.dst), vr, vb, (Value.int .i64 t.err)]), (blk b24 4 [(Value.bool false)]), (blk b19 3 [(Value.int .i64 ((madeV t x).1))]), (blk b14 159 [(Value.func (.func 102) #[] #[])]), (blk b9 3 [(Value.int .i64 x)]), (blk b4 106 [(Value.int .i64 t.frm), (Value.int .i64 t.dst), vr, vb, (Value.int .i64 t.err)]), (sl vr 2 t.rows.length (pairs t.rows)), (sl vb 1 t.brk.length (ints t.brk))] := hS164; clear hS164 hS155
     refine sts hA165 (op_store hS166 rfl ty_4 (hA165.ev rfl) (evc _ _) (i := 6) rfl (vs := [(Value.bool true)]) rfl rfl rfl (Nat.le_of_ble_eq_true rfl)) rfl rfl ?_
     intro _ w167 hS168 hA169; clear hA165
     have hS170 : Sep NoB w w167 [(obR l102 (.loop (rc104 .busy none))), (marksR (D103 :: [])), G105, (blk b119 107 [(Value.int .i64 ((t.rows.getD (((goodF t).getD q 0) + 1) (0, 0)).1)), (Value.int .i64 ((t.rows.getD (((goodF t).getD q 0) + 1) (0, 0)).2))]), (blk b110 107 [(Value.int .i64 ((t.rows.getD (((goodF t).getD q 0)) (0, 0)).1)), (Value.int .i64 ((t.rows.getD (((goodF t).getD q 0)) (0, 0)).2))]), (blk bl93 106 [(Value.int .i64 t.frm), (Value.int .i64 t.dst), vr, vb, (Value.int .i64 t.err)]), (blk b24 4 [(Value.bool true)]), (blk b19 3 [(Value.int .i64 ((madeV t x).1))]), (blk b14 159 [(Value.func (.func 102) #[] #[])]), (blk b9 3 [(Value.int .i64 x)]), (blk b4 106 [(Value.int .i64 t.frm), (Value.int .i64 t.dst), vr, vb, (Value.int .i64 t.err)]), (sl vr 2 t.rows.length (pairs t.rows)), (sl vb 1 t.brk.length (ints t.brk))] := hS168; clear hS168 hS166
     refine wl_nil ?_
     refine then_n ?_
     refine c_ret ?_
     refine blk_ret ?_
     have hS171 : Sep NoB w w167 [(obR l102 (.loop (rc104 .busy none))), (marksR (D103 :: [])), G105, (blk bl93 106 [(Value.int .i64 t.frm), (Value.int .i64 t.dst), vr, vb, (Value.int .i64 t.err)]), (blk b24 4 [(Value.bool true)]), (blk b19 3 [(Value.int .i64 ((madeV t x).1))]), (blk b14 159 [(Value.func (.func 102) #[] #[])]), (blk b9 3 [(Value.int .i64 x)]), (blk b4 106 [(Value.int .i64 t.frm), (Value.int .i64 t.dst), vr, vb, (Value.int .i64 t.err)]), (sl vr 2 t.rows.length (pairs t.rows)), (sl vb 1 t.brk.length (ints t.brk))] := hS170.keep [0, 1, 2, 5, 6, 7, 8, 9, 10, 11, 12] (by decide) _ rfl rfl; clear hS170
     exact re_ret rfl ⟨_, rfl, ⟨rfl, (by rw [made_good (fun i hi => hrw i (by omega)) hq hpc (good_piece hq (by assumption) (by assumption))]; rfl)⟩⟩ hS171
    ·skip
     rw [decide_eq_false hb149] at hA148
     refine c_false hA148 rfl ?_
     refine c_skip ?_
     refine blk_n ?_
     have hS172 : Sep NoB w w126 [(obR l102 (.loop (rc104 .busy none))), (marksR (D103 :: [])), G105, (blk bl93 106 [(Value.int .i64 t.frm), (Value.int .i64 t.dst), vr, vb, (Value.int .i64 t.err)]), (blk b24 4 [(Value.bool false)]), (blk b19 3 [(Value.int .i64 0)]), (blk b14 159 [(Value.func (.func 102) #[] #[])]), (blk b9 3 [(Value.int .i64 x)]), (blk b4 106 [(Value.int .i64 t.frm), (Value.int .i64 t.dst), vr, vb, (Value.int .i64 t.err)]), (sl vr 2 t.rows.length (pairs t.rows)), (sl vb 1 t.brk.length (ints t.brk))] := hS127.keep [0, 1, 2, 5, 6, 7, 8, 9, 10, 11, 12] (by decide) _ rfl rfl; clear hS127
     exact re_n ⟨_, rfl, ⟨rfl, (fun j hj => by rcases Nat.lt_succ_iff_lt_or_eq.1 hj with h | h; exact hpc j h; subst h; first | exact piece_n (.inl (by assumption)) | exact piece_n (.inr (.inl (by assumption))))⟩⟩ hS172
   ·skip
    rw [decide_eq_false hb138] at hA137
    refine skp hA137 rfl rfl rfl rfl rfl (by decide) fun a173 hA174 => ?_; clear hA137 a136
    refine skp hA174 rfl rfl rfl rfl rfl (by decide) fun a175 hA176 => ?_; clear hA174 a173
    refine skp hA176 rfl rfl rfl rfl rfl (by decide) fun a177 hA178 => ?_; clear hA176 a175
    refine skp hA178 rfl rfl rfl rfl rfl (by decide) fun a179 hA180 => ?_; clear hA178 a177
    refine st hA180 (op_pick_f rfl (hA180.ev rfl) (evc _ _)) rfl rfl (by decide) fun a181 hA182 => ?_; clear hA180 a179
    refine wl_nil ?_
    refine then_n ?_
    refine c_false hA182 rfl ?_
    refine c_skip ?_
    refine blk_n ?_
    have hS183 : Sep NoB w w126 [(obR l102 (.loop (rc104 .busy none))), (marksR (D103 :: [])), G105, (blk bl93 106 [(Value.int .i64 t.frm), (Value.int .i64 t.dst), vr, vb, (Value.int .i64 t.err)]), (blk b24 4 [(Value.bool false)]), (blk b19 3 [(Value.int .i64 0)]), (blk b14 159 [(Value.func (.func 102) #[] #[])]), (blk b9 3 [(Value.int .i64 x)]), (blk b4 106 [(Value.int .i64 t.frm), (Value.int .i64 t.dst), vr, vb, (Value.int .i64 t.err)]), (sl vr 2 t.rows.length (pairs t.rows)), (sl vb 1 t.brk.length (ints t.brk))] := hS127.keep [0, 1, 2, 5, 6, 7, 8, 9, 10, 11, 12] (by decide) _ rfl rfl; clear hS127
    exact re_n ⟨_, rfl, ⟨rfl, (fun j hj => by rcases Nat.lt_succ_iff_lt_or_eq.1 hj with h | h; exact hpc j h; subst h; first | exact piece_n (.inl (by assumption)) | exact piece_n (.inr (.inl (by assumption))))⟩⟩ hS183
  ·skip
   intro L_ hL_ D188 a184 w185 hA187 hS186; obtain ⟨rfl, hpc⟩ := hL_; clear hA94 hS96
   refine blk_n ?_
   refine then_n ?_
   refine c_seq ?_
   refine c_region ?_
   refine sts hA187 (op_store hS186 rfl ty_3 (hA187.ev rfl) (evc _ _) (i := 4) rfl (vs := [(Value.int .i64 0)]) rfl rfl rfl (Nat.le_of_ble_eq_true rfl)) rfl rfl ?_
   intro _ w189 hS190 hA191; clear hA187
   have hS192 : Sep NoB w w189 [(marksR (D188 :: [])), nilR, (blk bl93 106 [(Value.int .i64 t.frm), (Value.int .i64 t.dst), vr, vb, (Value.int .i64 t.err)]), (blk b24 4 [(Value.bool false)]), (blk b19 3 [(Value.int .i64 0)]), (blk b14 159 [(Value.func (.func 102) #[] #[])]), (blk b9 3 [(Value.int .i64 x)]), (blk b4 106 [(Value.int .i64 t.frm), (Value.int .i64 t.dst), vr, vb, (Value.int .i64 t.err)]), (sl vr 2 t.rows.length (pairs t.rows)), (sl vb 1 t.brk.length (ints t.brk))] := hS190; clear hS190 hS186
   refine sts hA191 (op_store hS192 rfl ty_4 (hA191.ev rfl) (evc _ _) (i := 3) rfl (vs := [(Value.bool false)]) rfl rfl rfl (Nat.le_of_ble_eq_true rfl)) rfl rfl ?_
   intro _ w193 hS194 hA195; clear hA191
   have hS196 : Sep NoB w w193 [(marksR (D188 :: [])), nilR, (blk bl93 106 [(Value.int .i64 t.frm), (Value.int .i64 t.dst), vr, vb, (Value.int .i64 t.err)]), (blk b24 4 [(Value.bool false)]), (blk b19 3 [(Value.int .i64 0)]), (blk b14 159 [(Value.func (.func 102) #[] #[])]), (blk b9 3 [(Value.int .i64 x)]), (blk b4 106 [(Value.int .i64 t.frm), (Value.int .i64 t.dst), vr, vb, (Value.int .i64 t.err)]), (sl vr 2 t.rows.length (pairs t.rows)), (sl vb 1 t.brk.length (ints t.brk))] := hS194; clear hS194 hS192
   refine wl_nil ?_
   refine then_n ?_
   refine c_ret ?_
   refine fin_runM hA195 (.inl rfl) hS196 ?_
   intro w197 hS198; clear hS196
   refine ⟨_, (run_results2 hA195 rfl (.cell1 rfl ty_3 (hS198.bk 3 rfl) rfl) (.cell1 rfl ty_4 (hS198.bk 2 rfl) rfl)), ?_⟩
   have hz := (made_goodno (fun i hi => hrw i (by omega)) (fun i hi => hpc i (by omega)))
   exact ⟨by unfold madeV; rw [hz]; rfl, hS198.ext⟩
  ·skip
   intro c_ hc_; cases hc_
   intro L_ hL_ D203 a199 w200 hA202 hS201; obtain ⟨rfl, hsm⟩ := hL_; clear hA94 hS96
   refine c_ret ?_
   refine blk_ret ?_
   refine then_ret ?_
   refine fin_runM hA202 (.inl rfl) hS201 ?_
   intro w204 hS205; clear hS201
   refine ⟨_, (run_results2 hA202 rfl (.cell1 rfl ty_3 (hS205.bk 3 rfl) rfl) (.cell1 rfl ty_4 (hS205.bk 2 rfl) rfl)), ?_⟩
   exact ⟨by rw [hsm], hS205.ext⟩
theorem makes_up (t : TabD) (vr vb : Value) (w : World) (hr : SlAt w vr 2 t.rows.length (pairs t.rows)) (hb : SlAt w vb 1 t.brk.length (ints t.brk)) (hrl : t.rows.length ≤ 1000000) (hbl : t.brk.length ≤ 1000000) (n : Int) (hV : TabV n t) (x : Int) :
  Calls Try.prog 101 #[(Value.agg #[(Value.int .i64 t.frm), (Value.int .i64 t.dst), vr, vb, (Value.int .i64 t.err)]), (Value.int .i64 x), (Value.agg #[(Value.func (.func 103) #[] #[])])] w (Ret fun v w' => v = .tuple #[.int .i64 (madeV t x).2, .bool (madeF t x).isSome] ∧ Ext NoB w w') := by
 refine calls_enterM Try.func101 rfl fun a0 hA0 => ?_
 replace hA0 : Fr 62 (marks []) [(0, (Value.agg #[(Value.int .i64 t.frm), (Value.int .i64 t.dst), vr, vb, (Value.int .i64 t.err)])), (1, (Value.int .i64 x)), (2, (Value.agg #[(Value.func (.func 103) #[] #[])]))] a0 := hA0
 have hS0 : Sep NoB w w [(marksR []), (sl vr 2 t.rows.length (pairs t.rows)), (sl vb 1 t.brk.length (ints t.brk))] := sep_marks (sep_ro ⟨rfl, hr, rfl, hb, trivial⟩)
 refine c_seq ?_
 refine c_region ?_
 refine stw hA0 (op_box hS0 rfl (hA0.ev rfl) (cs := [(Value.int .i64 t.frm), (Value.int .i64 t.dst), vr, vb, (Value.int .i64 t.err)]) rfl) rfl rfl (by decide) ?_
 rintro a1 _ w3 ⟨b4, rfl, hS5⟩ hA2; clear hA0 hS0 a0
 refine stw hA2 (op_box hS5 rfl (hA2.ev rfl) (cs := [(Value.int .i64 x)]) rfl) rfl rfl (by decide) ?_
 rintro a6 _ w8 ⟨b9, rfl, hS10⟩ hA7; clear hA2 hS5 a1
 refine stw hA7 (op_box hS10 rfl (hA7.ev rfl) (cs := [(Value.func (.func 103) #[] #[])]) rfl) rfl rfl (by decide) ?_
 rintro a11 _ w13 ⟨b14, rfl, hS15⟩ hA12; clear hA7 hS10 a6
 refine stw hA12 (op_alloc hS15 rfl ze_3 (cs := [(Value.int .i64 0)]) rfl) rfl rfl (by decide) ?_
 rintro a16 _ w18 ⟨b19, rfl, hS20⟩ hA17; clear hA12 hS15 a11
 refine stw hA17 (op_alloc hS20 rfl ze_4 (cs := [(Value.bool false)]) rfl) rfl rfl (by decide) ?_
 rintro a21 _ w23 ⟨b24, rfl, hS25⟩ hA22; clear hA17 hS20 a16
 refine wl_nil ?_
 refine then_n ?_
 refine c_seq ?_
 refine c_seq ?_
 refine c_region ?_
 refine st hA22 (op_field rfl fd_106_2 (hA22.ev rfl)) rfl rfl (by decide) fun a26 hA27 => ?_; clear hA22 a21
 refine st hA27 (op_load1 rfl ty_104 (hA27.ev rfl) (hS25.bk 4 rfl) rfl) rfl rfl (by decide) fun a28 hA29 => ?_; clear hA27 a26
 refine st hA29 (op_lenS rfl un_104 (hA29.ev rfl) (hS25.sk 6 rfl)) rfl rfl (by decide) fun a30 hA31 => ?_; clear hA29 a28
 refine st hA31 (op_move rfl (evc _ _)) rfl rfl (by decide) fun a32 hA33 => ?_; clear hA31 a30
 refine wl_nil ?_
 refine then_n ?_
 refine c_block ?_
 have hA34 := hA33.as [(15, (Value.int .i64 0)), (14, (Value.int .i64 (t.rows.length : Int))), (13, vr), (7, (bptr b24 0)), (6, (bptr b19 0)), (5, (bptr b14 0)), (4, (bptr b9 0)), (3, (bptr b4 0))] rfl; clear hA33
 refine c_loop (G := Nat) (fun (k : Nat) a_ w_ => Fr 62 (marks []) [(15, (Value.int .i64 (k : Int))), (14, (Value.int .i64 (t.rows.length : Int))), (13, vr), (7, (bptr b24 0)), (6, (bptr b19 0)), (5, (bptr b14 0)), (4, (bptr b9 0)), (3, (bptr b4 0))] a_ ∧ Sep NoB w w_ [(blk b24 4 [(Value.bool false)]), (blk b19 3 [(Value.int .i64 0)]), (blk b14 159 [(Value.func (.func 103) #[] #[])]), (blk b9 3 [(Value.int .i64 x)]), (blk b4 106 [(Value.int .i64 t.frm), (Value.int .i64 t.dst), vr, vb, (Value.int .i64 t.err)]), (marksR []), (sl vr 2 t.rows.length (pairs t.rows)), (sl vb 1 t.brk.length (ints t.brk))] ∧ (k ≤ t.rows.length) ∧ (∀ i, i < k → ¬ tx t i = x)) (fun k => t.rows.length - k) 0 ⟨hA34.as _ rfl, hS25, by omega, (fun _ h => absurd h (Nat.not_lt_zero _))⟩ ?_
 clear hA34 hS25 a32
 rintro k a35 w37 ⟨hA36, hS38, hkk, hrw⟩
 refine c_seq ?_
 refine c_region ?_
 refine st hA36 (op_lss rfl (hA36.ev rfl) (hA36.ev rfl)) rfl rfl (by decide) fun a39 hA40 => ?_; clear hA36 a35
 refine wl_nil ?_
 refine then_n ?_
 refine c_seq ?_
 by_cases hb41 : (k : Int) < (t.rows.length : Int)
 ·skip
  rw [decide_eq_true hb41] at hA40
  refine c_true hA40 rfl ?_
  refine c_skip ?_
  refine then_n ?_
  refine c_seq ?_
  refine c_block ?_
  refine c_seq ?_
  refine c_region ?_
  refine st hA40 (op_indexS rfl un_104 ty_107 (hA40.ev rfl) (i := k) (hA40.ev rfl) (hS38.sk 6 rfl) (by decide) (by omega)) rfl rfl (by decide) fun a42 hA43 => ?_; clear hA40 a39
  refine st hA43 (op_loadAE rfl ty_107 (hA43.ev rfl) (hS38.sk 6 rfl) (pairs_all (by omega)) rfl (by decide)) rfl rfl (by decide) fun a44 hA45 => ?_; clear hA43 a42
  refine stw hA45 (op_alloc hS38 rfl ze_107 (cs := [(Value.int .i64 0), (Value.int .i64 0)]) rfl) rfl rfl (by decide) ?_
  rintro a46 _ w48 ⟨b49, rfl, hS50⟩ hA47; clear hA45 hS38 a44
  refine sts hA47 (op_store hS50 rfl ty_107 (hA47.ev rfl) (hA47.ev rfl) (i := 0) rfl (vs := [(Value.int .i64 ((t.rows.getD k (0, 0)).1)), (Value.int .i64 ((t.rows.getD k (0, 0)).2))]) rfl rfl rfl (Nat.le_of_ble_eq_true rfl)) rfl rfl ?_
  intro _ w51 hS52 hA53; clear hA47
  have hS54 : Sep NoB w w51 [(blk b49 107 [(Value.int .i64 ((t.rows.getD k (0, 0)).1)), (Value.int .i64 ((t.rows.getD k (0, 0)).2))]), (blk b24 4 [(Value.bool false)]), (blk b19 3 [(Value.int .i64 0)]), (blk b14 159 [(Value.func (.func 103) #[] #[])]), (blk b9 3 [(Value.int .i64 x)]), (blk b4 106 [(Value.int .i64 t.frm), (Value.int .i64 t.dst), vr, vb, (Value.int .i64 t.err)]), (marksR []), (sl vr 2 t.rows.length (pairs t.rows)), (sl vb 1 t.brk.length (ints t.brk))] := hS52; clear hS52 hS50
  refine wl_nil ?_
  refine then_n ?_
  refine c_seq ?_
  refine c_region ?_
  refine st hA53 (op_field rfl fd_107_0 (hA53.ev rfl)) rfl rfl (by decide) fun a55 hA56 => ?_; clear hA53 a46
  refine st hA56 (op_load1 rfl ty_3 (hA56.ev rfl) (hS54.bk 0 rfl) rfl) rfl rfl (by decide) fun a57 hA58 => ?_; clear hA56 a55
  refine st hA58 (op_load1 rfl ty_3 (hA58.ev rfl) (hS54.bk 4 rfl) rfl) rfl rfl (by decide) fun a59 hA60 => ?_; clear hA58 a57
  refine st hA60 (op_eql rfl (hA60.ev rfl) (hA60.ev rfl)) rfl rfl (by decide) fun a61 hA62 => ?_; clear hA60 a59
  refine wl_nil ?_
  refine then_n ?_
  by_cases hb63 : ((t.rows.getD k (0, 0)).1) = x
  ·skip
   rw [decide_eq_true hb63] at hA62
   refine c_true hA62 rfl ?_
   refine c_seq ?_
   have hA64 := hA62.as [(9, (bptr b49 0)), (7, (bptr b24 0)), (6, (bptr b19 0))] rfl; clear hA62
   refine c_region ?_
   refine st hA64 (op_field rfl fd_107_1 (hA64.ev rfl)) rfl rfl (by decide) fun a65 hA66 => ?_; clear hA64 a61
   refine st hA66 (op_load1 rfl ty_3 (hA66.ev rfl) (hS54.bk 0 rfl) rfl) rfl rfl (by decide) fun a67 hA68 => ?_; clear hA66 a65
   refine sts hA68 (op_store hS54 rfl ty_3 (hA68.ev rfl) (hA68.ev rfl) (i := 2) rfl (vs := [(Value.int .i64 ((t.rows.getD k (0, 0)).2))]) rfl rfl rfl (Nat.le_of_ble_eq_true rfl)) rfl rfl ?_
   intro _ w69 hS70 hA71; clear hA68
   have hS72 : Sep NoB w w69 [(blk b49 107 [(Value.int .i64 ((t.rows.getD k (0, 0)).1)), (Value.int .i64 ((t.rows.getD k (0, 0)).2))]), (blk b24 4 [(Value.bool false)]), (blk b19 3 [(Value.int .i64 ((t.rows.getD k (0, 0)).2))]), (blk b14 159 [(Value.func (.func 103) #[] #[])]), (blk b9 3 [(Value.int .i64 x)]), (blk b4 106 [(Value.int .i64 t.frm), (Value.int .i64 t.dst), vr, vb, (Value.int .i64 t.err)]), (marksR []), (sl vr 2 t.rows.length (pairs t.rows)), (sl vb 1 t.brk.length (ints t.brk))] := hS70; clear hS70 hS54
   refine sts hA71 (op_store hS72 rfl ty_4 (hA71.ev rfl) (evc _ _) (i := 1) rfl (vs := [(Value.bool true)]) rfl rfl rfl (Nat.le_of_ble_eq_true rfl)) rfl rfl ?_
   intro _ w73 hS74 hA75; clear hA71
   have hS76 : Sep NoB w w73 [(blk b49 107 [(Value.int .i64 ((t.rows.getD k (0, 0)).1)), (Value.int .i64 ((t.rows.getD k (0, 0)).2))]), (blk b24 4 [(Value.bool true)]), (blk b19 3 [(Value.int .i64 ((t.rows.getD k (0, 0)).2))]), (blk b14 159 [(Value.func (.func 103) #[] #[])]), (blk b9 3 [(Value.int .i64 x)]), (blk b4 106 [(Value.int .i64 t.frm), (Value.int .i64 t.dst), vr, vb, (Value.int .i64 t.err)]), (marksR []), (sl vr 2 t.rows.length (pairs t.rows)), (sl vb 1 t.brk.length (ints t.brk))] := hS74; clear hS74 hS72
   refine wl_nil ?_
   refine then_n ?_
   refine c_ret ?_
   refine blk_ret ?_
   refine then_ret ?_
   refine then_ret ?_
   refine blk_ret ?_
   refine then_ret ?_
   have hS77 : Sep NoB w w73 [(marksR []), (blk b49 107 [(Value.int .i64 ((t.rows.getD k (0, 0)).1)), (Value.int .i64 ((t.rows.getD k (0, 0)).2))]), (blk b24 4 [(Value.bool true)]), (blk b19 3 [(Value.int .i64 ((t.rows.getD k (0, 0)).2))]), (blk b14 159 [(Value.func (.func 103) #[] #[])]), (blk b9 3 [(Value.int .i64 x)]), (blk b4 106 [(Value.int .i64 t.frm), (Value.int .i64 t.dst), vr, vb, (Value.int .i64 t.err)]), (sl vr 2 t.rows.length (pairs t.rows)), (sl vb 1 t.brk.length (ints t.brk))] := hS76.keep [6, 0, 1, 2, 3, 4, 5, 7, 8] (by decide) _ rfl rfl; clear hS76
   refine fin_runM hA75 (.inl rfl) hS77 ?_
   intro w78 hS79; clear hS77
   refine ⟨_, (run_results2 hA75 rfl (.cell1 rfl ty_3 (hS79.bk 2 rfl) rfl) (.cell1 rfl ty_4 (hS79.bk 1 rfl) rfl)), ?_⟩
   have hz := (made_row (k := k) (by omega) (fun i hi => hrw i (by omega)) (by assumption))
   exact ⟨by unfold madeV; rw [hz]; rfl, hS79.ext⟩
  ·skip
   rw [decide_eq_false hb63] at hA62
   refine c_false hA62 rfl ?_
   refine c_skip ?_
   refine blk_n ?_
   refine then_n ?_
   have hA80 := hA62.as [(15, (Value.int .i64 (k : Int))), (14, (Value.int .i64 (t.rows.length : Int))), (13, vr), (7, (bptr b24 0)), (6, (bptr b19 0)), (5, (bptr b14 0)), (4, (bptr b9 0)), (3, (bptr b4 0))] rfl; clear hA62
   refine c_region ?_
   refine st hA80 (op_add rfl (hA80.ev rfl) (evc _ _) (by omega) (by omega)) rfl rfl (by decide) fun a81 hA82 => ?_; clear hA80 a61
   refine st hA82 (op_move rfl (hA82.ev rfl)) rfl rfl (by decide) fun a83 hA84 => ?_; clear hA82 a81
   refine wl_nil ?_
   have hS85 : Sep NoB w w51 [(blk b24 4 [(Value.bool false)]), (blk b19 3 [(Value.int .i64 0)]), (blk b14 159 [(Value.func (.func 103) #[] #[])]), (blk b9 3 [(Value.int .i64 x)]), (blk b4 106 [(Value.int .i64 t.frm), (Value.int .i64 t.dst), vr, vb, (Value.int .i64 t.err)]), (marksR []), (sl vr 2 t.rows.length (pairs t.rows)), (sl vb 1 t.brk.length (ints t.brk))] := hS54.keep [1, 2, 3, 4, 5, 6, 7, 8] (by decide) _ rfl rfl; clear hS54
   exact then_n ⟨k + 1, ⟨hA84.as _ rfl, hS85, by omega, (fun i hi => by rcases Nat.lt_succ_iff_lt_or_eq.1 hi with h | h; exact hrw i h; subst h; assumption)⟩, by omega⟩
 ·skip
  rw [decide_eq_false hb41] at hA40
  refine c_false hA40 rfl ?_
  refine c_exit ?_
  refine then_exit ?_
  refine then_exit ?_
  refine blk_hit ?_
  refine then_n ?_
  refine c_seq ?_
  refine c_seq ?_
  refine c_region ?_
  refine st hA40 (op_loadA rfl ty_106 (hA40.ev rfl) (hS38.bk 4 rfl) (l := [(Value.int .i64 t.frm), (Value.int .i64 t.dst), vr, vb, (Value.int .i64 t.err)]) rfl rfl) rfl rfl (by decide) fun a86 hA87 => ?_; clear hA40 a39
  refine stw hA87 (op_call rfl en_116 (ev1 (hA87.ev rfl)) (pieces_ok t vr vb _ hr.one hb.one)) rfl rfl (by decide) ?_
  rintro a88 _ w90 ⟨bl93, rfl, hT91⟩ hA89; have hS92 := hS38.callS hT91 rfl; clear hT91 hA87 hS38 a86
  refine wl_nil ?_
  refine then_n ?_
  refine c_block ?_
  have hA94 := hA89.as [(27, (Value.func (.func 121) #[] #[(bptr bl93 0)])), (7, (bptr b24 0)), (6, (bptr b19 0)), (5, (bptr b14 0)), (4, (bptr b9 0))] rfl; clear hA89
  have hS95 := hS92.nilR; clear hS92
  have hS96 : Sep NoB w w90 [(marksR []), nilR, (blk bl93 106 [(Value.int .i64 t.frm), (Value.int .i64 t.dst), vr, vb, (Value.int .i64 t.err)]), (blk b24 4 [(Value.bool false)]), (blk b19 3 [(Value.int .i64 0)]), (blk b14 159 [(Value.func (.func 103) #[] #[])]), (blk b9 3 [(Value.int .i64 x)]), (blk b4 106 [(Value.int .i64 t.frm), (Value.int .i64 t.dst), vr, vb, (Value.int .i64 t.err)]), (sl vr 2 t.rows.length (pairs t.rows)), (sl vb 1 t.brk.length (ints t.brk))] := hS95.keep [7, 0, 1, 2, 3, 4, 5, 6, 8, 9] (by decide) _ rfl rfl; clear hS95
  refine c_rangeG hA94 nilR rfl hS96 (hA94.ev rfl) en_121 ((goodF t).length) (fun q => #[.agg #[.int .i64 (t.rows.getD ((goodF t).getD q 0) (0, 0)).1, .int .i64 (t.rows.getD ((goodF t).getD q 0) (0, 0)).2], .agg #[.int .i64 (t.rows.getD ((goodF t).getD q 0 + 1) (0, 0)).1, .int .i64 (t.rows.getD ((goodF t).getD q 0 + 1) (0, 0)).2]]) (fun _ => rfl) [rob bl93 106 [.int .i64 t.frm, .int .i64 t.dst, vr, vb, .int .i64 t.err], sl vr 2 t.rows.length (pairs t.rows), sl vb 1 t.brk.length (ints t.brk)] (fun r hr => by simp only [List.mem_cons, List.not_mem_nil, or_false] at hr; rcases hr with rfl | rfl | rfl <;> rfl) (pieces_it bl93 t vr vb hV.len hrl hbl) (fun q L_ => L_ = [(blk bl93 106 [(Value.int .i64 t.frm), (Value.int .i64 t.dst), vr, vb, (Value.int .i64 t.err)]), (blk b24 4 [(Value.bool false)]), (blk b19 3 [(Value.int .i64 0)]), (blk b14 159 [(Value.func (.func 103) #[] #[])]), (blk b9 3 [(Value.int .i64 x)]), (blk b4 106 [(Value.int .i64 t.frm), (Value.int .i64 t.dst), vr, vb, (Value.int .i64 t.err)]), (sl vr 2 t.rows.length (pairs t.rows)), (sl vb 1 t.brk.length (ints t.brk))] ∧ (∀ j, j < q → inPiece t x ((goodF t).getD j 0) = false)) (fun L_ => L_ = [(blk bl93 106 [(Value.int .i64 t.frm), (Value.int .i64 t.dst), vr, vb, (Value.int .i64 t.err)]), (blk b24 4 [(Value.bool true)]), (blk b19 3 [(Value.int .i64 ((madeV t x).2))]), (blk b14 159 [(Value.func (.func 103) #[] #[])]), (blk b9 3 [(Value.int .i64 x)]), (blk b4 106 [(Value.int .i64 t.frm), (Value.int .i64 t.dst), vr, vb, (Value.int .i64 t.err)]), (sl vr 2 t.rows.length (pairs t.rows)), (sl vb 1 t.brk.length (ints t.brk))] ∧ ((madeF t x).isSome = true)) (some .ret) ⟨rfl, (fun _ h => absurd h (Nat.not_lt_zero _))⟩ (fun q L_ hI_ G_ W_ r1_ r2_ hW_ => by obtain ⟨rfl, hpc⟩ := hI_; exact (Sep.keep (hW_.to_ro (i := 3) rfl) [2, 3, 9, 10] (by decide) _ rfl rfl)) (fun L_ hI_ G_ W_ r1_ r2_ hW_ => by obtain ⟨rfl, hsm⟩ := hI_; exact (Sep.keep (hW_.to_ro (i := 3) rfl) [2, 3, 9, 10] (by decide) _ rfl rfl)) ?_ ?_ ?_
  ·skip
   intro q hq L_ hL_ G105 hG106 l102 D103 rc104 a97 w98 ha101 hS99; obtain ⟨rfl, hpc⟩ := hL_
   have hA100 : Fr 62 [] [(29, (Value.agg #[(Value.int .i64 ((t.rows.getD (((goodF t).getD q 0) + 1) (0, 0)).1)), (Value.int .i64 ((t.rows.getD (((goodF t).getD q 0) + 1) (0, 0)).2))])), (28, (Value.agg #[(Value.int .i64 ((t.rows.getD (((goodF t).getD q 0)) (0, 0)).1)), (Value.int .i64 ((t.rows.getD (((goodF t).getD q 0)) (0, 0)).2))])), (27, (Value.func (.func 121) #[] #[(bptr bl93 0)])), (7, (bptr b24 0)), (6, (bptr b19 0)), (5, (bptr b14 0)), (4, (bptr b9 0))] a97 := by rw [ha101]; exact Fr.round2 hA94 (by decide) (by decide)
   clear ha101 hS96
   have hgq : ((goodF t).getD q 0) < t.rows.length - 1 := (good_mem hq).1; have hbn := hV.bnd _ (show ((goodF t).getD q 0) < t.rows.length by omega); have hbn1 := hV.bnd (((goodF t).getD q 0) + 1) (by omega); unfold tx ty at hbn hbn1
   refine c_seq ?_
   refine c_region ?_
   refine stw hA100 (op_alloc hS99 rfl ze_107 (cs := [(Value.int .i64 0), (Value.int .i64 0)]) rfl) rfl rfl (by decide) ?_
   rintro a107 _ w109 ⟨b110, rfl, hS111⟩ hA108; clear hA100 hS99 a97
   refine sts hA108 (op_store hS111 rfl ty_107 (hA108.ev rfl) (hA108.ev rfl) (i := 0) rfl (vs := [(Value.int .i64 ((t.rows.getD (((goodF t).getD q 0)) (0, 0)).1)), (Value.int .i64 ((t.rows.getD (((goodF t).getD q 0)) (0, 0)).2))]) rfl rfl rfl (Nat.le_of_ble_eq_true rfl)) rfl rfl ?_
   intro _ w112 hS113 hA114; clear hA108
   have hS115 : Sep NoB w w112 [(blk b110 107 [(Value.int .i64 ((t.rows.getD (((goodF t).getD q 0)) (0, 0)).1)), (Value.int .i64 ((t.rows.getD (((goodF t).getD q 0)) (0, 0)).2))]), (obR l102 (.loop (rc104 .ready none))), (marksR (D103 :: [])), G105, (blk bl93 106 [(Value.int .i64 t.frm), (Value.int .i64 t.dst), vr, vb, (Value.int .i64 t.err)]), (blk b24 4 [(Value.bool false)]), (blk b19 3 [(Value.int .i64 0)]), (blk b14 159 [(Value.func (.func 103) #[] #[])]), (blk b9 3 [(Value.int .i64 x)]), (blk b4 106 [(Value.int .i64 t.frm), (Value.int .i64 t.dst), vr, vb, (Value.int .i64 t.err)]), (sl vr 2 t.rows.length (pairs t.rows)), (sl vb 1 t.brk.length (ints t.brk))] := hS113; clear hS113 hS111
   refine wl_nil ?_
   refine then_n ?_
   refine c_region ?_
   refine stw hA114 (op_alloc hS115 rfl ze_107 (cs := [(Value.int .i64 0), (Value.int .i64 0)]) rfl) rfl rfl (by decide) ?_
   rintro a116 _ w118 ⟨b119, rfl, hS120⟩ hA117; clear hA114 hS115 a107
   refine sts hA117 (op_store hS120 rfl ty_107 (hA117.ev rfl) (hA117.ev rfl) (i := 0) rfl (vs := [(Value.int .i64 ((t.rows.getD (((goodF t).getD q 0) + 1) (0, 0)).1)), (Value.int .i64 ((t.rows.getD (((goodF t).getD q 0) + 1) (0, 0)).2))]) rfl rfl rfl (Nat.le_of_ble_eq_true rfl)) rfl rfl ?_
   intro _ w121 hS122 hA123; clear hA117
   have hS124 : Sep NoB w w121 [(blk b119 107 [(Value.int .i64 ((t.rows.getD (((goodF t).getD q 0) + 1) (0, 0)).1)), (Value.int .i64 ((t.rows.getD (((goodF t).getD q 0) + 1) (0, 0)).2))]), (blk b110 107 [(Value.int .i64 ((t.rows.getD (((goodF t).getD q 0)) (0, 0)).1)), (Value.int .i64 ((t.rows.getD (((goodF t).getD q 0)) (0, 0)).2))]), (obR l102 (.loop (rc104 .ready none))), (marksR (D103 :: [])), G105, (blk bl93 106 [(Value.int .i64 t.frm), (Value.int .i64 t.dst), vr, vb, (Value.int .i64 t.err)]), (blk b24 4 [(Value.bool false)]), (blk b19 3 [(Value.int .i64 0)]), (blk b14 159 [(Value.func (.func 103) #[] #[])]), (blk b9 3 [(Value.int .i64 x)]), (blk b4 106 [(Value.int .i64 t.frm), (Value.int .i64 t.dst), vr, vb, (Value.int .i64 t.err)]), (sl vr 2 t.rows.length (pairs t.rows)), (sl vb 1 t.brk.length (ints t.brk))] := hS122; clear hS122 hS120
   refine wl_nil ?_
   have hS125 : Sep NoB w w121 [(obR l102 (.loop (rc104 .ready none))), (marksR (D103 :: [])), G105, (blk b119 107 [(Value.int .i64 ((t.rows.getD (((goodF t).getD q 0) + 1) (0, 0)).1)), (Value.int .i64 ((t.rows.getD (((goodF t).getD q 0) + 1) (0, 0)).2))]), (blk b110 107 [(Value.int .i64 ((t.rows.getD (((goodF t).getD q 0)) (0, 0)).1)), (Value.int .i64 ((t.rows.getD (((goodF t).getD q 0)) (0, 0)).2))]), (blk bl93 106 [(Value.int .i64 t.frm), (Value.int .i64 t.dst), vr, vb, (Value.int .i64 t.err)]), (blk b24 4 [(Value.bool false)]), (blk b19 3 [(Value.int .i64 0)]), (blk b14 159 [(Value.func (.func 103) #[] #[])]), (blk b9 3 [(Value.int .i64 x)]), (blk b4 106 [(Value.int .i64 t.frm), (Value.int .i64 t.dst), vr, vb, (Value.int .i64 t.err)]), (sl vr 2 t.rows.length (pairs t.rows)), (sl vb 1 t.brk.length (ints t.brk))] := hS124.keep [2, 3, 4, 0, 1, 5, 6, 7, 8, 9, 10, 11, 12] (by decide) _ rfl rfl; clear hS124
   refine ⟨rfl, _, hS125, ?_⟩; intro w126 hS127; clear hS125
   refine c_block ?_
   refine c_seq ?_
   refine c_region ?_
   refine st hA123 (op_field rfl fd_107_0 (hA123.ev rfl)) rfl rfl (by decide) fun a128 hA129 => ?_; clear hA123 a116
   refine st hA129 (op_load1 rfl ty_3 (hA129.ev rfl) (hS127.bk 4 rfl) rfl) rfl rfl (by decide) fun a130 hA131 => ?_; clear hA129 a128
   refine st hA131 (op_load1 rfl ty_3 (hA131.ev rfl) (hS127.bk 9 rfl) rfl) rfl rfl (by decide) fun a132 hA133 => ?_; clear hA131 a130
   refine st hA133 (op_lss rfl (hA133.ev rfl) (hA133.ev rfl)) rfl rfl (by decide) fun a134 hA135 => ?_; clear hA133 a132
   refine st hA135 (op_move rfl (hA135.ev rfl)) rfl rfl (by decide) fun a136 hA137 => ?_; clear hA135 a134
   by_cases hb138 : ((t.rows.getD (((goodF t).getD q 0)) (0, 0)).1) < x
   ·skip
    rw [decide_eq_true hb138] at hA137
    refine stg hA137 (op_load1 rfl ty_3 (hA137.ev rfl) (hS127.bk 9 rfl) rfl) rfl rfl rfl rfl (by decide) fun a139 hA140 => ?_; clear hA137 a136
    refine stg hA140 (op_field rfl fd_107_0 (hA140.ev rfl)) rfl rfl rfl rfl (by decide) fun a141 hA142 => ?_; clear hA140 a139
    refine stg hA142 (op_load1 rfl ty_3 (hA142.ev rfl) (hS127.bk 3 rfl) rfl) rfl rfl rfl rfl (by decide) fun a143 hA144 => ?_; clear hA142 a141
    refine stg hA144 (op_lss rfl (hA144.ev rfl) (hA144.ev rfl)) rfl rfl rfl rfl (by decide) fun a145 hA146 => ?_; clear hA144 a143
    refine st hA146 (op_pick_t rfl (hA146.ev rfl) (hA146.ev rfl)) rfl rfl (by decide) fun a147 hA148 => ?_; clear hA146 a145
    refine wl_nil ?_
    refine then_n ?_
    by_cases hb149 : x < ((t.rows.getD (((goodF t).getD q 0) + 1) (0, 0)).1)
    ·skip
     rw [decide_eq_true hb149] at hA148
     have hpb := piece_bds (v := x) (k := ((goodF t).getD q 0)) hV (by omega) (by unfold tx; omega) (by unfold tx; omega); unfold pieceN pieceD tx ty at hpb; have hdb := downF_bd hpb.1 hpb.2; have hub := upF_bd hpb.1 hpb.2
     refine c_true hA148 rfl ?_
     refine c_seq ?_
     have hA150 := hA148.as [(11, (bptr b119 0)), (10, (bptr b110 0)), (7, (bptr b24 0)), (6, (bptr b19 0)), (5, (bptr b14 0)), (4, (bptr b9 0))] rfl; clear hA148
     have hA151 := hA150.as [(11, (bptr b119 0)), (10, (bptr b110 0)), (7, (bptr b24 0)), (6, (bptr b19 0)), (5, (bptr b14 0)), (4, (bptr b9 0))] rfl; clear hA150
     refine c_drawn mixed hA151 hS127 21 [[], [0], [], [2], [], [], [5], [4, 6], [], [8], [], [10], [9, 11], [7, 12], [], [14], [], [16], [15, 17], [13, 18], [3, 19]] [(Yd.val (bptr b110 1)), (Yd.val (Value.int .i64 ((t.rows.getD (((goodF t).getD q 0)) (0, 0)).2))), (Yd.val (bptr b14 0)), (Yd.val (Value.func (.func 103) #[] #[])), (Yd.val (Value.int .i64 x)), (Yd.val (bptr b110 0)), (Yd.val (Value.int .i64 ((t.rows.getD (((goodF t).getD q 0)) (0, 0)).1))), (Yd.val (Value.int .i64 (x - ((t.rows.getD (((goodF t).getD q 0)) (0, 0)).1)))), (Yd.val (bptr b119 1)), (Yd.val (Value.int .i64 ((t.rows.getD (((goodF t).getD q 0) + 1) (0, 0)).2))), (Yd.val (bptr b110 1)), (Yd.val (Value.int .i64 ((t.rows.getD (((goodF t).getD q 0)) (0, 0)).2))), (Yd.val (Value.int .i64 (((t.rows.getD (((goodF t).getD q 0) + 1) (0, 0)).2) - ((t.rows.getD (((goodF t).getD q 0)) (0, 0)).2)))), (Yd.val (Value.int .i64 ((x - ((t.rows.getD (((goodF t).getD q 0)) (0, 0)).1)) * (((t.rows.getD (((goodF t).getD q 0) + 1) (0, 0)).2) - ((t.rows.getD (((goodF t).getD q 0)) (0, 0)).2))))), (Yd.val (bptr b119 0)), (Yd.val (Value.int .i64 ((t.rows.getD (((goodF t).getD q 0) + 1) (0, 0)).1))), (Yd.val (bptr b110 0)), (Yd.val (Value.int .i64 ((t.rows.getD (((goodF t).getD q 0)) (0, 0)).1))), (Yd.val (Value.int .i64 (((t.rows.getD (((goodF t).getD q 0) + 1) (0, 0)).1) - ((t.rows.getD (((goodF t).getD q 0)) (0, 0)).1)))), (Yd.val (Value.agg #[(Value.int .i64 ((x - ((t.rows.getD (((goodF t).getD q 0)) (0, 0)).1)) * (((t.rows.getD (((goodF t).getD q 0) + 1) (0, 0)).2) - ((t.rows.getD (((goodF t).getD q 0)) (0, 0)).2)))), (Value.int .i64 (((t.rows.getD (((goodF t).getD q 0) + 1) (0, 0)).1) - ((t.rows.getD (((goodF t).getD q 0)) (0, 0)).1)))])), (Yd.val (Value.int .i64 (upF ((x - ((t.rows.getD (((goodF t).getD q 0)) (0, 0)).1)) * (((t.rows.getD (((goodF t).getD q 0) + 1) (0, 0)).2) - ((t.rows.getD (((goodF t).getD q 0)) (0, 0)).2))) (((t.rows.getD (((goodF t).getD q 0) + 1) (0, 0)).1) - ((t.rows.getD (((goodF t).getD q 0)) (0, 0)).1)))))] (by decide +kernel) rfl rfl ?_ ?_
     ·skip
      refine ⟨fun a w hA hS hd => ?_, ?_⟩
      ·skip
       exact opG_of rfl (dv (op_field rfl fd_107_1 (hA.ev rfl)) hS rfl)
      refine ⟨fun a w hA hS hd => ?_, ?_⟩
      ·skip
       have e0 := has_ev (hd 0 (by decide)) rfl (fun _ h => h)
       exact opG_of rfl (dv (op_load1 rfl ty_3 (tmp_ev e0) (hS.bk 4 rfl) rfl) hS rfl)
      refine ⟨fun a w hA hS hd => ?_, ?_⟩
      ·skip
       exact opG_of rfl (dv (op_field rfl fd_159_0 (hA.ev rfl)) hS rfl)
      refine ⟨fun a w hA hS hd => ?_, ?_⟩
      ·skip
       have e2 := has_ev (hd 2 (by decide)) rfl (fun _ h => h)
       exact opG_of rfl (dv (op_load1 rfl ty_154 (tmp_ev e2) (hS.bk 8 rfl) rfl) hS rfl)
      refine ⟨fun a w hA hS hd => ?_, ?_⟩
      ·skip
       exact opG_of rfl (dv (op_load1 rfl ty_3 (hA.ev rfl) (hS.bk 9 rfl) rfl) hS rfl)
      refine ⟨fun a w hA hS hd => ?_, ?_⟩
      ·skip
       exact opG_of rfl (dv (op_field rfl fd_107_0 (hA.ev rfl)) hS rfl)
      refine ⟨fun a w hA hS hd => ?_, ?_⟩
      ·skip
       have e5 := has_ev (hd 5 (by decide)) rfl (fun _ h => h)
       exact opG_of rfl (dv (op_load1 rfl ty_3 (tmp_ev e5) (hS.bk 4 rfl) rfl) hS rfl)
      refine ⟨fun a w hA hS hd => ?_, ?_⟩
      ·skip
       have e4 := has_ev (hd 4 (by decide)) rfl (fun _ h => h)
       have e6 := has_ev (hd 6 (by decide)) rfl (fun _ h => h)
       exact opG_of rfl (dv (op_sub rfl (tmp_ev e4) (tmp_ev e6) (by omega) (by omega)) hS rfl)
      refine ⟨fun a w hA hS hd => ?_, ?_⟩
      ·skip
       exact opG_of rfl (dv (op_field rfl fd_107_1 (hA.ev rfl)) hS rfl)
      refine ⟨fun a w hA hS hd => ?_, ?_⟩
      ·skip
       have e8 := has_ev (hd 8 (by decide)) rfl (fun _ h => h)
       exact opG_of rfl (dv (op_load1 rfl ty_3 (tmp_ev e8) (hS.bk 3 rfl) rfl) hS rfl)
      refine ⟨fun a w hA hS hd => ?_, ?_⟩
      ·skip
       exact opG_of rfl (dv (op_field rfl fd_107_1 (hA.ev rfl)) hS rfl)
      refine ⟨fun a w hA hS hd => ?_, ?_⟩
      ·skip
       have e10 := has_ev (hd 10 (by decide)) rfl (fun _ h => h)
       exact opG_of rfl (dv (op_load1 rfl ty_3 (tmp_ev e10) (hS.bk 4 rfl) rfl) hS rfl)
      refine ⟨fun a w hA hS hd => ?_, ?_⟩
      ·skip
       have e9 := has_ev (hd 9 (by decide)) rfl (fun _ h => h)
       have e11 := has_ev (hd 11 (by decide)) rfl (fun _ h => h)
       exact opG_of rfl (dv (op_sub rfl (tmp_ev e9) (tmp_ev e11) (by omega) (by omega)) hS rfl)
      refine ⟨fun a w hA hS hd => ?_, ?_⟩
      ·skip
       have e7 := has_ev (hd 7 (by decide)) rfl (fun _ h => h)
       have e12 := has_ev (hd 12 (by decide)) rfl (fun _ h => h)
       exact opG_of rfl (dv (op_mul rfl (tmp_ev e7) (tmp_ev e12) (by omega) (by omega)) hS rfl)
      refine ⟨fun a w hA hS hd => ?_, ?_⟩
      ·skip
       exact opG_of rfl (dv (op_field rfl fd_107_0 (hA.ev rfl)) hS rfl)
      refine ⟨fun a w hA hS hd => ?_, ?_⟩
      ·skip
       have e14 := has_ev (hd 14 (by decide)) rfl (fun _ h => h)
       exact opG_of rfl (dv (op_load1 rfl ty_3 (tmp_ev e14) (hS.bk 3 rfl) rfl) hS rfl)
      refine ⟨fun a w hA hS hd => ?_, ?_⟩
      ·skip
       exact opG_of rfl (dv (op_field rfl fd_107_0 (hA.ev rfl)) hS rfl)
      refine ⟨fun a w hA hS hd => ?_, ?_⟩
      ·skip
       have e16 := has_ev (hd 16 (by decide)) rfl (fun _ h => h)
       exact opG_of rfl (dv (op_load1 rfl ty_3 (tmp_ev e16) (hS.bk 4 rfl) rfl) hS rfl)
      refine ⟨fun a w hA hS hd => ?_, ?_⟩
      ·skip
       have e15 := has_ev (hd 15 (by decide)) rfl (fun _ h => h)
       have e17 := has_ev (hd 17 (by decide)) rfl (fun _ h => h)
       exact opG_of rfl (dv (op_sub rfl (tmp_ev e15) (tmp_ev e17) (by omega) (by omega)) hS rfl)
      refine ⟨fun a w hA hS hd => ?_, ?_⟩
      ·skip
       have e13 := has_ev (hd 13 (by decide)) rfl (fun _ h => h)
       have e18 := has_ev (hd 18 (by decide)) rfl (fun _ h => h)
       exact opG_of rfl (dv (op_build rfl (pv2 (tmp_ev e13) (tmp_ev e18)) (bd_157_0i_1i _ _)) hS rfl)
      refine ⟨fun a w hA hS hd => ?_, ?_⟩
      ·skip
       have e3 := has_ev (hd 3 (by decide)) rfl (fun _ h => h)
       have e19 := has_ev (hd 19 (by decide)) rfl (fun _ h => h)
       exact opG_of rfl (dx (op_callv rfl (tmp_ev e3) en_103 (ev1 (tmp_ev e19)) (up_ok _ _ _ (by omega) (by omega))) hS (fun _ => rfl))
      trivial
     intro a152 w153 hA154 hS155 hH156; clear hA151 hS127
     have hA158 := hA154.add (has_ev (hH156 1 (by decide)) rfl (fun _ h => h)); clear hA154
     have hA159 := hA158.add (has_ev (hH156 20 (by decide)) rfl (fun _ h => h)); clear hA158
     clear hH156
     refine st hA159 (op_add rfl (hA159.ev rfl) (hA159.ev rfl) (by omega) (by omega)) rfl rfl (by decide) fun a160 hA161 => ?_; clear hA159 a152
     have hvl : ((t.rows.getD (((goodF t).getD q 0)) (0, 0)).2) + (upF ((x - ((t.rows.getD (((goodF t).getD q 0)) (0, 0)).1)) * (((t.rows.getD (((goodF t).getD q 0) + 1) (0, 0)).2) - ((t.rows.getD (((goodF t).getD q 0)) (0, 0)).2))) (((t.rows.getD (((goodF t).getD q 0) + 1) (0, 0)).1) - ((t.rows.getD (((goodF t).getD q 0)) (0, 0)).1))) = (madeV t x).2 := by unfold madeV; rw [made_good (fun i hi => hrw i (by omega)) hq hpc (good_piece hq (by assumption) (by assumption))]; rfl
     have hA162 : Fr 62 [] [(61, (Value.int .i64 ((madeV t x).2))), (60, (Value.int .i64 (upF ((x - ((t.rows.getD (((goodF t).getD q 0)) (0, 0)).1)) * (((t.rows.getD (((goodF t).getD q 0) + 1) (0, 0)).2) - ((t.rows.getD (((goodF t).getD q 0)) (0, 0)).2))) (((t.rows.getD (((goodF t).getD q 0) + 1) (0, 0)).1) - ((t.rows.getD (((goodF t).getD q 0)) (0, 0)).1))))), (41, (Value.int .i64 ((t.rows.getD (((goodF t).getD q 0)) (0, 0)).2))), (11, (bptr b119 0)), (10, (bptr b110 0)), (7, (bptr b24 0)), (6, (bptr b19 0)), (5, (bptr b14 0)), (4, (bptr b9 0))] a160 := by rw [← hvl]; exact hA161
     refine sts hA162 (op_store hS155 rfl ty_3 (hA162.ev rfl) (hA162.ev rfl) (i := 7) rfl (vs := [(Value.int .i64 ((madeV t x).2))]) rfl rfl rfl (Nat.le_of_ble_eq_true rfl)) rfl rfl ?_
     intro _ w163 hS164 hA165; clear hA162
     have hS166 : Sep NoB w w163 [(obR l102 (.loop (rc104 .busy none))), (marksR (D103 :: [])), G105, (blk b119 107 [(Value.int .i64 ((t.rows.getD (((goodF t).getD q 0) + 1) (0, 0)).1)), (Value.int .i64 ((t.rows.getD (((goodF t).getD q 0) + 1) (0, 0)).2))]), (blk b110 107 [(Value.int .i64 ((t.rows.getD (((goodF t).getD q 0)) (0, 0)).1)), (Value.int .i64 ((t.rows.getD (((goodF t).getD q 0)) (0, 0)).2))]), (blk bl93 106 [(Value.int .i64 t.frm), (Value.int .i64 t.dst), vr, vb, (Value.int .i64 t.err)]), (blk b24 4 [(Value.bool false)]), (blk b19 3 [(Value.int .i64 ((madeV t x).2))]), (blk b14 159 [(Value.func (.func 103) #[] #[])]), (blk b9 3 [(Value.int .i64 x)]), (blk b4 106 [(Value.int .i64 t.frm), (Value.int .i64 t.dst), vr, vb, (Value.int .i64 t.err)]), (sl vr 2 t.rows.length (pairs t.rows)), (sl vb 1 t.brk.length (ints t.brk))] := hS164; clear hS164 hS155
     refine sts hA165 (op_store hS166 rfl ty_4 (hA165.ev rfl) (evc _ _) (i := 6) rfl (vs := [(Value.bool true)]) rfl rfl rfl (Nat.le_of_ble_eq_true rfl)) rfl rfl ?_
     intro _ w167 hS168 hA169; clear hA165
     have hS170 : Sep NoB w w167 [(obR l102 (.loop (rc104 .busy none))), (marksR (D103 :: [])), G105, (blk b119 107 [(Value.int .i64 ((t.rows.getD (((goodF t).getD q 0) + 1) (0, 0)).1)), (Value.int .i64 ((t.rows.getD (((goodF t).getD q 0) + 1) (0, 0)).2))]), (blk b110 107 [(Value.int .i64 ((t.rows.getD (((goodF t).getD q 0)) (0, 0)).1)), (Value.int .i64 ((t.rows.getD (((goodF t).getD q 0)) (0, 0)).2))]), (blk bl93 106 [(Value.int .i64 t.frm), (Value.int .i64 t.dst), vr, vb, (Value.int .i64 t.err)]), (blk b24 4 [(Value.bool true)]), (blk b19 3 [(Value.int .i64 ((madeV t x).2))]), (blk b14 159 [(Value.func (.func 103) #[] #[])]), (blk b9 3 [(Value.int .i64 x)]), (blk b4 106 [(Value.int .i64 t.frm), (Value.int .i64 t.dst), vr, vb, (Value.int .i64 t.err)]), (sl vr 2 t.rows.length (pairs t.rows)), (sl vb 1 t.brk.length (ints t.brk))] := hS168; clear hS168 hS166
     refine wl_nil ?_
     refine then_n ?_
     refine c_ret ?_
     refine blk_ret ?_
     have hS171 : Sep NoB w w167 [(obR l102 (.loop (rc104 .busy none))), (marksR (D103 :: [])), G105, (blk bl93 106 [(Value.int .i64 t.frm), (Value.int .i64 t.dst), vr, vb, (Value.int .i64 t.err)]), (blk b24 4 [(Value.bool true)]), (blk b19 3 [(Value.int .i64 ((madeV t x).2))]), (blk b14 159 [(Value.func (.func 103) #[] #[])]), (blk b9 3 [(Value.int .i64 x)]), (blk b4 106 [(Value.int .i64 t.frm), (Value.int .i64 t.dst), vr, vb, (Value.int .i64 t.err)]), (sl vr 2 t.rows.length (pairs t.rows)), (sl vb 1 t.brk.length (ints t.brk))] := hS170.keep [0, 1, 2, 5, 6, 7, 8, 9, 10, 11, 12] (by decide) _ rfl rfl; clear hS170
     exact re_ret rfl ⟨_, rfl, ⟨rfl, (by rw [made_good (fun i hi => hrw i (by omega)) hq hpc (good_piece hq (by assumption) (by assumption))]; rfl)⟩⟩ hS171
    ·skip
     rw [decide_eq_false hb149] at hA148
     refine c_false hA148 rfl ?_
     refine c_skip ?_
     refine blk_n ?_
     have hS172 : Sep NoB w w126 [(obR l102 (.loop (rc104 .busy none))), (marksR (D103 :: [])), G105, (blk bl93 106 [(Value.int .i64 t.frm), (Value.int .i64 t.dst), vr, vb, (Value.int .i64 t.err)]), (blk b24 4 [(Value.bool false)]), (blk b19 3 [(Value.int .i64 0)]), (blk b14 159 [(Value.func (.func 103) #[] #[])]), (blk b9 3 [(Value.int .i64 x)]), (blk b4 106 [(Value.int .i64 t.frm), (Value.int .i64 t.dst), vr, vb, (Value.int .i64 t.err)]), (sl vr 2 t.rows.length (pairs t.rows)), (sl vb 1 t.brk.length (ints t.brk))] := hS127.keep [0, 1, 2, 5, 6, 7, 8, 9, 10, 11, 12] (by decide) _ rfl rfl; clear hS127
     exact re_n ⟨_, rfl, ⟨rfl, (fun j hj => by rcases Nat.lt_succ_iff_lt_or_eq.1 hj with h | h; exact hpc j h; subst h; first | exact piece_n (.inl (by assumption)) | exact piece_n (.inr (.inl (by assumption))))⟩⟩ hS172
   ·skip
    rw [decide_eq_false hb138] at hA137
    refine skp hA137 rfl rfl rfl rfl rfl (by decide) fun a173 hA174 => ?_; clear hA137 a136
    refine skp hA174 rfl rfl rfl rfl rfl (by decide) fun a175 hA176 => ?_; clear hA174 a173
    refine skp hA176 rfl rfl rfl rfl rfl (by decide) fun a177 hA178 => ?_; clear hA176 a175
    refine skp hA178 rfl rfl rfl rfl rfl (by decide) fun a179 hA180 => ?_; clear hA178 a177
    refine st hA180 (op_pick_f rfl (hA180.ev rfl) (evc _ _)) rfl rfl (by decide) fun a181 hA182 => ?_; clear hA180 a179
    refine wl_nil ?_
    refine then_n ?_
    refine c_false hA182 rfl ?_
    refine c_skip ?_
    refine blk_n ?_
    have hS183 : Sep NoB w w126 [(obR l102 (.loop (rc104 .busy none))), (marksR (D103 :: [])), G105, (blk bl93 106 [(Value.int .i64 t.frm), (Value.int .i64 t.dst), vr, vb, (Value.int .i64 t.err)]), (blk b24 4 [(Value.bool false)]), (blk b19 3 [(Value.int .i64 0)]), (blk b14 159 [(Value.func (.func 103) #[] #[])]), (blk b9 3 [(Value.int .i64 x)]), (blk b4 106 [(Value.int .i64 t.frm), (Value.int .i64 t.dst), vr, vb, (Value.int .i64 t.err)]), (sl vr 2 t.rows.length (pairs t.rows)), (sl vb 1 t.brk.length (ints t.brk))] := hS127.keep [0, 1, 2, 5, 6, 7, 8, 9, 10, 11, 12] (by decide) _ rfl rfl; clear hS127
    exact re_n ⟨_, rfl, ⟨rfl, (fun j hj => by rcases Nat.lt_succ_iff_lt_or_eq.1 hj with h | h; exact hpc j h; subst h; first | exact piece_n (.inl (by assumption)) | exact piece_n (.inr (.inl (by assumption))))⟩⟩ hS183
  ·skip
   intro L_ hL_ D188 a184 w185 hA187 hS186; obtain ⟨rfl, hpc⟩ := hL_; clear hA94 hS96
   refine blk_n ?_
   refine then_n ?_
   refine c_seq ?_
   refine c_region ?_
   refine sts hA187 (op_store hS186 rfl ty_3 (hA187.ev rfl) (evc _ _) (i := 4) rfl (vs := [(Value.int .i64 0)]) rfl rfl rfl (Nat.le_of_ble_eq_true rfl)) rfl rfl ?_
   intro _ w189 hS190 hA191; clear hA187
   have hS192 : Sep NoB w w189 [(marksR (D188 :: [])), nilR, (blk bl93 106 [(Value.int .i64 t.frm), (Value.int .i64 t.dst), vr, vb, (Value.int .i64 t.err)]), (blk b24 4 [(Value.bool false)]), (blk b19 3 [(Value.int .i64 0)]), (blk b14 159 [(Value.func (.func 103) #[] #[])]), (blk b9 3 [(Value.int .i64 x)]), (blk b4 106 [(Value.int .i64 t.frm), (Value.int .i64 t.dst), vr, vb, (Value.int .i64 t.err)]), (sl vr 2 t.rows.length (pairs t.rows)), (sl vb 1 t.brk.length (ints t.brk))] := hS190; clear hS190 hS186
   refine sts hA191 (op_store hS192 rfl ty_4 (hA191.ev rfl) (evc _ _) (i := 3) rfl (vs := [(Value.bool false)]) rfl rfl rfl (Nat.le_of_ble_eq_true rfl)) rfl rfl ?_
   intro _ w193 hS194 hA195; clear hA191
   have hS196 : Sep NoB w w193 [(marksR (D188 :: [])), nilR, (blk bl93 106 [(Value.int .i64 t.frm), (Value.int .i64 t.dst), vr, vb, (Value.int .i64 t.err)]), (blk b24 4 [(Value.bool false)]), (blk b19 3 [(Value.int .i64 0)]), (blk b14 159 [(Value.func (.func 103) #[] #[])]), (blk b9 3 [(Value.int .i64 x)]), (blk b4 106 [(Value.int .i64 t.frm), (Value.int .i64 t.dst), vr, vb, (Value.int .i64 t.err)]), (sl vr 2 t.rows.length (pairs t.rows)), (sl vb 1 t.brk.length (ints t.brk))] := hS194; clear hS194 hS192
   refine wl_nil ?_
   refine then_n ?_
   refine c_ret ?_
   refine fin_runM hA195 (.inl rfl) hS196 ?_
   intro w197 hS198; clear hS196
   refine ⟨_, (run_results2 hA195 rfl (.cell1 rfl ty_3 (hS198.bk 3 rfl) rfl) (.cell1 rfl ty_4 (hS198.bk 2 rfl) rfl)), ?_⟩
   have hz := (made_goodno (fun i hi => hrw i (by omega)) (fun i hi => hpc i (by omega)))
   exact ⟨by unfold madeV; rw [hz]; rfl, hS198.ext⟩
  ·skip
   intro c_ hc_; cases hc_
   intro L_ hL_ D203 a199 w200 hA202 hS201; obtain ⟨rfl, hsm⟩ := hL_; clear hA94 hS96
   refine c_ret ?_
   refine blk_ret ?_
   refine then_ret ?_
   refine fin_runM hA202 (.inl rfl) hS201 ?_
   intro w204 hS205; clear hS201
   refine ⟨_, (run_results2 hA202 rfl (.cell1 rfl ty_3 (hS205.bk 3 rfl) rfl) (.cell1 rfl ty_4 (hS205.bk 2 rfl) rfl)), ?_⟩
   exact ⟨by rw [hsm], hS205.ext⟩
theorem around_ok (t : TabD) (vr vb : Value) (w : World) (hr : SlAt w vr 2 t.rows.length (pairs t.rows)) (hb : SlAt w vb 1 t.brk.length (ints t.brk)) (hrl : t.rows.length ≤ 1000000) (hbl : t.brk.length ≤ 1000000) (n : Int) (hV : TabV n t) (x : Int) :
  Calls Try.prog 72 #[(Value.agg #[(Value.int .i64 t.frm), (Value.int .i64 t.dst), vr, vb, (Value.int .i64 t.err)]), (Value.int .i64 x)] w (Ret fun v w' => v = .tuple #[.agg #[.int .i64 (madeV t x).1, .int .i64 (madeV t x).2], .bool (madeF t x).isSome] ∧ Ext NoB w w') := by
 refine calls_enter Try.func72 rfl fun a0 hA0 => ?_
 replace hA0 : Fr 28 [] [(0, (Value.agg #[(Value.int .i64 t.frm), (Value.int .i64 t.dst), vr, vb, (Value.int .i64 t.err)])), (1, (Value.int .i64 x))] a0 := hA0
 have hS0 : Sep NoB w w [(sl vr 2 t.rows.length (pairs t.rows)), (sl vb 1 t.brk.length (ints t.brk))] := sep_ro ⟨rfl, hr, rfl, hb, trivial⟩
 refine c_seq ?_
 refine c_region ?_
 refine stw hA0 (op_box hS0 rfl (hA0.ev rfl) (cs := [(Value.int .i64 t.frm), (Value.int .i64 t.dst), vr, vb, (Value.int .i64 t.err)]) rfl) rfl rfl (by decide) ?_
 rintro a1 _ w3 ⟨b4, rfl, hS5⟩ hA2; clear hA0 hS0 a0
 refine stw hA2 (op_alloc hS5 rfl ze_30 (cs := [(Value.int .i64 0), (Value.int .i64 0)]) rfl) rfl rfl (by decide) ?_
 rintro a6 _ w8 ⟨b9, rfl, hS10⟩ hA7; clear hA2 hS5 a1
 refine st hA7 (op_assign rfl (evc _ _)) rfl rfl (by decide) fun a11 hA12 => ?_; clear hA7 a6
 refine wl_nil ?_
 refine then_n ?_
 refine c_seq ?_
 refine c_region ?_
 refine st hA12 (op_loadA rfl ty_106 (hA12.ev rfl) (hS10.bk 1 rfl) (l := [(Value.int .i64 t.frm), (Value.int .i64 t.dst), vr, vb, (Value.int .i64 t.err)]) rfl rfl) rfl rfl (by decide) fun a13 hA14 => ?_; clear hA12 a11
 refine st hA14 (op_move rfl (hA14.ev rfl)) rfl rfl (by decide) fun a15 hA16 => ?_; clear hA14 a13
 refine st hA16 (op_build rfl (pv1 (evf _ _)) (bd_159_0f _ _ _)) rfl rfl (by decide) fun a17 hA18 => ?_; clear hA16 a15
 refine stw hA18 (op_call rfl en_101 (ev3 (hA18.ev rfl) (hA18.ev rfl) (hA18.ev rfl)) (makes_dn t _ _ _ (hS10.sk 2 rfl) (hS10.sk 3 rfl) (by omega) (by omega) _ hV x)) rfl rfl (by decide) ?_
 rintro a19 _ w21 ⟨rfl, hE22⟩ hA20; have hS23 := hS10.step hE22; clear hE22 hA18 hS10 a17
 refine st hA20 (op_move rfl (hA20.ev rfl)) rfl rfl (by decide) fun a24 hA25 => ?_; clear hA20 a19
 refine st hA25 (op_extract rfl (hA25.ev rfl) rfl) rfl rfl (by decide) fun a26 hA27 => ?_; clear hA25 a24
 refine st hA27 (op_extract rfl (hA27.ev rfl) rfl) rfl rfl (by decide) fun a28 hA29 => ?_; clear hA27 a26
 refine st hA29 (op_assign rfl (hA29.ev rfl)) rfl rfl (by decide) fun a30 hA31 => ?_; clear hA29 a28
 refine st hA31 (op_assign rfl (hA31.ev rfl)) rfl rfl (by decide) fun a32 hA33 => ?_; clear hA31 a30
 refine wl_nil ?_
 refine then_n ?_
 refine c_seq ?_
 have hA34 := hA33.as [(7, (Value.bool ((madeF t x).isSome))), (6, (Value.int .i64 ((madeV t x).1))), (4, (bptr b9 0)), (2, (bptr b4 0)), (1, (Value.int .i64 x))] rfl; clear hA33
 refine c_region ?_
 refine st hA34 (op_loadA rfl ty_106 (hA34.ev rfl) (hS23.bk 1 rfl) (l := [(Value.int .i64 t.frm), (Value.int .i64 t.dst), vr, vb, (Value.int .i64 t.err)]) rfl rfl) rfl rfl (by decide) fun a35 hA36 => ?_; clear hA34 a32
 refine st hA36 (op_move rfl (hA36.ev rfl)) rfl rfl (by decide) fun a37 hA38 => ?_; clear hA36 a35
 refine st hA38 (op_build rfl (pv1 (evf _ _)) (bd_159_0f _ _ _)) rfl rfl (by decide) fun a39 hA40 => ?_; clear hA38 a37
 refine stw hA40 (op_call rfl en_101 (ev3 (hA40.ev rfl) (hA40.ev rfl) (hA40.ev rfl)) (makes_up t _ _ _ (hS23.sk 2 rfl) (hS23.sk 3 rfl) (by omega) (by omega) _ hV x)) rfl rfl (by decide) ?_
 rintro a41 _ w43 ⟨rfl, hE44⟩ hA42; have hS45 := hS23.step hE44; clear hE44 hA40 hS23 a39
 refine st hA42 (op_move rfl (hA42.ev rfl)) rfl rfl (by decide) fun a46 hA47 => ?_; clear hA42 a41
 refine st hA47 (op_extract rfl (hA47.ev rfl) rfl) rfl rfl (by decide) fun a48 hA49 => ?_; clear hA47 a46
 refine st hA49 (op_extract rfl (hA49.ev rfl) rfl) rfl rfl (by decide) fun a50 hA51 => ?_; clear hA49 a48
 refine st hA51 (op_assign rfl (hA51.ev rfl)) rfl rfl (by decide) fun a52 hA53 => ?_; clear hA51 a50
 refine st hA53 (op_assign rfl (hA53.ev rfl)) rfl rfl (by decide) fun a54 hA55 => ?_; clear hA53 a52
 refine wl_nil ?_
 refine then_n ?_
 refine c_seq ?_
 have hA56 := hA55.as [(8, (Value.int .i64 ((madeV t x).2))), (7, (Value.bool ((madeF t x).isSome))), (6, (Value.int .i64 ((madeV t x).1))), (4, (bptr b9 0))] rfl; clear hA55
 refine c_region ?_
 refine st hA56 (op_move rfl (hA56.ev rfl)) rfl rfl (by decide) fun a57 hA58 => ?_; clear hA56 a54
 refine st hA58 (op_move rfl (hA58.ev rfl)) rfl rfl (by decide) fun a59 hA60 => ?_; clear hA58 a57
 refine st hA60 (op_build rfl (pv2 (hA60.ev rfl) (hA60.ev rfl)) (bd_30_0i_1i _ _)) rfl rfl (by decide) fun a61 hA62 => ?_; clear hA60 a59
 refine st hA62 (op_move rfl (hA62.ev rfl)) rfl rfl (by decide) fun a63 hA64 => ?_; clear hA62 a61
 refine sts hA64 (op_store hS45 rfl ty_30 (hA64.ev rfl) (hA64.ev rfl) (i := 0) rfl (vs := [(Value.int .i64 ((madeV t x).1)), (Value.int .i64 ((madeV t x).2))]) rfl rfl rfl (Nat.le_of_ble_eq_true rfl)) rfl rfl ?_
 intro _ w65 hS66 hA67; clear hA64
 have hS68 : Sep NoB w w65 [(blk b9 30 [(Value.int .i64 ((madeV t x).1)), (Value.int .i64 ((madeV t x).2))]), (blk b4 106 [(Value.int .i64 t.frm), (Value.int .i64 t.dst), vr, vb, (Value.int .i64 t.err)]), (sl vr 2 t.rows.length (pairs t.rows)), (sl vb 1 t.brk.length (ints t.brk))] := hS66; clear hS66 hS45
 refine st hA67 (op_assign rfl (hA67.ev rfl)) rfl rfl (by decide) fun a69 hA70 => ?_; clear hA67 a63
 refine wl_nil ?_
 refine then_n ?_
 refine c_ret ?_
 refine fin_run hA70 (.inl rfl) (run_results2 hA70 rfl (.cellA rfl ty_30 (hS68.bk 0 rfl) (l := [(Value.int .i64 ((madeV t x).1)), (Value.int .i64 ((madeV t x).2))]) rfl rfl) (.tmp rfl)) ?_
 exact ⟨rfl, hS68.ext⟩
theorem convert_ok (r1 r2 : Int) (t : TabD) (vr vb : Value) (w : World) (hr : SlAt w vr 2 t.rows.length (pairs t.rows)) (hb : SlAt w vb 1 t.brk.length (ints t.brk)) (hrl : t.rows.length ≤ 1000000) (hbl : t.brk.length ≤ 1000000) (n : Int) (hV : TabV n t) :
  Calls Try.prog 50 #[(Value.agg #[(Value.int .i64 t.frm), (Value.int .i64 t.dst), vr, vb, (Value.int .i64 t.err)]), (Value.agg #[(Value.int .i64 r1), (Value.int .i64 r2)])] w (Ret fun v w' => v = .agg #[.int .i64 (convF t (r1, r2)).1, .int .i64 (convF t (r1, r2)).2] ∧ Ext NoB w w') := by
 refine calls_enter Try.func50 rfl fun a0 hA0 => ?_
 replace hA0 : Fr 42 [] [(0, (Value.agg #[(Value.int .i64 t.frm), (Value.int .i64 t.dst), vr, vb, (Value.int .i64 t.err)])), (1, (Value.agg #[(Value.int .i64 r1), (Value.int .i64 r2)]))] a0 := hA0
 have hm1 := madeV_bd hV r1; have hm2 := madeV_bd hV r2; have her := hV.err
 have hS0 : Sep NoB w w [(sl vr 2 t.rows.length (pairs t.rows)), (sl vb 1 t.brk.length (ints t.brk))] := sep_ro ⟨rfl, hr, rfl, hb, trivial⟩
 refine c_seq ?_
 refine c_region ?_
 refine stw hA0 (op_box hS0 rfl (hA0.ev rfl) (cs := [(Value.int .i64 t.frm), (Value.int .i64 t.dst), vr, vb, (Value.int .i64 t.err)]) rfl) rfl rfl (by decide) ?_
 rintro a1 _ w3 ⟨b4, rfl, hS5⟩ hA2; clear hA0 hS0 a0
 refine stw hA2 (op_box hS5 rfl (hA2.ev rfl) (cs := [(Value.int .i64 r1), (Value.int .i64 r2)]) rfl) rfl rfl (by decide) ?_
 rintro a6 _ w8 ⟨b9, rfl, hS10⟩ hA7; clear hA2 hS5 a1
 refine stw hA7 (op_alloc hS10 rfl ze_30 (cs := [(Value.int .i64 0), (Value.int .i64 0)]) rfl) rfl rfl (by decide) ?_
 rintro a11 _ w13 ⟨b14, rfl, hS15⟩ hA12; clear hA7 hS10 a6
 refine wl_nil ?_
 refine then_n ?_
 refine c_seq ?_
 refine c_region ?_
 refine st hA12 (op_loadA rfl ty_106 (hA12.ev rfl) (hS15.bk 2 rfl) (l := [(Value.int .i64 t.frm), (Value.int .i64 t.dst), vr, vb, (Value.int .i64 t.err)]) rfl rfl) rfl rfl (by decide) fun a16 hA17 => ?_; clear hA12 a11
 refine st hA17 (op_field rfl fd_30_0 (hA17.ev rfl)) rfl rfl (by decide) fun a18 hA19 => ?_; clear hA17 a16
 refine st hA19 (op_load1 rfl ty_3 (hA19.ev rfl) (hS15.bk 1 rfl) rfl) rfl rfl (by decide) fun a20 hA21 => ?_; clear hA19 a18
 refine stw hA21 (op_call rfl en_72 (ev2 (hA21.ev rfl) (hA21.ev rfl)) (around_ok t _ _ _ (hS15.sk 3 rfl) (hS15.sk 4 rfl) (by omega) (by omega) _ hV r1)) rfl rfl (by decide) ?_
 rintro a22 _ w24 ⟨rfl, hE25⟩ hA23; have hS26 := hS15.step hE25; clear hE25 hA21 hS15 a20
 refine st hA23 (op_move rfl (hA23.ev rfl)) rfl rfl (by decide) fun a27 hA28 => ?_; clear hA23 a22
 refine st hA28 (op_extract rfl (hA28.ev rfl) rfl) rfl rfl (by decide) fun a29 hA30 => ?_; clear hA28 a27
 refine st hA30 (op_extract rfl (hA30.ev rfl) rfl) rfl rfl (by decide) fun a31 hA32 => ?_; clear hA30 a29
 refine stw hA32 (op_alloc hS26 rfl ze_30 (cs := [(Value.int .i64 0), (Value.int .i64 0)]) rfl) rfl rfl (by decide) ?_
 rintro a33 _ w35 ⟨b36, rfl, hS37⟩ hA34; clear hA32 hS26 a31
 refine sts hA34 (op_store hS37 rfl ty_30 (hA34.ev rfl) (hA34.ev rfl) (i := 0) rfl (vs := [(Value.int .i64 ((madeV t r1).1)), (Value.int .i64 ((madeV t r1).2))]) rfl rfl rfl (Nat.le_of_ble_eq_true rfl)) rfl rfl ?_
 intro _ w38 hS39 hA40; clear hA34
 have hS41 : Sep NoB w w38 [(blk b36 30 [(Value.int .i64 ((madeV t r1).1)), (Value.int .i64 ((madeV t r1).2))]), (blk b14 30 [(Value.int .i64 0), (Value.int .i64 0)]), (blk b9 30 [(Value.int .i64 r1), (Value.int .i64 r2)]), (blk b4 106 [(Value.int .i64 t.frm), (Value.int .i64 t.dst), vr, vb, (Value.int .i64 t.err)]), (sl vr 2 t.rows.length (pairs t.rows)), (sl vb 1 t.brk.length (ints t.brk))] := hS39; clear hS39 hS37
 refine st hA40 (op_assign rfl (hA40.ev rfl)) rfl rfl (by decide) fun a42 hA43 => ?_; clear hA40 a33
 refine wl_nil ?_
 refine then_n ?_
 refine c_seq ?_
 have hA44 := hA43.as [(5, (bptr b36 0)), (4, (bptr b14 0)), (3, (bptr b9 0)), (2, (bptr b4 0))] rfl; clear hA43
 refine c_region ?_
 refine st hA44 (op_loadA rfl ty_106 (hA44.ev rfl) (hS41.bk 3 rfl) (l := [(Value.int .i64 t.frm), (Value.int .i64 t.dst), vr, vb, (Value.int .i64 t.err)]) rfl rfl) rfl rfl (by decide) fun a45 hA46 => ?_; clear hA44 a42
 refine st hA46 (op_field rfl fd_30_1 (hA46.ev rfl)) rfl rfl (by decide) fun a47 hA48 => ?_; clear hA46 a45
 refine st hA48 (op_load1 rfl ty_3 (hA48.ev rfl) (hS41.bk 2 rfl) rfl) rfl rfl (by decide) fun a49 hA50 => ?_; clear hA48 a47
 refine stw hA50 (op_call rfl en_72 (ev2 (hA50.ev rfl) (hA50.ev rfl)) (around_ok t _ _ _ (hS41.sk 4 rfl) (hS41.sk 5 rfl) (by omega) (by omega) _ hV r2)) rfl rfl (by decide) ?_
 rintro a51 _ w53 ⟨rfl, hE54⟩ hA52; have hS55 := hS41.step hE54; clear hE54 hA50 hS41 a49
 refine st hA52 (op_move rfl (hA52.ev rfl)) rfl rfl (by decide) fun a56 hA57 => ?_; clear hA52 a51
 refine st hA57 (op_extract rfl (hA57.ev rfl) rfl) rfl rfl (by decide) fun a58 hA59 => ?_; clear hA57 a56
 refine st hA59 (op_extract rfl (hA59.ev rfl) rfl) rfl rfl (by decide) fun a60 hA61 => ?_; clear hA59 a58
 refine stw hA61 (op_alloc hS55 rfl ze_30 (cs := [(Value.int .i64 0), (Value.int .i64 0)]) rfl) rfl rfl (by decide) ?_
 rintro a62 _ w64 ⟨b65, rfl, hS66⟩ hA63; clear hA61 hS55 a60
 refine sts hA63 (op_store hS66 rfl ty_30 (hA63.ev rfl) (hA63.ev rfl) (i := 0) rfl (vs := [(Value.int .i64 ((madeV t r2).1)), (Value.int .i64 ((madeV t r2).2))]) rfl rfl rfl (Nat.le_of_ble_eq_true rfl)) rfl rfl ?_
 intro _ w67 hS68 hA69; clear hA63
 have hS70 : Sep NoB w w67 [(blk b65 30 [(Value.int .i64 ((madeV t r2).1)), (Value.int .i64 ((madeV t r2).2))]), (blk b36 30 [(Value.int .i64 ((madeV t r1).1)), (Value.int .i64 ((madeV t r1).2))]), (blk b14 30 [(Value.int .i64 0), (Value.int .i64 0)]), (blk b9 30 [(Value.int .i64 r1), (Value.int .i64 r2)]), (blk b4 106 [(Value.int .i64 t.frm), (Value.int .i64 t.dst), vr, vb, (Value.int .i64 t.err)]), (sl vr 2 t.rows.length (pairs t.rows)), (sl vb 1 t.brk.length (ints t.brk))] := hS68; clear hS68 hS66
 refine st hA69 (op_assign rfl (hA69.ev rfl)) rfl rfl (by decide) fun a71 hA72 => ?_; clear hA69 a62
 refine wl_nil ?_
 refine then_n ?_
 refine c_seq ?_
 have hA73 := hA72.as [(7, (bptr b65 0)), (5, (bptr b36 0)), (4, (bptr b14 0)), (2, (bptr b4 0))] rfl; clear hA72
 have hA74 := hA73.as [(7, (bptr b65 0)), (5, (bptr b36 0)), (4, (bptr b14 0)), (2, (bptr b4 0))] rfl; clear hA73
 refine c_drawV mixed hA74 hS70 18 [[], [0], [], [2], [1, 3], [4], [], [6], [5, 7], [], [9], [], [11], [10, 12], [13], [], [15], [14, 16]] [(fun (vs75 : Nat → Value) (v_ : Value) (rs_ : List Res) => v_ = (bptr b36 0) ∧ rs_ = []), (fun (vs75 : Nat → Value) (v_ : Value) (rs_ : List Res) => v_ = (Value.int .i64 ((madeV t r1).1)) ∧ rs_ = []), (fun (vs75 : Nat → Value) (v_ : Value) (rs_ : List Res) => v_ = (bptr b65 0) ∧ rs_ = []), (fun (vs75 : Nat → Value) (v_ : Value) (rs_ : List Res) => v_ = (Value.int .i64 ((madeV t r2).1)) ∧ rs_ = []), (fun (vs75 : Nat → Value) (v_ : Value) (rs_ : List Res) => True ∧ rs_ = [(row v_ 3 1 2 [(Value.int .i64 ((madeV t r1).1)), (Value.int .i64 ((madeV t r2).1))])]), (fun (vs75 : Nat → Value) (v_ : Value) (rs_ : List Res) => v_ = (Value.int .i64 (min ((madeV t r1).1) ((madeV t r2).1))) ∧ rs_ = []), (fun (vs75 : Nat → Value) (v_ : Value) (rs_ : List Res) => v_ = (bptr b4 4) ∧ rs_ = []), (fun (vs75 : Nat → Value) (v_ : Value) (rs_ : List Res) => v_ = (Value.int .i64 t.err) ∧ rs_ = []), (fun (vs75 : Nat → Value) (v_ : Value) (rs_ : List Res) => v_ = (Value.int .i64 ((min ((madeV t r1).1) ((madeV t r2).1)) - t.err)) ∧ rs_ = []), (fun (vs75 : Nat → Value) (v_ : Value) (rs_ : List Res) => v_ = (bptr b36 1) ∧ rs_ = []), (fun (vs75 : Nat → Value) (v_ : Value) (rs_ : List Res) => v_ = (Value.int .i64 ((madeV t r1).2)) ∧ rs_ = []), (fun (vs75 : Nat → Value) (v_ : Value) (rs_ : List Res) => v_ = (bptr b65 1) ∧ rs_ = []), (fun (vs75 : Nat → Value) (v_ : Value) (rs_ : List Res) => v_ = (Value.int .i64 ((madeV t r2).2)) ∧ rs_ = []), (fun (vs75 : Nat → Value) (v_ : Value) (rs_ : List Res) => True ∧ rs_ = [(row v_ 3 1 2 [(Value.int .i64 ((madeV t r1).2)), (Value.int .i64 ((madeV t r2).2))])]), (fun (vs75 : Nat → Value) (v_ : Value) (rs_ : List Res) => v_ = (Value.int .i64 (max ((madeV t r1).2) ((madeV t r2).2))) ∧ rs_ = []), (fun (vs75 : Nat → Value) (v_ : Value) (rs_ : List Res) => v_ = (bptr b4 4) ∧ rs_ = []), (fun (vs75 : Nat → Value) (v_ : Value) (rs_ : List Res) => v_ = (Value.int .i64 t.err) ∧ rs_ = []), (fun (vs75 : Nat → Value) (v_ : Value) (rs_ : List Res) => v_ = (Value.int .i64 ((max ((madeV t r1).2) ((madeV t r2).2)) + t.err)) ∧ rs_ = [])] (by decide +kernel) (by decide +kernel) rfl rfl ⟨(fun _ _ _ _ _ h_ => h_), (fun _ _ _ _ _ h_ => h_), (fun _ _ _ _ _ h_ => h_), (fun _ _ _ _ _ h_ => h_), (fun _ _ _ _ _ h_ => h_), (fun _ _ _ _ _ h_ => h_), (fun _ _ _ _ _ h_ => h_), (fun _ _ _ _ _ h_ => h_), (fun _ _ _ _ _ h_ => h_), (fun _ _ _ _ _ h_ => h_), (fun _ _ _ _ _ h_ => h_), (fun _ _ _ _ _ h_ => h_), (fun _ _ _ _ _ h_ => h_), (fun _ _ _ _ _ h_ => h_), (fun _ _ _ _ _ h_ => h_), (fun _ _ _ _ _ h_ => h_), (fun _ _ _ _ _ h_ => h_), (fun _ _ _ _ _ h_ => h_), trivial⟩ ?_ ?_
 ·skip
  refine ⟨fun a w vs75 hA hS hd => ?_, ?_⟩
  ·skip
   exact opG_of rfl (vv (op_field rfl fd_30_0 (hA.ev rfl)) (And.intro rfl rfl))
  refine ⟨fun a w vs75 hA hS hd => ?_, ?_⟩
  ·skip
   obtain ⟨e0, rs0, hy0, hp0⟩ := hd 0 (by decide)
   obtain ⟨hv0, hr0⟩ := hy0; subst hr0
   rw [hv0] at e0
   exact opG_of rfl (vv (op_load1 rfl ty_3 (tmp_ev (slot_ev e0 rfl)) (hS.bk 1 rfl) rfl) (And.intro rfl rfl))
  refine ⟨fun a w vs75 hA hS hd => ?_, ?_⟩
  ·skip
   exact opG_of rfl (vv (op_field rfl fd_30_0 (hA.ev rfl)) (And.intro rfl rfl))
  refine ⟨fun a w vs75 hA hS hd => ?_, ?_⟩
  ·skip
   obtain ⟨e2, rs2, hy2, hp2⟩ := hd 2 (by decide)
   obtain ⟨hv2, hr2⟩ := hy2; subst hr2
   rw [hv2] at e2
   exact opG_of rfl (vv (op_load1 rfl ty_3 (tmp_ev (slot_ev e2 rfl)) (hS.bk 0 rfl) rfl) (And.intro rfl rfl))
  refine ⟨fun a w vs75 hA hS hd => ?_, ?_⟩
  ·skip
   obtain ⟨e1, rs1, hy1, hp1⟩ := hd 1 (by decide)
   obtain ⟨hv1, hr1⟩ := hy1; subst hr1
   rw [hv1] at e1
   obtain ⟨e3, rs3, hy3, hp3⟩ := hd 3 (by decide)
   obtain ⟨hv3, hr3⟩ := hy3; subst hr3
   rw [hv3] at e3
   exact opG_of rfl (vblt rfl (pv2 (tmp_ev (slot_ev e1 rfl)) (tmp_ev (slot_ev e3 rfl))) un_44 ty_3 ze_3 (by decide) (cs := [(Value.int .i64 ((madeV t r1).1)), (Value.int .i64 ((madeV t r2).1))]) (bs_3_2_0i_1i _ _) rfl (by decide) (fun _ => And.intro trivial rfl))
  refine ⟨fun a w vs75 hA hS hd => ?_, ?_⟩
  ·skip
   obtain ⟨e4, rs4, hy4, hp4⟩ := hd 4 (by decide)
   obtain ⟨hv4, hr4⟩ := hy4; subst hr4
   have hp4_0 := hp4 _ (List.mem_of_getElem? (i := 0) rfl)
   exact opG_of rfl (vx (op_call rfl en_79 (ev1 (tmp_ev (slot_ev e4 rfl))) (callsI (least_ok [(madeV t r1).1, (madeV t r2).1] _ _ (SlAt.of_row hp4_0) (by simp) (by simp)) (min ((madeV t r1).1) ((madeV t r2).1)) rfl)) (And.intro rfl rfl))
  refine ⟨fun a w vs75 hA hS hd => ?_, ?_⟩
  ·skip
   exact opG_of rfl (vv (op_field rfl fd_106_4 (hA.ev rfl)) (And.intro rfl rfl))
  refine ⟨fun a w vs75 hA hS hd => ?_, ?_⟩
  ·skip
   obtain ⟨e6, rs6, hy6, hp6⟩ := hd 6 (by decide)
   obtain ⟨hv6, hr6⟩ := hy6; subst hr6
   rw [hv6] at e6
   exact opG_of rfl (vv (op_load1 rfl ty_3 (tmp_ev (slot_ev e6 rfl)) (hS.bk 4 rfl) rfl) (And.intro rfl rfl))
  refine ⟨fun a w vs75 hA hS hd => ?_, ?_⟩
  ·skip
   obtain ⟨e5, rs5, hy5, hp5⟩ := hd 5 (by decide)
   obtain ⟨hv5, hr5⟩ := hy5; subst hr5
   rw [hv5] at e5
   obtain ⟨e7, rs7, hy7, hp7⟩ := hd 7 (by decide)
   obtain ⟨hv7, hr7⟩ := hy7; subst hr7
   rw [hv7] at e7
   exact opG_of rfl (vv (op_sub rfl (tmp_ev (slot_ev e5 rfl)) (tmp_ev (slot_ev e7 rfl)) (by omega) (by omega)) (And.intro rfl rfl))
  refine ⟨fun a w vs75 hA hS hd => ?_, ?_⟩
  ·skip
   exact opG_of rfl (vv (op_field rfl fd_30_1 (hA.ev rfl)) (And.intro rfl rfl))
  refine ⟨fun a w vs75 hA hS hd => ?_, ?_⟩
  ·skip
   obtain ⟨e9, rs9, hy9, hp9⟩ := hd 9 (by decide)
   obtain ⟨hv9, hr9⟩ := hy9; subst hr9
   rw [hv9] at e9
   exact opG_of rfl (vv (op_load1 rfl ty_3 (tmp_ev (slot_ev e9 rfl)) (hS.bk 1 rfl) rfl) (And.intro rfl rfl))
  refine ⟨fun a w vs75 hA hS hd => ?_, ?_⟩
  ·skip
   exact opG_of rfl (vv (op_field rfl fd_30_1 (hA.ev rfl)) (And.intro rfl rfl))
  refine ⟨fun a w vs75 hA hS hd => ?_, ?_⟩
  ·skip
   obtain ⟨e11, rs11, hy11, hp11⟩ := hd 11 (by decide)
   obtain ⟨hv11, hr11⟩ := hy11; subst hr11
   rw [hv11] at e11
   exact opG_of rfl (vv (op_load1 rfl ty_3 (tmp_ev (slot_ev e11 rfl)) (hS.bk 0 rfl) rfl) (And.intro rfl rfl))
  refine ⟨fun a w vs75 hA hS hd => ?_, ?_⟩
  ·skip
   obtain ⟨e10, rs10, hy10, hp10⟩ := hd 10 (by decide)
   obtain ⟨hv10, hr10⟩ := hy10; subst hr10
   rw [hv10] at e10
   obtain ⟨e12, rs12, hy12, hp12⟩ := hd 12 (by decide)
   obtain ⟨hv12, hr12⟩ := hy12; subst hr12
   rw [hv12] at e12
   exact opG_of rfl (vblt rfl (pv2 (tmp_ev (slot_ev e10 rfl)) (tmp_ev (slot_ev e12 rfl))) un_44 ty_3 ze_3 (by decide) (cs := [(Value.int .i64 ((madeV t r1).2)), (Value.int .i64 ((madeV t r2).2))]) (bs_3_2_0i_1i _ _) rfl (by decide) (fun _ => And.intro trivial rfl))
  refine ⟨fun a w vs75 hA hS hd => ?_, ?_⟩
  ·skip
   obtain ⟨e13, rs13, hy13, hp13⟩ := hd 13 (by decide)
   obtain ⟨hv13, hr13⟩ := hy13; subst hr13
   have hp13_0 := hp13 _ (List.mem_of_getElem? (i := 0) rfl)
   exact opG_of rfl (vx (op_call rfl en_80 (ev1 (tmp_ev (slot_ev e13 rfl))) (callsI (greatest_ok [(madeV t r1).2, (madeV t r2).2] _ _ (SlAt.of_row hp13_0) (by simp) (by simp)) (max ((madeV t r1).2) ((madeV t r2).2)) rfl)) (And.intro rfl rfl))
  refine ⟨fun a w vs75 hA hS hd => ?_, ?_⟩
  ·skip
   exact opG_of rfl (vv (op_field rfl fd_106_4 (hA.ev rfl)) (And.intro rfl rfl))
  refine ⟨fun a w vs75 hA hS hd => ?_, ?_⟩
  ·skip
   obtain ⟨e15, rs15, hy15, hp15⟩ := hd 15 (by decide)
   obtain ⟨hv15, hr15⟩ := hy15; subst hr15
   rw [hv15] at e15
   exact opG_of rfl (vv (op_load1 rfl ty_3 (tmp_ev (slot_ev e15 rfl)) (hS.bk 4 rfl) rfl) (And.intro rfl rfl))
  refine ⟨fun a w vs75 hA hS hd => ?_, ?_⟩
  ·skip
   obtain ⟨e14, rs14, hy14, hp14⟩ := hd 14 (by decide)
   obtain ⟨hv14, hr14⟩ := hy14; subst hr14
   rw [hv14] at e14
   obtain ⟨e16, rs16, hy16, hp16⟩ := hd 16 (by decide)
   obtain ⟨hv16, hr16⟩ := hy16; subst hr16
   rw [hv16] at e16
   exact opG_of rfl (vv (op_add rfl (tmp_ev (slot_ev e14 rfl)) (tmp_ev (slot_ev e16 rfl)) (by omega) (by omega)) (And.intro rfl rfl))
  trivial
 intro a76 w77 vs75 rsf81 hA78 hH80 hS79; clear hA74 hS70
 obtain ⟨hs_0, hy_0⟩ := hH80 0 (by decide)
 obtain ⟨hv_0, hr_0⟩ := hy_0
 obtain ⟨hs_1, hy_1⟩ := hH80 1 (by decide)
 obtain ⟨hv_1, hr_1⟩ := hy_1
 obtain ⟨hs_2, hy_2⟩ := hH80 2 (by decide)
 obtain ⟨hv_2, hr_2⟩ := hy_2
 obtain ⟨hs_3, hy_3⟩ := hH80 3 (by decide)
 obtain ⟨hv_3, hr_3⟩ := hy_3
 obtain ⟨hs_4, hy_4⟩ := hH80 4 (by decide)
 obtain ⟨hv_4, hr_4⟩ := hy_4
 obtain ⟨hs_5, hy_5⟩ := hH80 5 (by decide)
 obtain ⟨hv_5, hr_5⟩ := hy_5
 obtain ⟨hs_6, hy_6⟩ := hH80 6 (by decide)
 obtain ⟨hv_6, hr_6⟩ := hy_6
 obtain ⟨hs_7, hy_7⟩ := hH80 7 (by decide)
 obtain ⟨hv_7, hr_7⟩ := hy_7
 obtain ⟨hs_8, hy_8⟩ := hH80 8 (by decide)
 obtain ⟨hv_8, hr_8⟩ := hy_8
 obtain ⟨hs_9, hy_9⟩ := hH80 9 (by decide)
 obtain ⟨hv_9, hr_9⟩ := hy_9
 obtain ⟨hs_10, hy_10⟩ := hH80 10 (by decide)
 obtain ⟨hv_10, hr_10⟩ := hy_10
 obtain ⟨hs_11, hy_11⟩ := hH80 11 (by decide)
 obtain ⟨hv_11, hr_11⟩ := hy_11
 obtain ⟨hs_12, hy_12⟩ := hH80 12 (by decide)
 obtain ⟨hv_12, hr_12⟩ := hy_12
 obtain ⟨hs_13, hy_13⟩ := hH80 13 (by decide)
 obtain ⟨hv_13, hr_13⟩ := hy_13
 obtain ⟨hs_14, hy_14⟩ := hH80 14 (by decide)
 obtain ⟨hv_14, hr_14⟩ := hy_14
 obtain ⟨hs_15, hy_15⟩ := hH80 15 (by decide)
 obtain ⟨hv_15, hr_15⟩ := hy_15
 obtain ⟨hs_16, hy_16⟩ := hH80 16 (by decide)
 obtain ⟨hv_16, hr_16⟩ := hy_16
 obtain ⟨hs_17, hy_17⟩ := hH80 17 (by decide)
 obtain ⟨hv_17, hr_17⟩ := hy_17
 have hS82 : Sep NoB w w77 [(row (vs75 4) 3 1 2 [(Value.int .i64 ((madeV t r1).1)), (Value.int .i64 ((madeV t r2).1))]), (row (vs75 13) 3 1 2 [(Value.int .i64 ((madeV t r1).2)), (Value.int .i64 ((madeV t r2).2))]), (blk b65 30 [(Value.int .i64 ((madeV t r2).1)), (Value.int .i64 ((madeV t r2).2))]), (blk b36 30 [(Value.int .i64 ((madeV t r1).1)), (Value.int .i64 ((madeV t r1).2))]), (blk b14 30 [(Value.int .i64 0), (Value.int .i64 0)]), (blk b9 30 [(Value.int .i64 r1), (Value.int .i64 r2)]), (blk b4 106 [(Value.int .i64 t.frm), (Value.int .i64 t.dst), vr, vb, (Value.int .i64 t.err)]), (sl vr 2 t.rows.length (pairs t.rows)), (sl vb 1 t.brk.length (ints t.brk))] := by rw [show catR rsf81 0 18 = ([(row (vs75 4) 3 1 2 [(Value.int .i64 ((madeV t r1).1)), (Value.int .i64 ((madeV t r2).1))]), (row (vs75 13) 3 1 2 [(Value.int .i64 ((madeV t r1).2)), (Value.int .i64 ((madeV t r2).2))])] : List Res) by (try simp only [catR, hr_0, hr_1, hr_2, hr_3, hr_4, hr_5, hr_6, hr_7, hr_8, hr_9, hr_10, hr_11, hr_12, hr_13, hr_14, hr_15, hr_16, hr_17]); (try rfl)] at hS79; exact hS79
 rw [hv_8] at hs_8
 have hA83 : Fr 42 [] [(31, (Value.int .i64 ((min ((madeV t r1).1) ((madeV t r2).1)) - t.err))), (7, (bptr b65 0)), (5, (bptr b36 0)), (4, (bptr b14 0)), (2, (bptr b4 0))] a76 := hA78.add (slot_ev hs_8 rfl); clear hA78
 rw [hv_17] at hs_17
 have hA84 : Fr 42 [] [(40, (Value.int .i64 ((max ((madeV t r1).2) ((madeV t r2).2)) + t.err))), (31, (Value.int .i64 ((min ((madeV t r1).1) ((madeV t r2).1)) - t.err))), (7, (bptr b65 0)), (5, (bptr b36 0)), (4, (bptr b14 0)), (2, (bptr b4 0))] a76 := hA83.add (slot_ev hs_17 rfl); clear hA83
 clear hH80 hS79 hs_0 hs_1 hs_2 hs_3 hs_4 hs_5 hs_6 hs_7 hs_8 hs_9 hs_10 hs_11 hs_12 hs_13 hs_14 hs_15 hs_16 hs_17
 clear hr_0
 clear hv_0
 clear hr_1
 clear hv_1
 clear hr_2
 clear hv_2
 clear hr_3
 clear hv_3
 clear hr_4
 clear hv_4
 clear hr_5
 clear hv_5
 clear hr_6
 clear hv_6
 clear hr_7
 clear hv_7
 clear hr_8
 clear hv_8
 clear hr_9
 clear hv_9
 clear hr_10
 clear hv_10
 clear hr_11
 clear hv_11
 clear hr_12
 clear hv_12
 clear hr_13
 clear hv_13
 clear hr_14
 clear hv_14
 clear hr_15
 clear hv_15
 clear hr_16
 clear hv_16
 clear hr_17
 clear hv_17
 refine st hA84 (op_build rfl (pv2 (hA84.ev rfl) (hA84.ev rfl)) (bd_30_0i_1i _ _)) rfl rfl (by decide) fun a85 hA86 => ?_; clear hA84 a76
 refine sts hA86 (op_store hS82 rfl ty_30 (hA86.ev rfl) (hA86.ev rfl) (i := 4) rfl (vs := [(Value.int .i64 ((min ((madeV t r1).1) ((madeV t r2).1)) - t.err)), (Value.int .i64 ((max ((madeV t r1).2) ((madeV t r2).2)) + t.err))]) rfl rfl rfl (Nat.le_of_ble_eq_true rfl)) rfl rfl ?_
 intro _ w87 hS88 hA89; clear hA86
 have hS90 : Sep NoB w w87 [(row (vs75 4) 3 1 2 [(Value.int .i64 ((madeV t r1).1)), (Value.int .i64 ((madeV t r2).1))]), (row (vs75 13) 3 1 2 [(Value.int .i64 ((madeV t r1).2)), (Value.int .i64 ((madeV t r2).2))]), (blk b65 30 [(Value.int .i64 ((madeV t r2).1)), (Value.int .i64 ((madeV t r2).2))]), (blk b36 30 [(Value.int .i64 ((madeV t r1).1)), (Value.int .i64 ((madeV t r1).2))]), (blk b14 30 [(Value.int .i64 ((min ((madeV t r1).1) ((madeV t r2).1)) - t.err)), (Value.int .i64 ((max ((madeV t r1).2) ((madeV t r2).2)) + t.err))]), (blk b9 30 [(Value.int .i64 r1), (Value.int .i64 r2)]), (blk b4 106 [(Value.int .i64 t.frm), (Value.int .i64 t.dst), vr, vb, (Value.int .i64 t.err)]), (sl vr 2 t.rows.length (pairs t.rows)), (sl vb 1 t.brk.length (ints t.brk))] := hS88; clear hS88 hS82
 refine wl_nil ?_
 refine then_n ?_
 refine c_ret ?_
 refine fin_run hA89 (.inl rfl) (run_results1 hA89 rfl (.cellA rfl ty_30 (hS90.bk 4 rfl) (l := [(Value.int .i64 ((min ((madeV t r1).1) ((madeV t r2).1)) - t.err)), (Value.int .i64 ((max ((madeV t r1).2) ((madeV t r2).2)) + t.err))]) rfl rfl)) ?_
 exact ⟨rfl, hS90.ext⟩
end Go.Proofs.Ytohgladndklciaa

namespace Go.Proofs.Ytohgladndklciaa
open Go.RowKit Go.Shelf Go.Eng Go.Hard
theorem indexB_int (xs : List Int) (lf : Nat → Int) (bm : Nat) (v : Value) (fid : Nat) (fs cs : Array Value) (p : Nat → Bool) (w : World) (hJ : Sep (fun b => b = bm) w w [blk bm 3 [.int .i64 (lf 0)], sl v 1 xs.length (ints xs)]) (hlen : xs.length ≤ 1000000) (hf : AsksB Try.prog w fid fs cs xs.length (fun i => .int .i64 (xs.getD i 0)) p false bm 3 (fun i => [.int .i64 (lf i)])) :
  Calls Try.prog 115 #[v, (Value.func (.func fid) fs cs)] w (Ret fun v w' => v = .int .i64 (fidx p xs.length) ∧ Ext (fun b => b = bm) w w' ∧ ∃ x, (blk bm 3 [.int .i64 x]).p w') := by
 refine calls_enter Try.func115 rfl fun a0 hA0 => ?_
 replace hA0 : Fr 19 [] [(0, v), (1, (Value.func (.func fid) fs cs))] a0 := hA0
 have hS0 : Sep (fun b => b = bm) w w [(blk bm 3 [(Value.int .i64 (lf 0))]), (sl v 1 xs.length (ints xs))] := hJ
 refine c_seq ?_
 refine c_region ?_
 refine st hA0 (op_assign rfl (evc _ _)) rfl rfl (by decide) fun a1 hA2 => ?_; clear hA0 a0
 refine wl_nil ?_
 refine then_n ?_
 refine c_seq ?_
 refine c_seq ?_
 refine c_region ?_
 refine st hA2 (op_move rfl (hA2.ev rfl)) rfl rfl (by decide) fun a3 hA4 => ?_; clear hA2 a1
 refine st hA4 (op_lenS rfl un_44 (hA4.ev rfl) (hS0.sk 1 rfl)) rfl rfl (by decide) fun a5 hA6 => ?_; clear hA4 a3
 refine st hA6 (op_move rfl (evc _ _)) rfl rfl (by decide) fun a7 hA8 => ?_; clear hA6 a5
 refine wl_nil ?_
 refine then_n ?_
 refine c_block ?_
 have hA9 := hA8.as [(8, (Value.int .i64 0)), (7, (Value.int .i64 (xs.length : Int))), (0, v), (1, (Value.func (.func fid) fs cs))] rfl; clear hA8
 refine c_loop (G := Nat) (fun (k : Nat) a_ w_ => Fr 19 [] [(8, (Value.int .i64 (k : Int))), (7, (Value.int .i64 (xs.length : Int))), (0, v), (1, (Value.func (.func fid) fs cs))] a_ ∧ Sep (fun b => b = bm) w w_ [(blk bm 3 [(Value.int .i64 (lf k))]), (sl v 1 xs.length (ints xs))] ∧ (k ≤ xs.length) ∧ (∀ i, i < k → p i = false)) (fun k => xs.length - k) 0 ⟨hA9.as _ rfl, hS0, by omega, by omega⟩ ?_
 clear hA9 hS0 a7
 rintro k a10 w12 ⟨hA11, hS13, hk, hn⟩
 refine c_seq ?_
 refine c_region ?_
 refine st hA11 (op_lss rfl (hA11.ev rfl) (hA11.ev rfl)) rfl rfl (by decide) fun a14 hA15 => ?_; clear hA11 a10
 refine wl_nil ?_
 refine then_n ?_
 refine c_seq ?_
 by_cases hb16 : (k : Int) < (xs.length : Int)
 ·skip
  rw [decide_eq_true hb16] at hA15
  refine c_true hA15 rfl ?_
  refine c_skip ?_
  refine then_n ?_
  refine c_seq ?_
  refine c_block ?_
  refine c_seq ?_
  refine c_region ?_
  refine st hA15 (op_move rfl (hA15.ev rfl)) rfl rfl (by decide) fun a17 hA18 => ?_; clear hA15 a14
  refine st hA18 (op_assign rfl (hA18.ev rfl)) rfl rfl (by decide) fun a19 hA20 => ?_; clear hA18 a17
  refine wl_nil ?_
  refine then_n ?_
  refine c_seq ?_
  refine c_region ?_
  refine st hA20 (op_move rfl (hA20.ev rfl)) rfl rfl (by decide) fun a21 hA22 => ?_; clear hA20 a19
  refine st hA22 (op_move rfl (hA22.ev rfl)) rfl rfl (by decide) fun a23 hA24 => ?_; clear hA22 a21
  refine st hA24 (op_move rfl (hA24.ev rfl)) rfl rfl (by decide) fun a25 hA26 => ?_; clear hA24 a23
  refine st hA26 (op_indexS rfl un_44 ty_3 (hA26.ev rfl) (i := k) (hA26.ev rfl) (hS13.sk 1 rfl) (by decide) (by omega)) rfl rfl (by decide) fun a27 hA28 => ?_; clear hA26 a25
  refine st hA28 (op_load1E rfl ty_3 (hA28.ev rfl) (hS13.sk 1 rfl) (ints_at (by omega))) rfl rfl (by decide) fun a29 hA30 => ?_; clear hA28 a27
  refine stw hA30 (op_callv rfl (hA30.ev rfl) hf.1 (ev1 (hA30.ev rfl)) (hf.2 k (by omega) hn _ hS13.ext (hS13.bk 0 rfl))) rfl rfl (by decide) ?_
  rintro a31 _ w33 ⟨rfl, hE34, hM35⟩ hA32; have hS36 := hS13.updB (i := 0) rfl hE34 hM35; clear hE34 hM35 hA30 hS13 a29
  refine wl_nil ?_
  refine then_n ?_
  rcases Bool.eq_false_or_eq_true (p k) with hb37 | hb37
  ·skip
   rw [hb37] at hA32
   refine c_true hA32 rfl ?_
   refine c_seq ?_
   have hA38 := hA32.as [(5, (Value.int .i64 (k : Int)))] rfl; clear hA32
   refine c_region ?_
   refine st hA38 (op_move rfl (hA38.ev rfl)) rfl rfl (by decide) fun a39 hA40 => ?_; clear hA38 a31
   refine st hA40 (op_assign rfl (hA40.ev rfl)) rfl rfl (by decide) fun a41 hA42 => ?_; clear hA40 a39
   refine wl_nil ?_
   refine then_n ?_
   refine c_ret ?_
   refine blk_ret ?_
   refine then_ret ?_
   refine then_ret ?_
   refine blk_ret ?_
   refine then_ret ?_
   refine fin_run hA42 (.inl rfl) (run_results1 hA42 rfl (.tmp rfl)) ?_
   exact ⟨by first | rw [fidx_hit (by omega) hn (by assumption)] | rw [fidx_miss (fun i hi => hn i (by omega))], hS36.ext, _, hS36.bk 0 rfl⟩
  ·skip
   rw [hb37] at hA32
   refine c_false hA32 rfl ?_
   refine c_skip ?_
   refine blk_n ?_
   refine then_n ?_
   have hA43 := hA32.as [(8, (Value.int .i64 (k : Int))), (7, (Value.int .i64 (xs.length : Int))), (0, v), (1, (Value.func (.func fid) fs cs))] rfl; clear hA32
   refine c_region ?_
   refine st hA43 (op_add rfl (hA43.ev rfl) (evc _ _) (by omega) (by omega)) rfl rfl (by decide) fun a44 hA45 => ?_; clear hA43 a31
   refine st hA45 (op_move rfl (hA45.ev rfl)) rfl rfl (by decide) fun a46 hA47 => ?_; clear hA45 a44
   refine wl_nil ?_
   exact then_n ⟨k + 1, ⟨hA47.as _ rfl, hS36, by omega, (fun i hi => by rcases Nat.lt_succ_iff_lt_or_eq.1 hi with h | h; exact hn i h; subst h; assumption)⟩, by omega⟩
 ·skip
  rw [decide_eq_false hb16] at hA15
  refine c_false hA15 rfl ?_
  refine c_exit ?_
  refine then_exit ?_
  refine then_exit ?_
  refine blk_hit ?_
  refine then_n ?_
  refine c_seq ?_
  refine c_region ?_
  refine st hA15 (op_assign rfl (evc _ _)) rfl rfl (by decide) fun a48 hA49 => ?_; clear hA15 a14
  refine wl_nil ?_
  refine then_n ?_
  refine c_ret ?_
  refine fin_run hA49 (.inl rfl) (run_results1 hA49 rfl (.tmp rfl)) ?_
  exact ⟨by first | rw [fidx_hit (by omega) hn (by assumption)] | rw [fidx_miss (fun i hi => hn i (by omega))], hS13.ext, _, hS13.bk 0 rfl⟩
theorem contB_int (xs : List Int) (lf : Nat → Int) (bm : Nat) (v : Value) (fid : Nat) (fs cs : Array Value) (p : Nat → Bool) (w : World) (hJ : Sep (fun b => b = bm) w w [blk bm 3 [.int .i64 (lf 0)], sl v 1 xs.length (ints xs)]) (hlen : xs.length ≤ 1000000) (hf : AsksB Try.prog w fid fs cs xs.length (fun i => .int .i64 (xs.getD i 0)) p false bm 3 (fun i => [.int .i64 (lf i)])) :
  Calls Try.prog 99 #[v, (Value.func (.func fid) fs cs)] w (Ret fun v w' => v = .bool ((List.range xs.length).any p) ∧ Ext (fun b => b = bm) w w' ∧ ∃ x, (blk bm 3 [.int .i64 x]).p w') := by
 refine calls_enter Try.func99 rfl fun a0 hA0 => ?_
 replace hA0 : Fr 9 [] [(0, v), (1, (Value.func (.func fid) fs cs))] a0 := hA0
 have hS0 : Sep (fun b => b = bm) w w [(blk bm 3 [(Value.int .i64 (lf 0))]), (sl v 1 xs.length (ints xs))] := hJ
 refine c_seq ?_
 refine c_region ?_
 refine st hA0 (op_assign rfl (evc _ _)) rfl rfl (by decide) fun a1 hA2 => ?_; clear hA0 a0
 refine wl_nil ?_
 refine then_n ?_
 refine c_seq ?_
 refine c_region ?_
 refine st hA2 (op_move rfl (hA2.ev rfl)) rfl rfl (by decide) fun a3 hA4 => ?_; clear hA2 a1
 refine st hA4 (op_move rfl (hA4.ev rfl)) rfl rfl (by decide) fun a5 hA6 => ?_; clear hA4 a3
 refine stw hA6 (op_call rfl en_115 (ev2 (hA6.ev rfl) (hA6.ev rfl)) (indexB_int xs lf bm _ _ _ _ p _ hJ hlen hf)) rfl rfl (by decide) ?_
 rintro a7 _ w9 ⟨rfl, hE10, lx13, hM11⟩ hA8; have hS12 := hS0.updB (i := 0) rfl hE10 hM11; clear hE10 hM11 hA6 hS0 a5
 refine st hA8 (op_geq rfl (hA8.ev rfl) (evc _ _)) rfl rfl (by decide) fun a14 hA15 => ?_; clear hA8 a7
 refine st hA15 (op_assign rfl (hA15.ev rfl)) rfl rfl (by decide) fun a16 hA17 => ?_; clear hA15 a14
 refine wl_nil ?_
 refine then_n ?_
 refine c_ret ?_
 refine fin_run hA17 (.inl rfl) (run_results1 hA17 rfl (.tmp rfl)) ?_
 exact ⟨congrArg Value.bool (fidx_any p xs.length), hS12.ext, _, hS12.bk 0 rfl⟩
theorem cloB_int (x : Int) (b bm fid : Nat) (l0 l1 : Int) (fs cs : Array Value) (q : Bool) (w : World) (hJ : Sep (fun k => k = bm) w w [blk bm 3 [.int .i64 l0], rob b 112 [.func (.func fid) fs cs]]) (hen : ∀ args W, (callFunc fid args).run Try.prog W = .ok (.enter fid args) W) (hf : ∀ W, Ext (fun k => k = bm) w W → (blk bm 3 [.int .i64 l0]).p W → Calls Try.prog fid (fs ++ #[.int .i64 x] ++ cs) W (Ret fun v w' => v = .bool q ∧ Ext (fun k => k = bm) W w' ∧ (blk bm 3 [.int .i64 l1]).p w')) :
  Calls Try.prog 100 #[(Value.int .i64 x), (bptr b 0)] w (Ret fun v w' => v = .bool (!q) ∧ Ext (fun k => k = bm) w w' ∧ (blk bm 3 [.int .i64 l1]).p w') := by
 refine calls_enter Try.func100 rfl fun a0 hA0 => ?_
 replace hA0 : Fr 8 [] [(0, (Value.int .i64 x)), (1, (bptr b 0))] a0 := hA0
 have hS0 : Sep (fun k => k = bm) w w [(blk bm 3 [(Value.int .i64 l0)]), (rob b 112 [(Value.func (.func fid) fs cs)])] := hJ
 refine c_seq ?_
 refine c_region ?_
 refine st hA0 (op_assign rfl (evc _ _)) rfl rfl (by decide) fun a1 hA2 => ?_; clear hA0 a0
 refine wl_nil ?_
 refine then_n ?_
 refine c_seq ?_
 refine c_region ?_
 refine st hA2 (op_load1 rfl ty_112 (hA2.ev rfl) (hS0.rk 1 rfl) rfl) rfl rfl (by decide) fun a3 hA4 => ?_; clear hA2 a1
 refine st hA4 (op_move rfl (hA4.ev rfl)) rfl rfl (by decide) fun a5 hA6 => ?_; clear hA4 a3
 refine stw hA6 (op_callv rfl (hA6.ev rfl) hen (ev1 (hA6.ev rfl)) (hf _ hS0.ext (hS0.bk 0 rfl))) rfl rfl (by decide) ?_
 rintro a7 _ w9 ⟨rfl, hE10, hM11⟩ hA8; have hS12 := hS0.updB (i := 0) rfl hE10 hM11; clear hE10 hM11 hA6 hS0 a5
 refine st hA8 (op_not rfl (hA8.ev rfl)) rfl rfl (by decide) fun a13 hA14 => ?_; clear hA8 a7
 refine st hA14 (op_assign rfl (hA14.ev rfl)) rfl rfl (by decide) fun a15 hA16 => ?_; clear hA14 a13
 refine wl_nil ?_
 refine then_n ?_
 refine c_ret ?_
 refine fin_run hA16 (.inl rfl) (run_results1 hA16 rfl (.tmp rfl)) ?_
 exact ⟨rfl, hS12.ext, hS12.bk 0 rfl⟩
theorem allB_int (xs : List Int) (lf : Nat → Int) (bm : Nat) (v : Value) (fid : Nat) (fs cs : Array Value) (p : Nat → Bool) (w : World) (hJ : Sep (fun b => b = bm) w w [blk bm 3 [.int .i64 (lf 0)], sl v 1 xs.length (ints xs)]) (hlen : xs.length ≤ 1000000) (hf : AsksB Try.prog w fid fs cs xs.length (fun i => .int .i64 (xs.getD i 0)) p true bm 3 (fun i => [.int .i64 (lf i)])) :
  Calls Try.prog 69 #[v, (Value.func (.func fid) fs cs)] w (Ret fun v w' => v = .bool ((List.range xs.length).all p) ∧ Ext (fun b => b = bm) w w' ∧ ∃ x, (blk bm 3 [.int .i64 x]).p w') := by
 refine calls_enter Try.func69 rfl fun a0 hA0 => ?_
 replace hA0 : Fr 9 [] [(0, v), (1, (Value.func (.func fid) fs cs))] a0 := hA0
 have hS0 : Sep (fun b => b = bm) w w [(blk bm 3 [(Value.int .i64 (lf 0))]), (sl v 1 xs.length (ints xs))] := hJ
 refine c_seq ?_
 refine c_region ?_
 refine stw hA0 (op_box hS0 rfl (hA0.ev rfl) (cs := [(Value.func (.func fid) fs cs)]) rfl) rfl rfl (by decide) ?_
 rintro a1 _ w3 ⟨b4, rfl, hS5⟩ hA2; clear hA0 hS0 a0
 refine st hA2 (op_assign rfl (evc _ _)) rfl rfl (by decide) fun a6 hA7 => ?_; clear hA2 a1
 refine wl_nil ?_
 refine then_n ?_
 refine c_seq ?_
 refine c_region ?_
 refine st hA7 (op_move rfl (hA7.ev rfl)) rfl rfl (by decide) fun a8 hA9 => ?_; clear hA7 a6
 refine st hA9 (op_makeFunc rfl ev0 (ev1 (hA9.ev rfl))) rfl rfl (by decide) fun a10 hA11 => ?_; clear hA9 a8
 refine stw hA11 (op_call rfl en_99 (ev2 (hA11.ev rfl) (hA11.ev rfl)) (contB_int xs lf bm _ 100 #[] #[(bptr b4 0)] (fun i => !p i) _ (hS5.lend (i := 1) rfl rfl (L' := [(sl v 1 xs.length (ints xs))]) (js := [2]) ⟨rfl, by decide, hS5.sk 2 rfl, ⟨_, rfl, fun _ hz => hz⟩, trivial⟩) hlen ⟨en_100, fun i hi hz W hW hb => cloB_int _ _ _ _ _ _ _ _ (p i) W ((hS5.updB (i := 1) rfl hW hb).lend (i := 1) rfl rfl (L' := [rob b4 112 [(Value.func (.func fid) fs cs)]]) (js := [0]) ⟨rfl, by decide, (hS5.updB (i := 1) rfl hW hb).bk 0 rfl, ⟨_, rfl, fun _ hz => hz⟩, trivial⟩) hf.1 (fun W' hW' hb' => hf.2 i hi (fun j hj => (Bool.not_eq_false' (p j)).mp (hz j hj)) W' (hS5.ext.trans (hW.trans hW')) hb')⟩)) rfl rfl (by decide) ?_
 rintro a12 _ w14 ⟨rfl, hE15, lx18, hM16⟩ hA13; have hS17 := hS5.updB (i := 1) rfl hE15 hM16; clear hE15 hM16 hA11 hS5 a10
 refine st hA13 (op_not rfl (hA13.ev rfl)) rfl rfl (by decide) fun a19 hA20 => ?_; clear hA13 a12
 refine st hA20 (op_assign rfl (hA20.ev rfl)) rfl rfl (by decide) fun a21 hA22 => ?_; clear hA20 a19
 refine wl_nil ?_
 refine then_n ?_
 refine c_ret ?_
 refine fin_run hA22 (.inl rfl) (run_results1 hA22 rfl (.tmp rfl)) ?_
 exact ⟨congrArg Value.bool (any_not p xs.length), hS17.ext, _, hS17.bk 1 rfl⟩
end Go.Proofs.Ytohgladndklciaa

namespace Go.Hard
section
variable {n : Int} {t : TabD}
theorem tab_rows (h : (List.range t.rows.length).all (fun i => rowB (t.rows.getD i (0, 0))) = false) : tabB n t = false := by
  cases hb : tabB n t with
  | false => rfl
  | true =>
    have g := (tabB_iff.1 hb).2.2.2.2.2.1
    have : (List.range t.rows.length).all (fun i => rowB (t.rows.getD i (0, 0))) = true := List.all_eq_true.2 fun i hi => g i (List.mem_range.1 hi)
    rw [this] at h; cases h
theorem tab_rest (h1 : inB t.frm 0 (n - 1) = true) (h2 : inB t.dst 0 (n - 1) = true) (h3 : ¬ t.frm = t.dst) (h4 : inB t.err 0 1000 = true) (h5 : 2 ≤ t.rows.length) (h6 : (List.range t.rows.length).all (fun i => rowB (t.rows.getD i (0, 0))) = true) (h7 : ∀ i, i < t.rows.length - 1 → stepB (risesB t) (t.rows.getD i (0, 0)) (t.rows.getD (i + 1) (0, 0)) = true) : tabB n t = (List.range t.brk.length).all (brkB t) := by
  have h7' : allI (t.rows.length - 1) (fun i => stepB (risesB t) (t.rows.getD i (0, 0)) (t.rows.getD (i + 1) (0, 0))) = true := allI_iff.2 h7
  have h6' : allI t.rows.length (fun i => rowB (t.rows.getD i (0, 0))) = true := h6
  unfold tabB headB
  rw [h1, h2, h4, h6', h7', decide_eq_true (show 2 ≤ (t.rows.length : Int) by omega), decide_eq_false h3]
  rfl
theorem last_bd (i : Nat) (h : ∀ j, j < i → brkB t j = true) : -1 ≤ lastU t i ∧ lastU t i ≤ (t.rows.length : Int) := by
  induction i with
  | zero => exact ⟨Int.le_refl _, by show (-1 : Int) ≤ _; omega⟩
  | succ i ih =>
    have a := ih fun j hj => h j (by omega)
    have b := inB_iff.1 (h i (by omega))
    show -1 ≤ t.brk.getD i 0 ∧ t.brk.getD i 0 ≤ _
    omega
end
end Go.Hard

namespace Go.Proofs.Ytohgladndklciaa
open Go.RowKit Go.Shelf Go.Eng Go.Hard
theorem fd_106_0 : fldK Try.prog 106 0 = some 0 := by kernel_rfl
theorem fd_106_1 : fldK Try.prog 106 1 = some 1 := by kernel_rfl
theorem en_95 : ∀ args w, (callFunc 95 args).run Try.prog w = .ok (.enter 95 args) w := enters_of Try.func95 (by kernel_rfl) rfl
theorem en_94 : ∀ args w, (callFunc 94 args).run Try.prog w = .ok (.enter 94 args) w := enters_of Try.func94 (by kernel_rfl) rfl
theorem en_96 : ∀ args w, (callFunc 96 args).run Try.prog w = .ok (.enter 96 args) w := enters_of Try.func96 (by kernel_rfl) rfl
theorem lastclo_ok (x l0 : Int) (t : TabD) (vr vb : Value) (bm b3 : Nat) (w : World) (hJ : Sep (fun b => b = bm) w w [blk bm 3 [.int .i64 l0], rob b3 106 [.int .i64 t.frm, .int .i64 t.dst, vr, vb, .int .i64 t.err], sl vr 2 t.rows.length (pairs t.rows), sl vb 1 t.brk.length (ints t.brk)]) (hl0 : -1 ≤ l0 ∧ l0 ≤ 1000000) (hrl : t.rows.length ≤ 1000000) :
  Calls Try.prog 96 #[(Value.int .i64 x), (bptr bm 0), (bptr b3 0)] w (Ret fun v w' => v = .bool (inB x (l0 + 1) ((t.rows.length : Int) - 2)) ∧ Ext (fun b => b = bm) w w' ∧ (blk bm 3 [.int .i64 x]).p w') := by
 refine calls_enter Try.func96 rfl fun a0 hA0 => ?_
 replace hA0 : Fr 16 [] [(0, (Value.int .i64 x)), (1, (bptr bm 0)), (2, (bptr b3 0))] a0 := hA0
 have hS0 : Sep (fun b => b = bm) w w [(blk bm 3 [(Value.int .i64 l0)]), (rob b3 106 [(Value.int .i64 t.frm), (Value.int .i64 t.dst), vr, vb, (Value.int .i64 t.err)]), (sl vr 2 t.rows.length (pairs t.rows)), (sl vb 1 t.brk.length (ints t.brk))] := hJ
 refine c_seq ?_
 refine c_region ?_
 refine st hA0 (op_assign rfl (evc _ _)) rfl rfl (by decide) fun a1 hA2 => ?_; clear hA0 a0
 refine wl_nil ?_
 refine then_n ?_
 refine c_seq ?_
 refine c_region ?_
 refine st hA2 (op_move rfl (hA2.ev rfl)) rfl rfl (by decide) fun a3 hA4 => ?_; clear hA2 a1
 refine st hA4 (op_load1 rfl ty_3 (hA4.ev rfl) (hS0.bk 0 rfl) rfl) rfl rfl (by decide) fun a5 hA6 => ?_; clear hA4 a3
 refine st hA6 (op_add rfl (hA6.ev rfl) (evc _ _) (by omega) (by omega)) rfl rfl (by decide) fun a7 hA8 => ?_; clear hA6 a5
 refine st hA8 (op_field rfl fd_106_2 (hA8.ev rfl)) rfl rfl (by decide) fun a9 hA10 => ?_; clear hA8 a7
 refine st hA10 (op_load1 rfl ty_104 (hA10.ev rfl) (hS0.rk 1 rfl) rfl) rfl rfl (by decide) fun a11 hA12 => ?_; clear hA10 a9
 refine st hA12 (op_lenS rfl un_104 (hA12.ev rfl) (hS0.sk 2 rfl)) rfl rfl (by decide) fun a13 hA14 => ?_; clear hA12 a11
 refine st hA14 (op_sub rfl (hA14.ev rfl) (evc _ _) (by omega) (by omega)) rfl rfl (by decide) fun a15 hA16 => ?_; clear hA14 a13
 refine stw hA16 (op_call rfl en_47 (ev3 (hA16.ev rfl) (hA16.ev rfl) (hA16.ev rfl)) (within_ok _ _ _ _)) rfl rfl (by decide) ?_
 rintro a17 _ W_ ⟨rfl, hW_⟩ hA18; have hW2_ := hW_.symm; subst hW2_; clear hW_ hA16 a15
 refine st hA18 (op_assign rfl (hA18.ev rfl)) rfl rfl (by decide) fun a20 hA21 => ?_; clear hA18 a17
 refine wl_nil ?_
 refine then_n ?_
 refine c_seq ?_
 have hA22 := hA21.as [(5, (Value.bool (inB x (l0 + 1) ((t.rows.length : Int) - 2)))), (0, (Value.int .i64 x)), (1, (bptr bm 0))] rfl; clear hA21
 refine c_region ?_
 refine st hA22 (op_move rfl (hA22.ev rfl)) rfl rfl (by decide) fun a23 hA24 => ?_; clear hA22 a20
 refine sts hA24 (op_store hS0 rfl ty_3 (hA24.ev rfl) (hA24.ev rfl) (i := 0) rfl (vs := [(Value.int .i64 x)]) rfl rfl rfl (Nat.le_of_ble_eq_true rfl)) rfl rfl ?_
 intro _ w25 hS26 hA27; clear hA24
 have hS28 : Sep (fun b => b = bm) w w25 [(blk bm 3 [(Value.int .i64 x)]), (rob b3 106 [(Value.int .i64 t.frm), (Value.int .i64 t.dst), vr, vb, (Value.int .i64 t.err)]), (sl vr 2 t.rows.length (pairs t.rows)), (sl vb 1 t.brk.length (ints t.brk))] := hS26; clear hS26 hS0
 refine wl_nil ?_
 refine then_n ?_
 refine c_seq ?_
 refine c_region ?_
 refine st hA27 (op_move rfl (hA27.ev rfl)) rfl rfl (by decide) fun a29 hA30 => ?_; clear hA27 a23
 refine st hA30 (op_assign rfl (hA30.ev rfl)) rfl rfl (by decide) fun a31 hA32 => ?_; clear hA30 a29
 refine wl_nil ?_
 refine then_n ?_
 refine c_ret ?_
 refine fin_run hA32 (.inl rfl) (run_results1 hA32 rfl (.tmp rfl)) ?_
 exact ⟨rfl, hS28.ext, hS28.bk 0 rfl⟩
set_option maxHeartbeats 4000000 in
theorem table_ok (sc : Int) (vt vm : Value) (h1_ : vt.oneCell' = true) (h2_ : vm.oneCell' = true) (hsc : 1 ≤ sc ∧ sc ≤ 4) (t : TabD) (vr vb : Value) (w : World) (hr : SlAt w vr 2 t.rows.length (pairs t.rows)) (hb : SlAt w vb 1 t.brk.length (ints t.brk)) (hrl : t.rows.length ≤ 1000000) (hbl : t.brk.length ≤ 1000000) :
  Calls Try.prog 65 #[(Value.agg #[(Value.int .i64 sc), vt, vm]), (Value.agg #[(Value.int .i64 t.frm), (Value.int .i64 t.dst), vr, vb, (Value.int .i64 t.err)])] w (Ret fun v w' => v = .bool (tabB sc t) ∧ Ext NoB w w') := by
 refine calls_enter Try.func65 rfl fun a0 hA0 => ?_
 replace hA0 : Fr 98 [] [(0, (Value.agg #[(Value.int .i64 sc), vt, vm])), (1, (Value.agg #[(Value.int .i64 t.frm), (Value.int .i64 t.dst), vr, vb, (Value.int .i64 t.err)]))] a0 := hA0
 have hS0 : Sep NoB w w [(sl vr 2 t.rows.length (pairs t.rows)), (sl vb 1 t.brk.length (ints t.brk))] := sep_ro ⟨rfl, hr, rfl, hb, trivial⟩
 refine c_seq ?_
 refine c_region ?_
 refine stw hA0 (op_box hS0 rfl (hA0.ev rfl) (cs := [(Value.int .i64 sc), vt, vm]) rfl) rfl rfl (by decide) ?_
 rintro a1 _ w3 ⟨b4, rfl, hS5⟩ hA2; clear hA0 hS0 a0
 refine stw hA2 (op_box hS5 rfl (hA2.ev rfl) (cs := [(Value.int .i64 t.frm), (Value.int .i64 t.dst), vr, vb, (Value.int .i64 t.err)]) rfl) rfl rfl (by decide) ?_
 rintro a6 _ w8 ⟨b9, rfl, hS10⟩ hA7; clear hA2 hS5 a1
 refine st hA7 (op_assign rfl (evc _ _)) rfl rfl (by decide) fun a11 hA12 => ?_; clear hA7 a6
 refine wl_nil ?_
 refine then_n ?_
 refine c_seq ?_
 refine c_seq ?_
 refine c_region ?_
 refine st hA12 (op_loadA rfl ty_37 (hA12.ev rfl) (hS10.bk 1 rfl) (l := [(Value.int .i64 sc), vt, vm]) rfl rfl) rfl rfl (by decide) fun a13 hA14 => ?_; clear hA12 a11
 refine st hA14 (op_field rfl fd_106_0 (hA14.ev rfl)) rfl rfl (by decide) fun a15 hA16 => ?_; clear hA14 a13
 refine st hA16 (op_load1 rfl ty_3 (hA16.ev rfl) (hS10.bk 0 rfl) rfl) rfl rfl (by decide) fun a17 hA18 => ?_; clear hA16 a15
 refine stw hA18 (op_call rfl en_93 (ev2 (hA18.ev rfl) (hA18.ev rfl)) (scale_ok t.frm sc _ _ _ h1_ h2_ hsc)) rfl rfl (by decide) ?_
 rintro a19 _ w21 ⟨rfl, hE22⟩ hA20; have hS23 := hS10.step hE22; clear hE22 hA18 hS10 a17
 refine st hA20 (op_not rfl (hA20.ev rfl)) rfl rfl (by decide) fun a24 hA25 => ?_; clear hA20 a19
 refine st hA25 (op_move rfl (hA25.ev rfl)) rfl rfl (by decide) fun a26 hA27 => ?_; clear hA25 a24
 rcases Bool.eq_false_or_eq_true ((inB t.frm 0 (sc - 1))) with hb28 | hb28
 ·skip
  rw [hb28] at hA27
  refine stg hA27 (op_loadA rfl ty_37 (hA27.ev rfl) (hS23.bk 1 rfl) (l := [(Value.int .i64 sc), vt, vm]) rfl rfl) rfl rfl rfl rfl (by decide) fun a29 hA30 => ?_; clear hA27 a26
  refine stg hA30 (op_field rfl fd_106_1 (hA30.ev rfl)) rfl rfl rfl rfl (by decide) fun a31 hA32 => ?_; clear hA30 a29
  refine stg hA32 (op_load1 rfl ty_3 (hA32.ev rfl) (hS23.bk 0 rfl) rfl) rfl rfl rfl rfl (by decide) fun a33 hA34 => ?_; clear hA32 a31
  refine stwg hA34 (op_call rfl en_93 (ev2 (hA34.ev rfl) (hA34.ev rfl)) (scale_ok t.dst sc _ _ _ h1_ h2_ hsc)) rfl rfl rfl rfl (by decide) ?_
  rintro a35 _ w37 ⟨rfl, hE38⟩ hA36; have hS39 := hS23.step hE38; clear hE38 hA34 hS23 a33
  refine stg hA36 (op_not rfl (hA36.ev rfl)) rfl rfl rfl rfl (by decide) fun a40 hA41 => ?_; clear hA36 a35
  refine st hA41 (op_pick_f rfl (hA41.ev rfl) (hA41.ev rfl)) rfl rfl (by decide) fun a42 hA43 => ?_; clear hA41 a40
  refine st hA43 (op_move rfl (hA43.ev rfl)) rfl rfl (by decide) fun a44 hA45 => ?_; clear hA43 a42
  rcases Bool.eq_false_or_eq_true ((inB t.dst 0 (sc - 1))) with hb46 | hb46
  ·skip
   rw [hb46] at hA45
   refine stg hA45 (op_field rfl fd_106_0 (hA45.ev rfl)) rfl rfl rfl rfl (by decide) fun a47 hA48 => ?_; clear hA45 a44
   refine stg hA48 (op_load1 rfl ty_3 (hA48.ev rfl) (hS39.bk 0 rfl) rfl) rfl rfl rfl rfl (by decide) fun a49 hA50 => ?_; clear hA48 a47
   refine stg hA50 (op_field rfl fd_106_1 (hA50.ev rfl)) rfl rfl rfl rfl (by decide) fun a51 hA52 => ?_; clear hA50 a49
   refine stg hA52 (op_load1 rfl ty_3 (hA52.ev rfl) (hS39.bk 0 rfl) rfl) rfl rfl rfl rfl (by decide) fun a53 hA54 => ?_; clear hA52 a51
   refine stg hA54 (op_eql rfl (hA54.ev rfl) (hA54.ev rfl)) rfl rfl rfl rfl (by decide) fun a55 hA56 => ?_; clear hA54 a53
   refine st hA56 (op_pick_f rfl (hA56.ev rfl) (hA56.ev rfl)) rfl rfl (by decide) fun a57 hA58 => ?_; clear hA56 a55
   refine st hA58 (op_move rfl (hA58.ev rfl)) rfl rfl (by decide) fun a59 hA60 => ?_; clear hA58 a57
   by_cases hb61 : t.frm = t.dst
   ·skip
    rw [decide_eq_true hb61] at hA60
    refine skp hA60 rfl rfl rfl rfl rfl (by decide) fun a62 hA63 => ?_; clear hA60 a59
    refine skp hA63 rfl rfl rfl rfl rfl (by decide) fun a64 hA65 => ?_; clear hA63 a62
    refine skp hA65 rfl rfl rfl rfl rfl (by decide) fun a66 hA67 => ?_; clear hA65 a64
    refine skp hA67 rfl rfl rfl rfl rfl (by decide) fun a68 hA69 => ?_; clear hA67 a66
    refine st hA69 (op_pick_t rfl (hA69.ev rfl) (evc _ _)) rfl rfl (by decide) fun a70 hA71 => ?_; clear hA69 a68
    refine st hA71 (op_move rfl (hA71.ev rfl)) rfl rfl (by decide) fun a72 hA73 => ?_; clear hA71 a70
    refine skp hA73 rfl rfl rfl rfl rfl (by decide) fun a74 hA75 => ?_; clear hA73 a72
    refine skp hA75 rfl rfl rfl rfl rfl (by decide) fun a76 hA77 => ?_; clear hA75 a74
    refine skp hA77 rfl rfl rfl rfl rfl (by decide) fun a78 hA79 => ?_; clear hA77 a76
    refine skp hA79 rfl rfl rfl rfl rfl (by decide) fun a80 hA81 => ?_; clear hA79 a78
    refine st hA81 (op_pick_t rfl (hA81.ev rfl) (evc _ _)) rfl rfl (by decide) fun a82 hA83 => ?_; clear hA81 a80
    refine st hA83 (op_move rfl (hA83.ev rfl)) rfl rfl (by decide) fun a84 hA85 => ?_; clear hA83 a82
    refine skp hA85 rfl rfl rfl rfl rfl (by decide) fun a86 hA87 => ?_; clear hA85 a84
    refine skp hA87 rfl rfl rfl rfl rfl (by decide) fun a88 hA89 => ?_; clear hA87 a86
    refine skp hA89 rfl rfl rfl rfl rfl (by decide) fun a90 hA91 => ?_; clear hA89 a88
    refine skp hA91 rfl rfl rfl rfl rfl (by decide) fun a92 hA93 => ?_; clear hA91 a90
    refine st hA93 (op_pick_t rfl (hA93.ev rfl) (evc _ _)) rfl rfl (by decide) fun a94 hA95 => ?_; clear hA93 a92
    refine wl_nil ?_
    refine then_n ?_
    refine c_true hA95 rfl ?_
    refine c_seq ?_
    have hA96 := hA95.as [] rfl; clear hA95
    refine c_region ?_
    refine st hA96 (op_assign rfl (evc _ _)) rfl rfl (by decide) fun a97 hA98 => ?_; clear hA96 a94
    refine wl_nil ?_
    refine then_n ?_
    refine c_ret ?_
    refine then_ret ?_
    refine fin_run hA98 (.inl rfl) (run_results1 hA98 rfl (.tmp rfl)) ?_
    exact ⟨congrArg Value.bool (Eq.symm (by first | exact tab_rows (by assumption) | exact tab_head (by first | exact .inl (by assumption) | exact .inr (.inl (by assumption)) | exact .inr (.inr (.inl (by assumption))) | exact .inr (.inr (.inr (.inl (by assumption)))) | exact .inr (.inr (.inr (.inr (by omega))))))), hS39.ext⟩
   ·skip
    rw [decide_eq_false hb61] at hA60
    refine stg hA60 (op_field rfl fd_106_4 (hA60.ev rfl)) rfl rfl rfl rfl (by decide) fun a99 hA100 => ?_; clear hA60 a59
    refine stg hA100 (op_load1 rfl ty_3 (hA100.ev rfl) (hS39.bk 0 rfl) rfl) rfl rfl rfl rfl (by decide) fun a101 hA102 => ?_; clear hA100 a99
    refine stwg hA102 (op_call rfl en_47 (ev3 (hA102.ev rfl) (evc _ _) (evc _ _)) (within_ok _ _ _ _)) rfl rfl rfl rfl (by decide) ?_
    rintro a103 _ W_ ⟨rfl, hW_⟩ hA104; have hW2_ := hW_.symm; subst hW2_; clear hW_ hA102 a101
    refine stg hA104 (op_not rfl (hA104.ev rfl)) rfl rfl rfl rfl (by decide) fun a106 hA107 => ?_; clear hA104 a103
    refine st hA107 (op_pick_f rfl (hA107.ev rfl) (hA107.ev rfl)) rfl rfl (by decide) fun a108 hA109 => ?_; clear hA107 a106
    refine st hA109 (op_move rfl (hA109.ev rfl)) rfl rfl (by decide) fun a110 hA111 => ?_; clear hA109 a108
    rcases Bool.eq_false_or_eq_true ((inB t.err 0 1000)) with hb112 | hb112
    ·skip
     rw [hb112] at hA111
     refine stg hA111 (op_field rfl fd_106_2 (hA111.ev rfl)) rfl rfl rfl rfl (by decide) fun a113 hA114 => ?_; clear hA111 a110
     refine stg hA114 (op_load1 rfl ty_104 (hA114.ev rfl) (hS39.bk 0 rfl) rfl) rfl rfl rfl rfl (by decide) fun a115 hA116 => ?_; clear hA114 a113
     refine stg hA116 (op_lenS rfl un_104 (hA116.ev rfl) (hS39.sk 2 rfl)) rfl rfl rfl rfl (by decide) fun a117 hA118 => ?_; clear hA116 a115
     refine stg hA118 (op_lss rfl (hA118.ev rfl) (evc _ _)) rfl rfl rfl rfl (by decide) fun a119 hA120 => ?_; clear hA118 a117
     refine st hA120 (op_pick_f rfl (hA120.ev rfl) (hA120.ev rfl)) rfl rfl (by decide) fun a121 hA122 => ?_; clear hA120 a119
     refine st hA122 (op_move rfl (hA122.ev rfl)) rfl rfl (by decide) fun a123 hA124 => ?_; clear hA122 a121
     by_cases hb125 : (t.rows.length : Int) < 2
     ·skip
      rw [decide_eq_true hb125] at hA124
      refine skp hA124 rfl rfl rfl rfl rfl (by decide) fun a126 hA127 => ?_; clear hA124 a123
      refine skp hA127 rfl rfl rfl rfl rfl (by decide) fun a128 hA129 => ?_; clear hA127 a126
      refine skp hA129 rfl rfl rfl rfl rfl (by decide) fun a130 hA131 => ?_; clear hA129 a128
      refine skp hA131 rfl rfl rfl rfl rfl (by decide) fun a132 hA133 => ?_; clear hA131 a130
      refine st hA133 (op_pick_t rfl (hA133.ev rfl) (evc _ _)) rfl rfl (by decide) fun a134 hA135 => ?_; clear hA133 a132
      refine wl_nil ?_
      refine then_n ?_
      refine c_true hA135 rfl ?_
      refine c_seq ?_
      have hA136 := hA135.as [] rfl; clear hA135
      refine c_region ?_
      refine st hA136 (op_assign rfl (evc _ _)) rfl rfl (by decide) fun a137 hA138 => ?_; clear hA136 a134
      refine wl_nil ?_
      refine then_n ?_
      refine c_ret ?_
      refine then_ret ?_
      refine fin_run hA138 (.inl rfl) (run_results1 hA138 rfl (.tmp rfl)) ?_
      exact ⟨congrArg Value.bool (Eq.symm (by first | exact tab_rows (by assumption) | exact tab_head (by first | exact .inl (by assumption) | exact .inr (.inl (by assumption)) | exact .inr (.inr (.inl (by assumption))) | exact .inr (.inr (.inr (.inl (by assumption)))) | exact .inr (.inr (.inr (.inr (by omega))))))), hS39.ext⟩
     ·skip
      rw [decide_eq_false hb125] at hA124
      refine stg hA124 (op_field rfl fd_106_2 (hA124.ev rfl)) rfl rfl rfl rfl (by decide) fun a139 hA140 => ?_; clear hA124 a123
      refine stg hA140 (op_load1 rfl ty_104 (hA140.ev rfl) (hS39.bk 0 rfl) rfl) rfl rfl rfl rfl (by decide) fun a141 hA142 => ?_; clear hA140 a139
      refine stwg hA142 (op_call rfl en_94 (ev2 (hA142.ev rfl) (evf _ _)) (all_row t.rows _ 95 #[] #[] (fun i => rowB (t.rows.getD i (0, 0))) _ (hS39.sk 2 rfl) (by omega) ⟨en_95, fun i hi W hW => row_ok _ _ W⟩)) rfl rfl rfl rfl (by decide) ?_
      rintro a143 _ w145 ⟨rfl, hE146⟩ hA144; have hS147 := hS39.step hE146; clear hE146 hA142 hS39 a141
      refine stg hA144 (op_not rfl (hA144.ev rfl)) rfl rfl rfl rfl (by decide) fun a148 hA149 => ?_; clear hA144 a143
      refine st hA149 (op_pick_f rfl (hA149.ev rfl) (hA149.ev rfl)) rfl rfl (by decide) fun a150 hA151 => ?_; clear hA149 a148
      refine wl_nil ?_
      refine then_n ?_
      rcases Bool.eq_false_or_eq_true (((List.range t.rows.length).all (fun i => rowB (t.rows.getD i (0, 0))))) with hb152 | hb152
      ·skip
       rw [hb152] at hA151
       refine c_false hA151 rfl ?_
       refine c_skip ?_
       refine then_n ?_
       refine c_seq ?_
       have hA153 := hA151.as [(3, (bptr b9 0))] rfl; clear hA151
       have hA154 := hA153.as [(3, (bptr b9 0))] rfl; clear hA153
       refine c_drawn mixed hA154 hS147 10 [[], [0], [1], [2], [3], [], [5], [6], [7], [8]] [(Yd.val (bptr b9 2)), (Yd.val vr), (Yd.val (eptr vr (0 * 2))), (Yd.val (eptr vr (0 * 2 + 1))), (Yd.val (Value.int .i64 ((t.rows.getD 0 (0, 0)).2))), (Yd.val (bptr b9 2)), (Yd.val vr), (Yd.val (eptr vr (1 * 2))), (Yd.val (eptr vr (1 * 2 + 1))), (Yd.val (Value.int .i64 ((t.rows.getD 1 (0, 0)).2)))] (by decide +kernel) rfl rfl ?_ ?_
       ·skip
        refine ⟨fun a w hA hS hd => by exact opG_of rfl (dv (op_field rfl fd_106_2 (hA.ev rfl)) hS rfl), ?_⟩
        refine ⟨fun a w hA hS hd => by have e0 := has_ev (hd 0 (by decide)) rfl (fun _ h => h); exact opG_of rfl (dv (op_load1 rfl ty_104 (tmp_ev e0) (hS.bk 0 rfl) rfl) hS rfl), ?_⟩
        refine ⟨fun a w hA hS hd => by have e1 := has_ev (hd 1 (by decide)) rfl (fun _ h => h); exact opG_of rfl (dv (op_indexS rfl un_104 ty_107 (tmp_ev e1) (i := 0) (show _ = Value.int .i64 ((0 : Nat) : Int) from (evc _ _)) (hS.sk 2 rfl) (by decide) (by omega)) hS rfl), ?_⟩
        refine ⟨fun a w hA hS hd => by have e2 := has_ev (hd 2 (by decide)) rfl (fun _ h => h); exact opG_of rfl (dv (op_fieldS rfl fd_107_1 (tmp_ev e2) (hS.sk 2 rfl) (by rw [((hS.sk 2 rfl)).1]; omega)) hS rfl), ?_⟩
        refine ⟨fun a w hA hS hd => by have e3 := has_ev (hd 3 (by decide)) rfl (fun _ h => h); exact opG_of rfl (dv (op_load1E rfl ty_3 (tmp_ev e3) (hS.sk 2 rfl) (pairs_at1 (by omega))) hS rfl), ?_⟩
        refine ⟨fun a w hA hS hd => by exact opG_of rfl (dv (op_field rfl fd_106_2 (hA.ev rfl)) hS rfl), ?_⟩
        refine ⟨fun a w hA hS hd => by have e5 := has_ev (hd 5 (by decide)) rfl (fun _ h => h); exact opG_of rfl (dv (op_load1 rfl ty_104 (tmp_ev e5) (hS.bk 0 rfl) rfl) hS rfl), ?_⟩
        refine ⟨fun a w hA hS hd => by have e6 := has_ev (hd 6 (by decide)) rfl (fun _ h => h); exact opG_of rfl (dv (op_indexS rfl un_104 ty_107 (tmp_ev e6) (i := 1) (show _ = Value.int .i64 ((1 : Nat) : Int) from (evc _ _)) (hS.sk 2 rfl) (by decide) (by omega)) hS rfl), ?_⟩
        refine ⟨fun a w hA hS hd => by have e7 := has_ev (hd 7 (by decide)) rfl (fun _ h => h); exact opG_of rfl (dv (op_fieldS rfl fd_107_1 (tmp_ev e7) (hS.sk 2 rfl) (by rw [((hS.sk 2 rfl)).1]; omega)) hS rfl), ?_⟩
        refine ⟨fun a w hA hS hd => by have e8 := has_ev (hd 8 (by decide)) rfl (fun _ h => h); exact opG_of rfl (dv (op_load1E rfl ty_3 (tmp_ev e8) (hS.sk 2 rfl) (pairs_at1 (by omega))) hS rfl), ?_⟩
        trivial
       intro a156 w157 hA158 hS159 hH160; clear hA154 hS147
       have hA161 := hA158.add (has_ev (hH160 4 (by decide)) rfl (fun _ h => h)); clear hA158
       have hA162 := hA161.add (has_ev (hH160 9 (by decide)) rfl (fun _ h => h)); clear hA161
       clear hH160
       refine st hA162 (op_lss rfl (hA162.ev rfl) (hA162.ev rfl)) rfl rfl (by decide) fun a163 hA164 => ?_; clear hA162 a156
       refine st hA164 (op_assign rfl (hA164.ev rfl)) rfl rfl (by decide) fun a165 hA166 => ?_; clear hA164 a163
       refine wl_nil ?_
       refine then_n ?_
       refine c_seq ?_
       refine c_seq ?_
       refine c_region ?_
       refine st hA166 (op_field rfl fd_106_2 (hA166.ev rfl)) rfl rfl (by decide) fun a167 hA168 => ?_; clear hA166 a165
       refine st hA168 (op_load1 rfl ty_104 (hA168.ev rfl) (hS159.bk 0 rfl) rfl) rfl rfl (by decide) fun a169 hA170 => ?_; clear hA168 a167
       refine st hA170 (op_sliceLo rfl un_104 ty_107 (hA170.ev rfl) (l := 1) (show _ = Value.int .i64 ((1 : Nat) : Int) from (evc _ _)) (hS159.sk 2 rfl) (by omega)) rfl rfl (by decide) fun a171 hA172 => ?_; clear hA170 a169
       refine st hA172 (op_lenS rfl un_104 (hA172.ev rfl) (SlAt.say (n' := (t.rows.length - 1)) (cs' := (pairs (t.rows.drop 1))) (SlAt.cut (hS159.sk 2 rfl) (by omega) (Nat.le_refl _)) rfl (pairs_cutLo _))) rfl rfl (by decide) fun a173 hA174 => ?_; clear hA172 a171
       refine st hA174 (op_move rfl (evc _ _)) rfl rfl (by decide) fun a175 hA176 => ?_; clear hA174 a173
       refine wl_nil ?_
       refine then_n ?_
       refine c_block ?_
       have hA177 := hA176.as [(62, (Value.int .i64 0)), (61, (Value.int .i64 (((t.rows.length - 1) : Nat) : Int))), (60, (slcut vr 1 t.rows.length 2)), (5, (Value.bool (decide (((t.rows.getD 0 (0, 0)).2) < ((t.rows.getD 1 (0, 0)).2))))), (3, (bptr b9 0))] rfl; clear hA176
       refine c_loop (G := Nat) (fun (k : Nat) a_ w_ => Fr 98 [] [(62, (Value.int .i64 (k : Int))), (61, (Value.int .i64 (((t.rows.length - 1) : Nat) : Int))), (60, (slcut vr 1 t.rows.length 2)), (5, (Value.bool (decide (((t.rows.getD 0 (0, 0)).2) < ((t.rows.getD 1 (0, 0)).2))))), (3, (bptr b9 0))] a_ ∧ Sep NoB w w_ [(blk b9 106 [(Value.int .i64 t.frm), (Value.int .i64 t.dst), vr, vb, (Value.int .i64 t.err)]), (blk b4 37 [(Value.int .i64 sc), vt, vm]), (sl vr 2 t.rows.length (pairs t.rows)), (sl vb 1 t.brk.length (ints t.brk))] ∧ (k ≤ t.rows.length - 1) ∧ (∀ i, i < k → stepB (risesB t) (t.rows.getD i (0, 0)) (t.rows.getD (i + 1) (0, 0)) = true)) (fun k => t.rows.length - 1 - k) 0 ⟨hA177.as _ rfl, hS159, by omega, (fun _ h => absurd h (Nat.not_lt_zero _))⟩ ?_
       clear hA177 hS159 a175
       rintro k a178 w180 ⟨hA179, hS181, hkk, hst⟩
       refine c_seq ?_
       refine c_region ?_
       refine st hA179 (op_lss rfl (hA179.ev rfl) (hA179.ev rfl)) rfl rfl (by decide) fun a182 hA183 => ?_; clear hA179 a178
       refine wl_nil ?_
       refine then_n ?_
       refine c_seq ?_
       by_cases hb184 : (k : Int) < (((t.rows.length - 1) : Nat) : Int)
       ·skip
        rw [decide_eq_true hb184] at hA183
        refine c_true hA183 rfl ?_
        refine c_skip ?_
        refine then_n ?_
        refine c_seq ?_
        refine c_block ?_
        refine c_seq ?_
        refine c_region ?_
        refine st hA183 (op_move rfl (hA183.ev rfl)) rfl rfl (by decide) fun a185 hA186 => ?_; clear hA183 a182
        refine st hA186 (op_indexS rfl un_104 ty_107 (hA186.ev rfl) (i := k) (hA186.ev rfl) (SlAt.say (n' := (t.rows.length - 1)) (cs' := (pairs (t.rows.drop 1))) (SlAt.cut (hS181.sk 2 rfl) (by omega) (Nat.le_refl _)) rfl (pairs_cutLo _)) (by decide) (by omega)) rfl rfl (by decide) fun a187 hA188 => ?_; clear hA186 a185
        refine st hA188 (op_loadAE rfl ty_107 (hA188.ev rfl) (SlAt.say (n' := (t.rows.length - 1)) (cs' := (pairs (t.rows.drop 1))) (SlAt.cut (hS181.sk 2 rfl) (by omega) (Nat.le_refl _)) rfl (pairs_cutLo _)) (dropP_all (by omega)) rfl (by decide)) rfl rfl (by decide) fun a189 hA190 => ?_; clear hA188 a187
        refine stw hA190 (op_alloc hS181 rfl ze_107 (cs := [(Value.int .i64 0), (Value.int .i64 0)]) rfl) rfl rfl (by decide) ?_
        rintro a191 _ w193 ⟨b194, rfl, hS195⟩ hA192; clear hA190 hS181 a189
        refine st hA192 (op_assign rfl (hA192.ev rfl)) rfl rfl (by decide) fun a196 hA197 => ?_; clear hA192 a191
        refine sts hA197 (op_store hS195 rfl ty_107 (hA197.ev rfl) (hA197.ev rfl) (i := 0) rfl (vs := [(Value.int .i64 ((t.rows.getD (k + 1) (0, 0)).1)), (Value.int .i64 ((t.rows.getD (k + 1) (0, 0)).2))]) rfl rfl rfl (Nat.le_of_ble_eq_true rfl)) rfl rfl ?_
        intro _ w198 hS199 hA200; clear hA197
        have hS201 : Sep NoB w w198 [(blk b194 107 [(Value.int .i64 ((t.rows.getD (k + 1) (0, 0)).1)), (Value.int .i64 ((t.rows.getD (k + 1) (0, 0)).2))]), (blk b9 106 [(Value.int .i64 t.frm), (Value.int .i64 t.dst), vr, vb, (Value.int .i64 t.err)]), (blk b4 37 [(Value.int .i64 sc), vt, vm]), (sl vr 2 t.rows.length (pairs t.rows)), (sl vb 1 t.brk.length (ints t.brk))] := hS199; clear hS199 hS195
        refine wl_nil ?_
        refine then_n ?_
        refine c_seq ?_
        refine c_region ?_
        refine st hA200 (op_field rfl fd_106_2 (hA200.ev rfl)) rfl rfl (by decide) fun a202 hA203 => ?_; clear hA200 a196
        refine st hA203 (op_load1 rfl ty_104 (hA203.ev rfl) (hS201.bk 1 rfl) rfl) rfl rfl (by decide) fun a204 hA205 => ?_; clear hA203 a202
        refine st hA205 (op_move rfl (hA205.ev rfl)) rfl rfl (by decide) fun a206 hA207 => ?_; clear hA205 a204
        refine st hA207 (op_indexS rfl un_104 ty_107 (hA207.ev rfl) (i := k) (hA207.ev rfl) (hS201.sk 3 rfl) (by decide) (by omega)) rfl rfl (by decide) fun a208 hA209 => ?_; clear hA207 a206
        refine st hA209 (op_loadAE rfl ty_107 (hA209.ev rfl) (hS201.sk 3 rfl) (pairs_all (by omega)) rfl (by decide)) rfl rfl (by decide) fun a210 hA211 => ?_; clear hA209 a208
        refine stw hA211 (op_alloc hS201 rfl ze_107 (cs := [(Value.int .i64 0), (Value.int .i64 0)]) rfl) rfl rfl (by decide) ?_
        rintro a212 _ w214 ⟨b215, rfl, hS216⟩ hA213; clear hA211 hS201 a210
        refine sts hA213 (op_store hS216 rfl ty_107 (hA213.ev rfl) (hA213.ev rfl) (i := 0) rfl (vs := [(Value.int .i64 ((t.rows.getD k (0, 0)).1)), (Value.int .i64 ((t.rows.getD k (0, 0)).2))]) rfl rfl rfl (Nat.le_of_ble_eq_true rfl)) rfl rfl ?_
        intro _ w217 hS218 hA219; clear hA213
        have hS220 : Sep NoB w w217 [(blk b215 107 [(Value.int .i64 ((t.rows.getD k (0, 0)).1)), (Value.int .i64 ((t.rows.getD k (0, 0)).2))]), (blk b194 107 [(Value.int .i64 ((t.rows.getD (k + 1) (0, 0)).1)), (Value.int .i64 ((t.rows.getD (k + 1) (0, 0)).2))]), (blk b9 106 [(Value.int .i64 t.frm), (Value.int .i64 t.dst), vr, vb, (Value.int .i64 t.err)]), (blk b4 37 [(Value.int .i64 sc), vt, vm]), (sl vr 2 t.rows.length (pairs t.rows)), (sl vb 1 t.brk.length (ints t.brk))] := hS218; clear hS218 hS216
        refine wl_nil ?_
        refine then_n ?_
        refine c_seq ?_
        have hA221 := hA219.as [(8, (bptr b215 0)), (7, (bptr b194 0)), (62, (Value.int .i64 (k : Int))), (61, (Value.int .i64 (((t.rows.length - 1) : Nat) : Int))), (60, (slcut vr 1 t.rows.length 2)), (5, (Value.bool (decide (((t.rows.getD 0 (0, 0)).2) < ((t.rows.getD 1 (0, 0)).2))))), (3, (bptr b9 0))] rfl; clear hA219
        refine c_region ?_
        refine st hA221 (op_field rfl fd_107_0 (hA221.ev rfl)) rfl rfl (by decide) fun a222 hA223 => ?_; clear hA221 a212
        refine st hA223 (op_load1 rfl ty_3 (hA223.ev rfl) (hS220.bk 1 rfl) rfl) rfl rfl (by decide) fun a224 hA225 => ?_; clear hA223 a222
        refine st hA225 (op_field rfl fd_107_0 (hA225.ev rfl)) rfl rfl (by decide) fun a226 hA227 => ?_; clear hA225 a224
        refine st hA227 (op_load1 rfl ty_3 (hA227.ev rfl) (hS220.bk 0 rfl) rfl) rfl rfl (by decide) fun a228 hA229 => ?_; clear hA227 a226
        refine st hA229 (op_leq rfl (hA229.ev rfl) (hA229.ev rfl)) rfl rfl (by decide) fun a230 hA231 => ?_; clear hA229 a228
        refine st hA231 (op_move rfl (hA231.ev rfl)) rfl rfl (by decide) fun a232 hA233 => ?_; clear hA231 a230
        by_cases hb234 : ((t.rows.getD (k + 1) (0, 0)).1) ≤ ((t.rows.getD k (0, 0)).1)
        ·skip
         rw [decide_eq_true hb234] at hA233
         refine skp hA233 rfl rfl rfl rfl rfl (by decide) fun a235 hA236 => ?_; clear hA233 a232
         refine skp hA236 rfl rfl rfl rfl rfl (by decide) fun a237 hA238 => ?_; clear hA236 a235
         refine skp hA238 rfl rfl rfl rfl rfl (by decide) fun a239 hA240 => ?_; clear hA238 a237
         refine skp hA240 rfl rfl rfl rfl rfl (by decide) fun a241 hA242 => ?_; clear hA240 a239
         refine skp hA242 rfl rfl rfl rfl rfl (by decide) fun a243 hA244 => ?_; clear hA242 a241
         refine st hA244 (op_pick_t rfl (hA244.ev rfl) (evc _ _)) rfl rfl (by decide) fun a245 hA246 => ?_; clear hA244 a243
         refine st hA246 (op_move rfl (hA246.ev rfl)) rfl rfl (by decide) fun a247 hA248 => ?_; clear hA246 a245
         refine skp hA248 rfl rfl rfl rfl rfl (by decide) fun a249 hA250 => ?_; clear hA248 a247
         refine skp hA250 rfl rfl rfl rfl rfl (by decide) fun a251 hA252 => ?_; clear hA250 a249
         refine skp hA252 rfl rfl rfl rfl rfl (by decide) fun a253 hA254 => ?_; clear hA252 a251
         refine skp hA254 rfl rfl rfl rfl rfl (by decide) fun a255 hA256 => ?_; clear hA254 a253
         refine skp hA256 rfl rfl rfl rfl rfl (by decide) fun a257 hA258 => ?_; clear hA256 a255
         refine skp hA258 rfl rfl rfl rfl rfl (by decide) fun a259 hA260 => ?_; clear hA258 a257
         refine skp hA260 rfl rfl rfl rfl rfl (by decide) fun a261 hA262 => ?_; clear hA260 a259
         refine st hA262 (op_pick_t rfl (hA262.ev rfl) (evc _ _)) rfl rfl (by decide) fun a263 hA264 => ?_; clear hA262 a261
         refine wl_nil ?_
         refine then_n ?_
         refine c_true hA264 rfl ?_
         refine c_seq ?_
         have hA265 := hA264.as [] rfl; clear hA264
         refine c_region ?_
         refine st hA265 (op_assign rfl (evc _ _)) rfl rfl (by decide) fun a266 hA267 => ?_; clear hA265 a263
         refine wl_nil ?_
         refine then_n ?_
         refine c_ret ?_
         refine blk_ret ?_
         refine then_ret ?_
         refine then_ret ?_
         refine blk_ret ?_
         refine then_ret ?_
         refine fin_run hA267 (.inl rfl) (run_results1 hA267 rfl (.tmp rfl)) ?_
         exact ⟨congrArg Value.bool (Eq.symm (tab_step (k := k) (by omega) (by first | exact neq_n (by assumption) | exact step_n (.inl (by omega)) | exact step_n (.inr (.inl (by omega)))))), hS220.ext⟩
        ·skip
         rw [decide_eq_false hb234] at hA233
         refine stg hA233 (op_field rfl fd_107_1 (hA233.ev rfl)) rfl rfl rfl rfl (by decide) fun a268 hA269 => ?_; clear hA233 a232
         refine stg hA269 (op_load1 rfl ty_3 (hA269.ev rfl) (hS220.bk 1 rfl) rfl) rfl rfl rfl rfl (by decide) fun a270 hA271 => ?_; clear hA269 a268
         refine stg hA271 (op_field rfl fd_107_1 (hA271.ev rfl)) rfl rfl rfl rfl (by decide) fun a272 hA273 => ?_; clear hA271 a270
         refine stg hA273 (op_load1 rfl ty_3 (hA273.ev rfl) (hS220.bk 0 rfl) rfl) rfl rfl rfl rfl (by decide) fun a274 hA275 => ?_; clear hA273 a272
         refine stg hA275 (op_eql rfl (hA275.ev rfl) (hA275.ev rfl)) rfl rfl rfl rfl (by decide) fun a276 hA277 => ?_; clear hA275 a274
         refine st hA277 (op_pick_f rfl (hA277.ev rfl) (hA277.ev rfl)) rfl rfl (by decide) fun a278 hA279 => ?_; clear hA277 a276
         refine st hA279 (op_move rfl (hA279.ev rfl)) rfl rfl (by decide) fun a280 hA281 => ?_; clear hA279 a278
         by_cases hb282 : ((t.rows.getD (k + 1) (0, 0)).2) = ((t.rows.getD k (0, 0)).2)
         ·skip
          rw [decide_eq_true hb282] at hA281
          refine skp hA281 rfl rfl rfl rfl rfl (by decide) fun a283 hA284 => ?_; clear hA281 a280
          refine skp hA284 rfl rfl rfl rfl rfl (by decide) fun a285 hA286 => ?_; clear hA284 a283
          refine skp hA286 rfl rfl rfl rfl rfl (by decide) fun a287 hA288 => ?_; clear hA286 a285
          refine skp hA288 rfl rfl rfl rfl rfl (by decide) fun a289 hA290 => ?_; clear hA288 a287
          refine skp hA290 rfl rfl rfl rfl rfl (by decide) fun a291 hA292 => ?_; clear hA290 a289
          refine skp hA292 rfl rfl rfl rfl rfl (by decide) fun a293 hA294 => ?_; clear hA292 a291
          refine skp hA294 rfl rfl rfl rfl rfl (by decide) fun a295 hA296 => ?_; clear hA294 a293
          refine st hA296 (op_pick_t rfl (hA296.ev rfl) (evc _ _)) rfl rfl (by decide) fun a297 hA298 => ?_; clear hA296 a295
          refine wl_nil ?_
          refine then_n ?_
          refine c_true hA298 rfl ?_
          refine c_seq ?_
          have hA299 := hA298.as [] rfl; clear hA298
          refine c_region ?_
          refine st hA299 (op_assign rfl (evc _ _)) rfl rfl (by decide) fun a300 hA301 => ?_; clear hA299 a297
          refine wl_nil ?_
          refine then_n ?_
          refine c_ret ?_
          refine blk_ret ?_
          refine then_ret ?_
          refine then_ret ?_
          refine blk_ret ?_
          refine then_ret ?_
          refine fin_run hA301 (.inl rfl) (run_results1 hA301 rfl (.tmp rfl)) ?_
          exact ⟨congrArg Value.bool (Eq.symm (tab_step (k := k) (by omega) (by first | exact neq_n (by assumption) | exact step_n (.inl (by omega)) | exact step_n (.inr (.inl (by omega)))))), hS220.ext⟩
         ·skip
          rw [decide_eq_false hb282] at hA281
          refine stg hA281 (op_field rfl fd_107_1 (hA281.ev rfl)) rfl rfl rfl rfl (by decide) fun a302 hA303 => ?_; clear hA281 a280
          refine stg hA303 (op_load1 rfl ty_3 (hA303.ev rfl) (hS220.bk 1 rfl) rfl) rfl rfl rfl rfl (by decide) fun a304 hA305 => ?_; clear hA303 a302
          refine stg hA305 (op_field rfl fd_107_1 (hA305.ev rfl)) rfl rfl rfl rfl (by decide) fun a306 hA307 => ?_; clear hA305 a304
          refine stg hA307 (op_load1 rfl ty_3 (hA307.ev rfl) (hS220.bk 0 rfl) rfl) rfl rfl rfl rfl (by decide) fun a308 hA309 => ?_; clear hA307 a306
          refine stg hA309 (op_gtr rfl (hA309.ev rfl) (hA309.ev rfl)) rfl rfl rfl rfl (by decide) fun a310 hA311 => ?_; clear hA309 a308
          refine stg hA311 (op_move rfl (hA311.ev rfl)) rfl rfl rfl rfl (by decide) fun a312 hA313 => ?_; clear hA311 a310
          refine stg hA313 (op_neqB un_4 rfl (hA313.ev rfl) (hA313.ev rfl)) rfl rfl rfl rfl (by decide) fun a314 hA315 => ?_; clear hA313 a312
          refine st hA315 (op_pick_f rfl (hA315.ev rfl) (hA315.ev rfl)) rfl rfl (by decide) fun a316 hA317 => ?_; clear hA315 a314
          refine wl_nil ?_
          refine then_n ?_
          rcases Bool.eq_false_or_eq_true ((decide (((t.rows.getD k (0, 0)).2) < ((t.rows.getD (k + 1) (0, 0)).2))) == (decide (((t.rows.getD 0 (0, 0)).2) < ((t.rows.getD 1 (0, 0)).2)))) with hb318 | hb318
          ·skip
           rw [hb318] at hA317
           refine c_false hA317 rfl ?_
           refine c_skip ?_
           refine blk_n ?_
           refine then_n ?_
           have hA319 := hA317.as [(62, (Value.int .i64 (k : Int))), (61, (Value.int .i64 (((t.rows.length - 1) : Nat) : Int))), (60, (slcut vr 1 t.rows.length 2)), (5, (Value.bool (decide (((t.rows.getD 0 (0, 0)).2) < ((t.rows.getD 1 (0, 0)).2))))), (3, (bptr b9 0))] rfl; clear hA317
           refine c_region ?_
           refine st hA319 (op_add rfl (hA319.ev rfl) (evc _ _) (by omega) (by omega)) rfl rfl (by decide) fun a320 hA321 => ?_; clear hA319 a316
           refine st hA321 (op_move rfl (hA321.ev rfl)) rfl rfl (by decide) fun a322 hA323 => ?_; clear hA321 a320
           refine wl_nil ?_
           have hS324 : Sep NoB w w217 [(blk b9 106 [(Value.int .i64 t.frm), (Value.int .i64 t.dst), vr, vb, (Value.int .i64 t.err)]), (blk b4 37 [(Value.int .i64 sc), vt, vm]), (sl vr 2 t.rows.length (pairs t.rows)), (sl vb 1 t.brk.length (ints t.brk))] := hS220.keep [2, 3, 4, 5] (by decide) _ rfl rfl; clear hS220
           exact then_n ⟨k + 1, ⟨hA323.as _ rfl, hS324, by omega, (fun i hi => by rcases Nat.lt_succ_iff_lt_or_eq.1 hi with h | h; exact hst i h; subst h; exact neq_y (by omega) (by omega) (by assumption))⟩, by omega⟩
          ·skip
           rw [hb318] at hA317
           refine c_true hA317 rfl ?_
           refine c_seq ?_
           have hA325 := hA317.as [] rfl; clear hA317
           refine c_region ?_
           refine st hA325 (op_assign rfl (evc _ _)) rfl rfl (by decide) fun a326 hA327 => ?_; clear hA325 a316
           refine wl_nil ?_
           refine then_n ?_
           refine c_ret ?_
           refine blk_ret ?_
           refine then_ret ?_
           refine then_ret ?_
           refine blk_ret ?_
           refine then_ret ?_
           refine fin_run hA327 (.inl rfl) (run_results1 hA327 rfl (.tmp rfl)) ?_
           exact ⟨congrArg Value.bool (Eq.symm (tab_step (k := k) (by omega) (by first | exact neq_n (by assumption) | exact step_n (.inl (by omega)) | exact step_n (.inr (.inl (by omega)))))), hS220.ext⟩
       ·skip
        rw [decide_eq_false hb184] at hA183
        refine c_false hA183 rfl ?_
        refine c_exit ?_
        refine then_exit ?_
        refine then_exit ?_
        refine blk_hit ?_
        refine then_n ?_
        refine c_seq ?_
        refine c_region ?_
        refine stw hA183 (op_alloc hS181 rfl ze_3 (cs := [(Value.int .i64 0)]) rfl) rfl rfl (by decide) ?_
        rintro a328 _ w330 ⟨b331, rfl, hS332⟩ hA329; clear hA183 hS181 a182
        refine sts hA329 (op_store hS332 rfl ty_3 (hA329.ev rfl) (evc _ _) (i := 0) rfl (vs := [(Value.int .i64 (-1))]) rfl rfl rfl (Nat.le_of_ble_eq_true rfl)) rfl rfl ?_
        intro _ w333 hS334 hA335; clear hA329
        have hS336 : Sep NoB w w333 [(blk b331 3 [(Value.int .i64 (-1))]), (blk b9 106 [(Value.int .i64 t.frm), (Value.int .i64 t.dst), vr, vb, (Value.int .i64 t.err)]), (blk b4 37 [(Value.int .i64 sc), vt, vm]), (sl vr 2 t.rows.length (pairs t.rows)), (sl vb 1 t.brk.length (ints t.brk))] := hS334; clear hS334 hS332
        refine wl_nil ?_
        refine then_n ?_
        refine c_seq ?_
        refine c_region ?_
        refine st hA335 (op_field rfl fd_106_3 (hA335.ev rfl)) rfl rfl (by decide) fun a337 hA338 => ?_; clear hA335 a328
        refine st hA338 (op_load1 rfl ty_44 (hA338.ev rfl) (hS336.bk 1 rfl) rfl) rfl rfl (by decide) fun a339 hA340 => ?_; clear hA338 a337
        refine st hA340 (op_makeFunc rfl ev0 (ev2 (hA340.ev rfl) (hA340.ev rfl))) rfl rfl (by decide) fun a341 hA342 => ?_; clear hA340 a339
        refine stw hA342 (op_call rfl en_69 (ev2 (hA342.ev rfl) (hA342.ev rfl)) (allB_int t.brk (lastU t) b331 _ 96 #[] #[(bptr b331 0), (bptr b9 0)] (brkB t) _ (hS336.lend (i := 0) rfl rfl (L' := [(sl vb 1 t.brk.length (ints t.brk))]) (js := [4]) ⟨rfl, by decide, hS336.sk 4 rfl, ⟨_, rfl, fun _ hz => hz⟩, trivial⟩) hbl ⟨en_96, fun i hi hz W hW hb => lastclo_ok _ _ t vr vb _ _ W ((hS336.updB (i := 0) rfl hW hb).lend (i := 0) rfl rfl (L' := [rob b9 106 [.int .i64 t.frm, .int .i64 t.dst, vr, vb, .int .i64 t.err], (sl vr 2 t.rows.length (pairs t.rows)), (sl vb 1 t.brk.length (ints t.brk))]) (js := [1, 3, 4]) ⟨rfl, by decide, (hS336.updB (i := 0) rfl hW hb).bk 1 rfl, ⟨_, rfl, fun _ hz => hz⟩, rfl, by decide, (hS336.updB (i := 0) rfl hW hb).sk 3 rfl, ⟨_, rfl, fun _ hz => hz⟩, rfl, by decide, (hS336.updB (i := 0) rfl hW hb).sk 4 rfl, ⟨_, rfl, fun _ hz => hz⟩, trivial⟩) (by have := last_bd (t := t) i hz; omega) hrl⟩)) rfl rfl (by decide) ?_
        rintro a343 _ w345 ⟨rfl, hE346, lx349, hM347⟩ hA344; have hS348 := hS336.updB (i := 0) rfl hE346 hM347; clear hE346 hM347 hA342 hS336 a341
        refine st hA344 (op_assign rfl (hA344.ev rfl)) rfl rfl (by decide) fun a350 hA351 => ?_; clear hA344 a343
        refine wl_nil ?_
        refine then_n ?_
        refine c_ret ?_
        refine fin_run hA351 (.inl rfl) (run_results1 hA351 rfl (.tmp rfl)) ?_
        exact ⟨congrArg Value.bool (Eq.symm (tab_rest (by assumption) (by assumption) (by assumption) (by assumption) (by omega) (by assumption) (fun i hi => hst i (by omega)))), hS348.ext⟩
      ·skip
       rw [hb152] at hA151
       refine c_true hA151 rfl ?_
       refine c_seq ?_
       have hA352 := hA151.as [] rfl; clear hA151
       refine c_region ?_
       refine st hA352 (op_assign rfl (evc _ _)) rfl rfl (by decide) fun a353 hA354 => ?_; clear hA352 a150
       refine wl_nil ?_
       refine then_n ?_
       refine c_ret ?_
       refine then_ret ?_
       refine fin_run hA354 (.inl rfl) (run_results1 hA354 rfl (.tmp rfl)) ?_
       exact ⟨congrArg Value.bool (Eq.symm (by first | exact tab_rows (by assumption) | exact tab_head (by first | exact .inl (by assumption) | exact .inr (.inl (by assumption)) | exact .inr (.inr (.inl (by assumption))) | exact .inr (.inr (.inr (.inl (by assumption)))) | exact .inr (.inr (.inr (.inr (by omega))))))), hS147.ext⟩
    ·skip
     rw [hb112] at hA111
     refine skp hA111 rfl rfl rfl rfl rfl (by decide) fun a355 hA356 => ?_; clear hA111 a110
     refine skp hA356 rfl rfl rfl rfl rfl (by decide) fun a357 hA358 => ?_; clear hA356 a355
     refine skp hA358 rfl rfl rfl rfl rfl (by decide) fun a359 hA360 => ?_; clear hA358 a357
     refine skp hA360 rfl rfl rfl rfl rfl (by decide) fun a361 hA362 => ?_; clear hA360 a359
     refine st hA362 (op_pick_t rfl (hA362.ev rfl) (evc _ _)) rfl rfl (by decide) fun a363 hA364 => ?_; clear hA362 a361
     refine st hA364 (op_move rfl (hA364.ev rfl)) rfl rfl (by decide) fun a365 hA366 => ?_; clear hA364 a363
     refine skp hA366 rfl rfl rfl rfl rfl (by decide) fun a367 hA368 => ?_; clear hA366 a365
     refine skp hA368 rfl rfl rfl rfl rfl (by decide) fun a369 hA370 => ?_; clear hA368 a367
     refine skp hA370 rfl rfl rfl rfl rfl (by decide) fun a371 hA372 => ?_; clear hA370 a369
     refine skp hA372 rfl rfl rfl rfl rfl (by decide) fun a373 hA374 => ?_; clear hA372 a371
     refine st hA374 (op_pick_t rfl (hA374.ev rfl) (evc _ _)) rfl rfl (by decide) fun a375 hA376 => ?_; clear hA374 a373
     refine wl_nil ?_
     refine then_n ?_
     refine c_true hA376 rfl ?_
     refine c_seq ?_
     have hA377 := hA376.as [] rfl; clear hA376
     refine c_region ?_
     refine st hA377 (op_assign rfl (evc _ _)) rfl rfl (by decide) fun a378 hA379 => ?_; clear hA377 a375
     refine wl_nil ?_
     refine then_n ?_
     refine c_ret ?_
     refine then_ret ?_
     refine fin_run hA379 (.inl rfl) (run_results1 hA379 rfl (.tmp rfl)) ?_
     exact ⟨congrArg Value.bool (Eq.symm (by first | exact tab_rows (by assumption) | exact tab_head (by first | exact .inl (by assumption) | exact .inr (.inl (by assumption)) | exact .inr (.inr (.inl (by assumption))) | exact .inr (.inr (.inr (.inl (by assumption)))) | exact .inr (.inr (.inr (.inr (by omega))))))), hS39.ext⟩
  ·skip
   rw [hb46] at hA45
   refine skp hA45 rfl rfl rfl rfl rfl (by decide) fun a380 hA381 => ?_; clear hA45 a44
   refine skp hA381 rfl rfl rfl rfl rfl (by decide) fun a382 hA383 => ?_; clear hA381 a380
   refine skp hA383 rfl rfl rfl rfl rfl (by decide) fun a384 hA385 => ?_; clear hA383 a382
   refine skp hA385 rfl rfl rfl rfl rfl (by decide) fun a386 hA387 => ?_; clear hA385 a384
   refine skp hA387 rfl rfl rfl rfl rfl (by decide) fun a388 hA389 => ?_; clear hA387 a386
   refine st hA389 (op_pick_t rfl (hA389.ev rfl) (evc _ _)) rfl rfl (by decide) fun a390 hA391 => ?_; clear hA389 a388
   refine st hA391 (op_move rfl (hA391.ev rfl)) rfl rfl (by decide) fun a392 hA393 => ?_; clear hA391 a390
   refine skp hA393 rfl rfl rfl rfl rfl (by decide) fun a394 hA395 => ?_; clear hA393 a392
   refine skp hA395 rfl rfl rfl rfl rfl (by decide) fun a396 hA397 => ?_; clear hA395 a394
   refine skp hA397 rfl rfl rfl rfl rfl (by decide) fun a398 hA399 => ?_; clear hA397 a396
   refine skp hA399 rfl rfl rfl rfl rfl (by decide) fun a400 hA401 => ?_; clear hA399 a398
   refine st hA401 (op_pick_t rfl (hA401.ev rfl) (evc _ _)) rfl rfl (by decide) fun a402 hA403 => ?_; clear hA401 a400
   refine st hA403 (op_move rfl (hA403.ev rfl)) rfl rfl (by decide) fun a404 hA405 => ?_; clear hA403 a402
   refine skp hA405 rfl rfl rfl rfl rfl (by decide) fun a406 hA407 => ?_; clear hA405 a404
   refine skp hA407 rfl rfl rfl rfl rfl (by decide) fun a408 hA409 => ?_; clear hA407 a406
   refine skp hA409 rfl rfl rfl rfl rfl (by decide) fun a410 hA411 => ?_; clear hA409 a408
   refine skp hA411 rfl rfl rfl rfl rfl (by decide) fun a412 hA413 => ?_; clear hA411 a410
   refine st hA413 (op_pick_t rfl (hA413.ev rfl) (evc _ _)) rfl rfl (by decide) fun a414 hA415 => ?_; clear hA413 a412
   refine st hA415 (op_move rfl (hA415.ev rfl)) rfl rfl (by decide) fun a416 hA417 => ?_; clear hA415 a414
   refine skp hA417 rfl rfl rfl rfl rfl (by decide) fun a418 hA419 => ?_; clear hA417 a416
   refine skp hA419 rfl rfl rfl rfl rfl (by decide) fun a420 hA421 => ?_; clear hA419 a418
   refine skp hA421 rfl rfl rfl rfl rfl (by decide) fun a422 hA423 => ?_; clear hA421 a420
   refine skp hA423 rfl rfl rfl rfl rfl (by decide) fun a424 hA425 => ?_; clear hA423 a422
   refine st hA425 (op_pick_t rfl (hA425.ev rfl) (evc _ _)) rfl rfl (by decide) fun a426 hA427 => ?_; clear hA425 a424
   refine wl_nil ?_
   refine then_n ?_
   refine c_true hA427 rfl ?_
   refine c_seq ?_
   have hA428 := hA427.as [] rfl; clear hA427
   refine c_region ?_
   refine st hA428 (op_assign rfl (evc _ _)) rfl rfl (by decide) fun a429 hA430 => ?_; clear hA428 a426
   refine wl_nil ?_
   refine then_n ?_
   refine c_ret ?_
   refine then_ret ?_
   refine fin_run hA430 (.inl rfl) (run_results1 hA430 rfl (.tmp rfl)) ?_
   exact ⟨congrArg Value.bool (Eq.symm (by first | exact tab_rows (by assumption) | exact tab_head (by first | exact .inl (by assumption) | exact .inr (.inl (by assumption)) | exact .inr (.inr (.inl (by assumption))) | exact .inr (.inr (.inr (.inl (by assumption)))) | exact .inr (.inr (.inr (.inr (by omega))))))), hS39.ext⟩
 ·skip
  rw [hb28] at hA27
  refine skp hA27 rfl rfl rfl rfl rfl (by decide) fun a431 hA432 => ?_; clear hA27 a26
  refine skp hA432 rfl rfl rfl rfl rfl (by decide) fun a433 hA434 => ?_; clear hA432 a431
  refine skp hA434 rfl rfl rfl rfl rfl (by decide) fun a435 hA436 => ?_; clear hA434 a433
  refine skp hA436 rfl rfl rfl rfl rfl (by decide) fun a437 hA438 => ?_; clear hA436 a435
  refine skp hA438 rfl rfl rfl rfl rfl (by decide) fun a439 hA440 => ?_; clear hA438 a437
  refine st hA440 (op_pick_t rfl (hA440.ev rfl) (evc _ _)) rfl rfl (by decide) fun a441 hA442 => ?_; clear hA440 a439
  refine st hA442 (op_move rfl (hA442.ev rfl)) rfl rfl (by decide) fun a443 hA444 => ?_; clear hA442 a441
  refine skp hA444 rfl rfl rfl rfl rfl (by decide) fun a445 hA446 => ?_; clear hA444 a443
  refine skp hA446 rfl rfl rfl rfl rfl (by decide) fun a447 hA448 => ?_; clear hA446 a445
  refine skp hA448 rfl rfl rfl rfl rfl (by decide) fun a449 hA450 => ?_; clear hA448 a447
  refine skp hA450 rfl rfl rfl rfl rfl (by decide) fun a451 hA452 => ?_; clear hA450 a449
  refine skp hA452 rfl rfl rfl rfl rfl (by decide) fun a453 hA454 => ?_; clear hA452 a451
  refine st hA454 (op_pick_t rfl (hA454.ev rfl) (evc _ _)) rfl rfl (by decide) fun a455 hA456 => ?_; clear hA454 a453
  refine st hA456 (op_move rfl (hA456.ev rfl)) rfl rfl (by decide) fun a457 hA458 => ?_; clear hA456 a455
  refine skp hA458 rfl rfl rfl rfl rfl (by decide) fun a459 hA460 => ?_; clear hA458 a457
  refine skp hA460 rfl rfl rfl rfl rfl (by decide) fun a461 hA462 => ?_; clear hA460 a459
  refine skp hA462 rfl rfl rfl rfl rfl (by decide) fun a463 hA464 => ?_; clear hA462 a461
  refine skp hA464 rfl rfl rfl rfl rfl (by decide) fun a465 hA466 => ?_; clear hA464 a463
  refine st hA466 (op_pick_t rfl (hA466.ev rfl) (evc _ _)) rfl rfl (by decide) fun a467 hA468 => ?_; clear hA466 a465
  refine st hA468 (op_move rfl (hA468.ev rfl)) rfl rfl (by decide) fun a469 hA470 => ?_; clear hA468 a467
  refine skp hA470 rfl rfl rfl rfl rfl (by decide) fun a471 hA472 => ?_; clear hA470 a469
  refine skp hA472 rfl rfl rfl rfl rfl (by decide) fun a473 hA474 => ?_; clear hA472 a471
  refine skp hA474 rfl rfl rfl rfl rfl (by decide) fun a475 hA476 => ?_; clear hA474 a473
  refine skp hA476 rfl rfl rfl rfl rfl (by decide) fun a477 hA478 => ?_; clear hA476 a475
  refine st hA478 (op_pick_t rfl (hA478.ev rfl) (evc _ _)) rfl rfl (by decide) fun a479 hA480 => ?_; clear hA478 a477
  refine st hA480 (op_move rfl (hA480.ev rfl)) rfl rfl (by decide) fun a481 hA482 => ?_; clear hA480 a479
  refine skp hA482 rfl rfl rfl rfl rfl (by decide) fun a483 hA484 => ?_; clear hA482 a481
  refine skp hA484 rfl rfl rfl rfl rfl (by decide) fun a485 hA486 => ?_; clear hA484 a483
  refine skp hA486 rfl rfl rfl rfl rfl (by decide) fun a487 hA488 => ?_; clear hA486 a485
  refine skp hA488 rfl rfl rfl rfl rfl (by decide) fun a489 hA490 => ?_; clear hA488 a487
  refine st hA490 (op_pick_t rfl (hA490.ev rfl) (evc _ _)) rfl rfl (by decide) fun a491 hA492 => ?_; clear hA490 a489
  refine wl_nil ?_
  refine then_n ?_
  refine c_true hA492 rfl ?_
  refine c_seq ?_
  have hA493 := hA492.as [] rfl; clear hA492
  refine c_region ?_
  refine st hA493 (op_assign rfl (evc _ _)) rfl rfl (by decide) fun a494 hA495 => ?_; clear hA493 a491
  refine wl_nil ?_
  refine then_n ?_
  refine c_ret ?_
  refine then_ret ?_
  refine fin_run hA495 (.inl rfl) (run_results1 hA495 rfl (.tmp rfl)) ?_
  exact ⟨congrArg Value.bool (Eq.symm (by first | exact tab_rows (by assumption) | exact tab_head (by first | exact .inl (by assumption) | exact .inr (.inl (by assumption)) | exact .inr (.inr (.inl (by assumption))) | exact .inr (.inr (.inr (.inl (by assumption)))) | exact .inr (.inr (.inr (.inr (by omega))))))), hS23.ext⟩
end Go.Proofs.Ytohgladndklciaa

namespace Go.Hard
structure ThinB (b : BookD) : Prop where
  tl : b.tabs.length ≤ 9
  ml : b.macs.length ≤ 9
  tab : ∀ i, (b.tabs.getD i tab0).rows.length ≤ 12 ∧ (b.tabs.getD i tab0).brk.length ≤ 12
  mac : ∀ i, (b.macs.getD i mac0).blocks.length ≤ 8
def thinF (b : BookD) (n : Nat) : Bool := decide (b.tabs.length ≤ 9) && decide (b.macs.length ≤ 9) && decide (n ≤ 12) && allI b.tabs.length (fun i => decide ((b.tabs.getD i tab0).rows.length ≤ 12) && decide ((b.tabs.getD i tab0).brk.length ≤ 12)) && allI b.macs.length (fun i => decide ((b.macs.getD i mac0).blocks.length ≤ 8))
theorem getD_out {α : Type} {l : List α} {d : α} {i : Nat} (h : l.length ≤ i) : l.getD i d = d := by simp [List.getD, List.getElem?_eq_none h]
theorem thin_iff {b : BookD} {n : Nat} : thinF b n = true ↔ ThinB b ∧ n ≤ 12 := by
  unfold thinF
  simp only [Bool.and_eq_true, decide_eq_true_eq, allI_iff]
  constructor
  · rintro ⟨⟨⟨⟨h1, h2⟩, h3⟩, h4⟩, h5⟩
    refine ⟨⟨h1, h2, fun i => ?_, fun i => ?_⟩, h3⟩
    · rcases Nat.lt_or_ge i b.tabs.length with h | h
      · exact h4 i h
      · rw [getD_out h]; exact ⟨Nat.zero_le _, Nat.zero_le _⟩
    · rcases Nat.lt_or_ge i b.macs.length with h | h
      · exact h5 i h
      · rw [getD_out h]; exact Nat.zero_le _
  · rintro ⟨h, h3⟩
    exact ⟨⟨⟨⟨h.tl, h.ml⟩, h3⟩, fun i _ => h.tab i⟩, fun i _ => h.mac i⟩
section
variable {b : BookD} {n : Nat} {k : Nat}
theorem ThinB.rl (h : ThinB b) (i : Nat) : (b.tabs.getD i tab0).rows.length ≤ 1000000 := by have := (h.tab i).1; omega
theorem ThinB.bl (h : ThinB b) (i : Nat) : (b.tabs.getD i tab0).brk.length ≤ 1000000 := by have := (h.tab i).2; omega
theorem ThinB.kl (h : ThinB b) (i : Nat) : (b.macs.getD i mac0).blocks.length ≤ 1000000 := by have := h.mac i; omega
theorem thin_not (h : ¬ (ThinB b ∧ n ≤ 12)) : thinF b n = false := by
  cases hb : thinF b n with
  | false => rfl
  | true => exact absurd (thin_iff.1 hb) h
theorem thin_n1 (h : 9 < b.tabs.length ∨ 9 < b.macs.length ∨ 12 < n) : thinF b n = false := thin_not fun g => by have := g.1.tl; have := g.1.ml; omega
theorem thin_n2 (h : 12 < (b.tabs.getD k tab0).rows.length ∨ 12 < (b.tabs.getD k tab0).brk.length) : thinF b n = false := thin_not fun g => by have := g.1.tab k; omega
theorem thin_n3 (h : 8 < (b.macs.getD k mac0).blocks.length) : thinF b n = false := thin_not fun g => by have := g.1.mac k; omega
theorem thin_y (h1 : b.tabs.length ≤ 9) (h2 : b.macs.length ≤ 9) (h3 : n ≤ 12) (h4 : ∀ i, i < b.tabs.length → (b.tabs.getD i tab0).rows.length ≤ 12 ∧ (b.tabs.getD i tab0).brk.length ≤ 12) (h5 : ∀ i, i < b.macs.length → (b.macs.getD i mac0).blocks.length ≤ 8) : thinF b n = true := by
  unfold thinF
  simp only [Bool.and_eq_true, decide_eq_true_eq, allI_iff]
  exact ⟨⟨⟨⟨h1, h2⟩, h3⟩, h4⟩, h5⟩
structure ShortB (b : BookD) : Prop where
  tl : b.tabs.length ≤ 6
  ml : b.macs.length ≤ 6
  tab : ∀ i, i < b.tabs.length → (b.tabs.getD i tab0).rows.length ≤ 8
  mac : ∀ i, i < b.macs.length → (b.macs.getD i mac0).blocks.length ≤ 5
theorem check_long (h : ¬ ShortB b) : checkF b = 3 := by
  unfold checkF
  split
  · rfl
  · rename_i h1
    split
    · rfl
    · rename_i h2
      split
      · rfl
      · rename_i h3
        rw [Bool.not_eq_false, allI_iff] at h2 h3
        exact absurd ⟨by omega, by omega, fun i hi => of_decide_eq_true (h2 i hi), fun i hi => of_decide_eq_true (h3 i hi)⟩ h
theorem check_short (h : ShortB b) : checkF b = if inB b.scales 1 4 = false ∨ allI b.tabs.length (fun i => tabB b.scales (b.tabs.getD i tab0)) = false ∨ allI b.macs.length (fun i => macB b.scales (b.macs.getD i mac0)) = false then 1 else 0 := by
  unfold checkF
  have a := h.tl; have c := h.ml
  rw [if_neg (by omega), if_neg (by rw [Bool.not_eq_false, allI_iff]; exact fun i hi => decide_eq_true (h.tab i hi)), if_neg (by rw [Bool.not_eq_false, allI_iff]; exact fun i hi => decide_eq_true (h.mac i hi))]
theorem check_3a (h : 6 < b.tabs.length ∨ 6 < b.macs.length) : checkF b = 3 := check_long fun g => by have := g.tl; have := g.ml; omega
theorem check_3b (hk : k < b.tabs.length) (h : 8 < (b.tabs.getD k tab0).rows.length) : checkF b = 3 := check_long fun g => by have := g.tab k hk; omega
theorem check_3c (hk : k < b.macs.length) (h : 5 < (b.macs.getD k mac0).blocks.length) : checkF b = 3 := check_long fun g => by have := g.mac k hk; omega
theorem check_1a (g : ShortB b) (h : inB b.scales 1 4 = false) : checkF b = 1 := by rw [check_short g, if_pos (.inl h)]
theorem check_1b (g : ShortB b) (hk : k < b.tabs.length) (h : tabB b.scales (b.tabs.getD k tab0) = false) : checkF b = 1 := by rw [check_short g, if_pos (.inr (.inl (allI_no hk h)))]
theorem check_1c (g : ShortB b) (hk : k < b.macs.length) (h : macB b.scales (b.macs.getD k mac0) = false) : checkF b = 1 := by rw [check_short g, if_pos (.inr (.inr (allI_no hk h)))]
theorem check_0 (g : ShortB b) (h1 : inB b.scales 1 4 = true) (h2 : ∀ i, i < b.tabs.length → tabB b.scales (b.tabs.getD i tab0) = true) (h3 : ∀ i, i < b.macs.length → macB b.scales (b.macs.getD i mac0) = true) : checkF b = 0 := by
  rw [check_short g, if_neg]
  rw [h1, allI_iff.2 h2, allI_iff.2 h3]; decide
theorem check_3b' (h : (List.range b.tabs.length).all (fun i => decide (((b.tabs.getD i tab0).rows.length : Int) ≤ 8)) = false) : checkF b = 3 := by
  refine check_long fun g => ?_
  have : (List.range b.tabs.length).all (fun i => decide (((b.tabs.getD i tab0).rows.length : Int) ≤ 8)) = true := List.all_eq_true.2 fun i hi => decide_eq_true (by have := g.tab i (List.mem_range.1 hi); omega)
  rw [this] at h; cases h
theorem check_3c' (h : (List.range b.macs.length).all (fun i => decide (((b.macs.getD i mac0).blocks.length : Int) ≤ 5)) = false) : checkF b = 3 := by
  refine check_long fun g => ?_
  have : (List.range b.macs.length).all (fun i => decide (((b.macs.getD i mac0).blocks.length : Int) ≤ 5)) = true := List.all_eq_true.2 fun i hi => decide_eq_true (by have := g.mac i (List.mem_range.1 hi); omega)
  rw [this] at h; cases h
theorem short_of (h1 : ¬ 6 < b.tabs.length) (h2 : ¬ 6 < b.macs.length) (h3 : (List.range b.tabs.length).all (fun i => decide (((b.tabs.getD i tab0).rows.length : Int) ≤ 8)) = true) (h4 : (List.range b.macs.length).all (fun i => decide (((b.macs.getD i mac0).blocks.length : Int) ≤ 5)) = true) : ShortB b :=
  ⟨by omega, by omega, fun i hi => by have := of_decide_eq_true (List.all_eq_true.1 h3 i (List.mem_range.2 hi)); omega, fun i hi => by have := of_decide_eq_true (List.all_eq_true.1 h4 i (List.mem_range.2 hi)); omega⟩
theorem check_1b' (g : ShortB b) (h : (List.range b.tabs.length).all (fun i => tabB b.scales (b.tabs.getD i tab0)) = false) : checkF b = 1 := by rw [check_short g, if_pos (.inr (.inl h))]
theorem check_1c' (g : ShortB b) (h : (List.range b.macs.length).all (fun i => macB b.scales (b.macs.getD i mac0)) = false) : checkF b = 1 := by rw [check_short g, if_pos (.inr (.inr h))]
theorem check_0' (g : ShortB b) (h1 : inB b.scales 1 4 = true) (h2 : (List.range b.tabs.length).all (fun i => tabB b.scales (b.tabs.getD i tab0)) = true) (h3 : (List.range b.macs.length).all (fun i => macB b.scales (b.macs.getD i mac0)) = true) : checkF b = 0 :=
  check_0 g h1 (allI_iff.1 h2) (allI_iff.1 h3)
theorem mac_n1 {m : MacD} {n : Int} (h : inB m.scale 0 (n - 1) = false) : macB n m = false := by unfold macB; rw [h]; rfl
theorem mac_n2 {m : MacD} {n : Int} {k : Nat} (hk : k < m.blocks.length) (h : blkB (m.blocks.getD k (0, 0, 0)) = false) : macB n m = false := by unfold macB; rw [allI_no hk h, Bool.and_false]
theorem mac_y {m : MacD} {n : Int} (h1 : inB m.scale 0 (n - 1) = true) (h : ∀ k, k < m.blocks.length → blkB (m.blocks.getD k (0, 0, 0)) = true) : macB n m = true := by unfold macB; rw [h1, allI_iff.2 h]; rfl
theorem blk_n {x : Int × Int × Int} (h : spanB (x.1, x.2.1) = false ∨ inB x.2.2 0 100000 = false) : blkB x = false := by unfold blkB; rcases h with h | h <;> rw [h] <;> simp
theorem blk_y {x : Int × Int × Int} (h1 : spanB (x.1, x.2.1) = true) (h2 : inB x.2.2 0 100000 = true) : blkB x = true := by unfold blkB; rw [h1, h2]; rfl
end
end Go.Hard
