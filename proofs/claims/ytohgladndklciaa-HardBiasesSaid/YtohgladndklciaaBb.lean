/-
  When a table is one of a book: told by the first thing that is not right.
  The straight lines of a table that are not broken, in order; what a function that goes through them finds.
-/
import Derived.Test.YtohgladndklciaaBa
import Derived.Test.YtohgladndklciaaEnga
set_option linter.unusedSimpArgs false
set_option linter.unusedVariables false
namespace Go.Proofs.Ytohgladndklciaa
open Go.RowKit Go.Shelf Go.Eng Go.Hard
theorem fd_37_0 : fldK Try.prog 37 0 = some 0 := by kernel_rfl
theorem en_48 : ∀ args w, (callFunc 48 args).run Try.prog w = .ok (.enter 48 args) w := enters_of Try.func48 (by kernel_rfl) rfl
theorem ty_37 : tyK Try.prog 37 = some (true, 3) := by kernel_rfl
theorem fd_103_0 : fldK Try.prog 103 0 = some 0 := by kernel_rfl
theorem en_93 : ∀ args w, (callFunc 93 args).run Try.prog w = .ok (.enter 93 args) w := enters_of Try.func93 (by kernel_rfl) rfl
theorem en_98 : ∀ args w, (callFunc 98 args).run Try.prog w = .ok (.enter 98 args) w := enters_of Try.func98 (by kernel_rfl) rfl
theorem en_97 : ∀ args w, (callFunc 97 args).run Try.prog w = .ok (.enter 97 args) w := enters_of Try.func97 (by kernel_rfl) rfl
theorem fd_106_2 : fldK Try.prog 106 2 = some 2 := by kernel_rfl
theorem ty_104 : tyK Try.prog 104 = some (false, 1) := by kernel_rfl
theorem scale_ok (n : Int) (sc : Int) (vt vm : Value) (w : World) (h1_ : vt.oneCell' = true) (h2_ : vm.oneCell' = true) (hsc : 1 ≤ sc ∧ sc ≤ 4) :
  Calls Try.prog 93 #[(Value.agg #[(Value.int .i64 sc), vt, vm]), (Value.int .i64 n)] w (Ret fun v w' => v = .bool (inB n 0 (sc - 1)) ∧ Ext NoB w w') := by
 refine calls_enter Try.func93 rfl fun a0 hA0 => ?_
 replace hA0 : Fr 10 [] [(0, (Value.agg #[(Value.int .i64 sc), vt, vm])), (1, (Value.int .i64 n))] a0 := hA0
 have hS0 : Sep NoB w w [] := Sep.start _ _
 refine c_seq ?_
 refine c_region ?_
 refine stw hA0 (op_box hS0 rfl (hA0.ev rfl) (cs := [(Value.int .i64 sc), vt, vm]) rfl) rfl rfl (by decide) ?_
 rintro a1 _ w3 ⟨b4, rfl, hS5⟩ hA2; clear hA0 hS0 a0
 refine st hA2 (op_assign rfl (evc _ _)) rfl rfl (by decide) fun a6 hA7 => ?_; clear hA2 a1
 refine wl_nil ?_
 refine then_n ?_
 refine c_seq ?_
 refine c_region ?_
 refine st hA7 (op_move rfl (hA7.ev rfl)) rfl rfl (by decide) fun a8 hA9 => ?_; clear hA7 a6
 refine st hA9 (op_field rfl fd_37_0 (hA9.ev rfl)) rfl rfl (by decide) fun a10 hA11 => ?_; clear hA9 a8
 refine st hA11 (op_load1 rfl ty_3 (hA11.ev rfl) (hS5.bk 0 rfl) rfl) rfl rfl (by decide) fun a12 hA13 => ?_; clear hA11 a10
 refine st hA13 (op_sub rfl (hA13.ev rfl) (evc _ _) (by omega) (by omega)) rfl rfl (by decide) fun a14 hA15 => ?_; clear hA13 a12
 refine stw hA15 (op_call rfl en_47 (ev3 (hA15.ev rfl) (evc _ _) (hA15.ev rfl)) (within_ok _ _ _ _)) rfl rfl (by decide) ?_
 rintro a16 _ W_ ⟨rfl, hW_⟩ hA17; have hW2_ := hW_.symm; subst hW2_; clear hW_ hA15 a14
 refine st hA17 (op_assign rfl (hA17.ev rfl)) rfl rfl (by decide) fun a19 hA20 => ?_; clear hA17 a16
 refine wl_nil ?_
 refine then_n ?_
 refine c_ret ?_
 refine fin_run hA20 (.inl rfl) (run_results1 hA20 rfl (.tmp rfl)) ?_
 exact ⟨rfl, hS5.ext⟩
theorem blk_ok (x1 x2 x3 : Int) (w : World) :
  Calls Try.prog 98 #[(Value.agg #[(Value.int .i64 x1), (Value.int .i64 x2), (Value.int .i64 x3)])] w (Ret fun v w' => v = .bool (blkB (x1, x2, x3)) ∧ Ext NoB w w') := by
 refine calls_enter Try.func98 rfl fun a0 hA0 => ?_
 replace hA0 : Fr 11 [] [(0, (Value.agg #[(Value.int .i64 x1), (Value.int .i64 x2), (Value.int .i64 x3)]))] a0 := hA0
 have hS0 : Sep NoB w w [] := Sep.start _ _
 refine c_seq ?_
 refine c_region ?_
 refine stw hA0 (op_box hS0 rfl (hA0.ev rfl) (cs := [(Value.int .i64 x1), (Value.int .i64 x2), (Value.int .i64 x3)]) rfl) rfl rfl (by decide) ?_
 rintro a1 _ w3 ⟨b4, rfl, hS5⟩ hA2; clear hA0 hS0 a0
 refine st hA2 (op_assign rfl (evc _ _)) rfl rfl (by decide) fun a6 hA7 => ?_; clear hA2 a1
 refine wl_nil ?_
 refine then_n ?_
 refine c_seq ?_
 refine c_region ?_
 refine st hA7 (op_field rfl fd_100_0 (hA7.ev rfl)) rfl rfl (by decide) fun a8 hA9 => ?_; clear hA7 a6
 refine st hA9 (op_loadA rfl ty_30 (hA9.ev rfl) (hS5.bk 0 rfl) (l := [(Value.int .i64 x1), (Value.int .i64 x2)]) rfl rfl) rfl rfl (by decide) fun a10 hA11 => ?_; clear hA9 a8
 refine stw hA11 (op_call rfl en_48 (ev1 (hA11.ev rfl)) (values_ok _ _ _)) rfl rfl (by decide) ?_
 rintro a12 _ w14 ⟨rfl, hE15⟩ hA13; have hS16 := hS5.step hE15; clear hE15 hA11 hS5 a10
 refine st hA13 (op_move rfl (hA13.ev rfl)) rfl rfl (by decide) fun a17 hA18 => ?_; clear hA13 a12
 rcases Bool.eq_false_or_eq_true ((spanB (x1, x2))) with hb19 | hb19
 ·skip
  rw [hb19] at hA18
  refine stg hA18 (op_field rfl fd_100_1 (hA18.ev rfl)) rfl rfl rfl rfl (by decide) fun a20 hA21 => ?_; clear hA18 a17
  refine stg hA21 (op_load1 rfl ty_3 (hA21.ev rfl) (hS16.bk 0 rfl) rfl) rfl rfl rfl rfl (by decide) fun a22 hA23 => ?_; clear hA21 a20
  refine stwg hA23 (op_call rfl en_70 (ev1 (hA23.ev rfl)) (value_ok _ _)) rfl rfl rfl rfl (by decide) ?_
  rintro a24 _ w26 ⟨rfl, hE27⟩ hA25; have hS28 := hS16.step hE27; clear hE27 hA23 hS16 a22
  refine st hA25 (op_pick_t rfl (hA25.ev rfl) (hA25.ev rfl)) rfl rfl (by decide) fun a29 hA30 => ?_; clear hA25 a24
  refine st hA30 (op_assign rfl (hA30.ev rfl)) rfl rfl (by decide) fun a31 hA32 => ?_; clear hA30 a29
  refine wl_nil ?_
  refine then_n ?_
  refine c_ret ?_
  refine fin_run hA32 (.inl rfl) (run_results1 hA32 rfl (.tmp rfl)) ?_
  exact ⟨congrArg Value.bool (by unfold blkB; simp [*]), hS28.ext⟩
 ·skip
  rw [hb19] at hA18
  refine skp hA18 rfl rfl rfl rfl rfl (by decide) fun a33 hA34 => ?_; clear hA18 a17
  refine skp hA34 rfl rfl rfl rfl rfl (by decide) fun a35 hA36 => ?_; clear hA34 a33
  refine skp hA36 rfl rfl rfl rfl rfl (by decide) fun a37 hA38 => ?_; clear hA36 a35
  refine st hA38 (op_pick_f rfl (hA38.ev rfl) (evc _ _)) rfl rfl (by decide) fun a39 hA40 => ?_; clear hA38 a37
  refine st hA40 (op_assign rfl (hA40.ev rfl)) rfl rfl (by decide) fun a41 hA42 => ?_; clear hA40 a39
  refine wl_nil ?_
  refine then_n ?_
  refine c_ret ?_
  refine fin_run hA42 (.inl rfl) (run_results1 hA42 rfl (.tmp rfl)) ?_
  exact ⟨congrArg Value.bool (by unfold blkB; simp [*]), hS16.ext⟩
theorem machine_ok (sc : Int) (vt vm : Value) (w : World) (h1_ : vt.oneCell' = true) (h2_ : vm.oneCell' = true) (hsc : 1 ≤ sc ∧ sc ≤ 4) (m : MacD) (vk : Value) (hk : SlAt w vk 3 m.blocks.length (trips m.blocks)) (hbl : m.blocks.length ≤ 1000000) :
  Calls Try.prog 66 #[(Value.agg #[(Value.int .i64 sc), vt, vm]), (Value.agg #[(Value.int .i64 m.scale), vk])] w (Ret fun v w' => v = .bool (macB sc m) ∧ Ext NoB w w') := by
 refine calls_enter Try.func66 rfl fun a0 hA0 => ?_
 replace hA0 : Fr 14 [] [(0, (Value.agg #[(Value.int .i64 sc), vt, vm])), (1, (Value.agg #[(Value.int .i64 m.scale), vk]))] a0 := hA0
 have hS0 : Sep NoB w w [(sl vk 3 m.blocks.length (trips m.blocks))] := sep_ro ⟨rfl, hk, trivial⟩
 refine c_seq ?_
 refine c_region ?_
 refine stw hA0 (op_box hS0 rfl (hA0.ev rfl) (cs := [(Value.int .i64 sc), vt, vm]) rfl) rfl rfl (by decide) ?_
 rintro a1 _ w3 ⟨b4, rfl, hS5⟩ hA2; clear hA0 hS0 a0
 refine stw hA2 (op_box hS5 rfl (hA2.ev rfl) (cs := [(Value.int .i64 m.scale), vk]) rfl) rfl rfl (by decide) ?_
 rintro a6 _ w8 ⟨b9, rfl, hS10⟩ hA7; clear hA2 hS5 a1
 refine st hA7 (op_assign rfl (evc _ _)) rfl rfl (by decide) fun a11 hA12 => ?_; clear hA7 a6
 refine wl_nil ?_
 refine then_n ?_
 refine c_seq ?_
 refine c_region ?_
 refine st hA12 (op_loadA rfl ty_37 (hA12.ev rfl) (hS10.bk 1 rfl) (l := [(Value.int .i64 sc), vt, vm]) rfl rfl) rfl rfl (by decide) fun a13 hA14 => ?_; clear hA12 a11
 refine st hA14 (op_field rfl fd_103_0 (hA14.ev rfl)) rfl rfl (by decide) fun a15 hA16 => ?_; clear hA14 a13
 refine st hA16 (op_load1 rfl ty_3 (hA16.ev rfl) (hS10.bk 0 rfl) rfl) rfl rfl (by decide) fun a17 hA18 => ?_; clear hA16 a15
 refine stw hA18 (op_call rfl en_93 (ev2 (hA18.ev rfl) (hA18.ev rfl)) (scale_ok m.scale sc _ _ _ h1_ h2_ hsc)) rfl rfl (by decide) ?_
 rintro a19 _ w21 ⟨rfl, hE22⟩ hA20; have hS23 := hS10.step hE22; clear hE22 hA18 hS10 a17
 refine st hA20 (op_move rfl (hA20.ev rfl)) rfl rfl (by decide) fun a24 hA25 => ?_; clear hA20 a19
 rcases Bool.eq_false_or_eq_true ((inB m.scale 0 (sc - 1))) with hb26 | hb26
 ·skip
  rw [hb26] at hA25
  refine stg hA25 (op_field rfl fd_103_1 (hA25.ev rfl)) rfl rfl rfl rfl (by decide) fun a27 hA28 => ?_; clear hA25 a24
  refine stg hA28 (op_load1 rfl ty_101 (hA28.ev rfl) (hS23.bk 0 rfl) rfl) rfl rfl rfl rfl (by decide) fun a29 hA30 => ?_; clear hA28 a27
  refine stwg hA30 (op_call rfl en_97 (ev2 (hA30.ev rfl) (evf _ _)) (all_blk m.blocks _ 98 #[] #[] (fun i => blkB (m.blocks.getD i (0, 0, 0))) _ (hS23.sk 2 rfl) (by omega) ⟨en_98, fun i hi W hW => blk_ok _ _ _ W⟩)) rfl rfl rfl rfl (by decide) ?_
  rintro a31 _ w33 ⟨rfl, hE34⟩ hA32; have hS35 := hS23.step hE34; clear hE34 hA30 hS23 a29
  refine st hA32 (op_pick_t rfl (hA32.ev rfl) (hA32.ev rfl)) rfl rfl (by decide) fun a36 hA37 => ?_; clear hA32 a31
  refine st hA37 (op_assign rfl (hA37.ev rfl)) rfl rfl (by decide) fun a38 hA39 => ?_; clear hA37 a36
  refine wl_nil ?_
  refine then_n ?_
  refine c_ret ?_
  refine fin_run hA39 (.inl rfl) (run_results1 hA39 rfl (.tmp rfl)) ?_
  exact ⟨congrArg Value.bool (by unfold macB allI; simp [*]), hS35.ext⟩
 ·skip
  rw [hb26] at hA25
  refine skp hA25 rfl rfl rfl rfl rfl (by decide) fun a40 hA41 => ?_; clear hA25 a24
  refine skp hA41 rfl rfl rfl rfl rfl (by decide) fun a42 hA43 => ?_; clear hA41 a40
  refine skp hA43 rfl rfl rfl rfl rfl (by decide) fun a44 hA45 => ?_; clear hA43 a42
  refine st hA45 (op_pick_f rfl (hA45.ev rfl) (evc _ _)) rfl rfl (by decide) fun a46 hA47 => ?_; clear hA45 a44
  refine st hA47 (op_assign rfl (hA47.ev rfl)) rfl rfl (by decide) fun a48 hA49 => ?_; clear hA47 a46
  refine wl_nil ?_
  refine then_n ?_
  refine c_ret ?_
  refine fin_run hA49 (.inl rfl) (run_results1 hA49 rfl (.tmp rfl)) ?_
  exact ⟨congrArg Value.bool (by unfold macB allI; simp [*]), hS23.ext⟩
theorem mshort_ok (m : MacD) (vk : Value) (w : World) (hk : SlAt w vk 3 m.blocks.length (trips m.blocks)) :
  Calls Try.prog 64 #[(Value.agg #[(Value.int .i64 m.scale), vk])] w (Ret fun v w' => v = .bool (decide ((m.blocks.length : Int) ≤ 5)) ∧ Ext NoB w w') := by
 refine calls_enter Try.func64 rfl fun a0 hA0 => ?_
 replace hA0 : Fr 7 [] [(0, (Value.agg #[(Value.int .i64 m.scale), vk]))] a0 := hA0
 have hS0 : Sep NoB w w [(sl vk 3 m.blocks.length (trips m.blocks))] := sep_ro ⟨rfl, hk, trivial⟩
 refine c_seq ?_
 refine c_region ?_
 refine stw hA0 (op_box hS0 rfl (hA0.ev rfl) (cs := [(Value.int .i64 m.scale), vk]) rfl) rfl rfl (by decide) ?_
 rintro a1 _ w3 ⟨b4, rfl, hS5⟩ hA2; clear hA0 hS0 a0
 refine st hA2 (op_assign rfl (evc _ _)) rfl rfl (by decide) fun a6 hA7 => ?_; clear hA2 a1
 refine wl_nil ?_
 refine then_n ?_
 refine c_seq ?_
 refine c_region ?_
 refine st hA7 (op_field rfl fd_103_1 (hA7.ev rfl)) rfl rfl (by decide) fun a8 hA9 => ?_; clear hA7 a6
 refine st hA9 (op_load1 rfl ty_101 (hA9.ev rfl) (hS5.bk 0 rfl) rfl) rfl rfl (by decide) fun a10 hA11 => ?_; clear hA9 a8
 refine st hA11 (op_lenS rfl un_101 (hA11.ev rfl) (hS5.sk 1 rfl)) rfl rfl (by decide) fun a12 hA13 => ?_; clear hA11 a10
 refine st hA13 (op_leq rfl (hA13.ev rfl) (evc _ _)) rfl rfl (by decide) fun a14 hA15 => ?_; clear hA13 a12
 refine st hA15 (op_assign rfl (hA15.ev rfl)) rfl rfl (by decide) fun a16 hA17 => ?_; clear hA15 a14
 refine wl_nil ?_
 refine then_n ?_
 refine c_ret ?_
 refine fin_run hA17 (.inl rfl) (run_results1 hA17 rfl (.tmp rfl)) ?_
 exact ⟨rfl, hS5.ext⟩
theorem tshort_ok (t : TabD) (vr vb : Value) (w : World) (hr : SlAt w vr 2 t.rows.length (pairs t.rows)) (hb : SlAt w vb 1 t.brk.length (ints t.brk)) (hrl : t.rows.length ≤ 1000000) (hbl : t.brk.length ≤ 1000000) :
  Calls Try.prog 62 #[(Value.agg #[(Value.int .i64 t.frm), (Value.int .i64 t.dst), vr, vb, (Value.int .i64 t.err)])] w (Ret fun v w' => v = .bool (decide ((t.rows.length : Int) ≤ 8)) ∧ Ext NoB w w') := by
 refine calls_enter Try.func62 rfl fun a0 hA0 => ?_
 replace hA0 : Fr 7 [] [(0, (Value.agg #[(Value.int .i64 t.frm), (Value.int .i64 t.dst), vr, vb, (Value.int .i64 t.err)]))] a0 := hA0
 have hS0 : Sep NoB w w [(sl vr 2 t.rows.length (pairs t.rows)), (sl vb 1 t.brk.length (ints t.brk))] := sep_ro ⟨rfl, hr, rfl, hb, trivial⟩
 refine c_seq ?_
 refine c_region ?_
 refine stw hA0 (op_box hS0 rfl (hA0.ev rfl) (cs := [(Value.int .i64 t.frm), (Value.int .i64 t.dst), vr, vb, (Value.int .i64 t.err)]) rfl) rfl rfl (by decide) ?_
 rintro a1 _ w3 ⟨b4, rfl, hS5⟩ hA2; clear hA0 hS0 a0
 refine st hA2 (op_assign rfl (evc _ _)) rfl rfl (by decide) fun a6 hA7 => ?_; clear hA2 a1
 refine wl_nil ?_
 refine then_n ?_
 refine c_seq ?_
 refine c_region ?_
 refine st hA7 (op_field rfl fd_106_2 (hA7.ev rfl)) rfl rfl (by decide) fun a8 hA9 => ?_; clear hA7 a6
 refine st hA9 (op_load1 rfl ty_104 (hA9.ev rfl) (hS5.bk 0 rfl) rfl) rfl rfl (by decide) fun a10 hA11 => ?_; clear hA9 a8
 refine st hA11 (op_lenS rfl un_104 (hA11.ev rfl) (hS5.sk 1 rfl)) rfl rfl (by decide) fun a12 hA13 => ?_; clear hA11 a10
 refine st hA13 (op_leq rfl (hA13.ev rfl) (evc _ _)) rfl rfl (by decide) fun a14 hA15 => ?_; clear hA13 a12
 refine st hA15 (op_assign rfl (hA15.ev rfl)) rfl rfl (by decide) fun a16 hA17 => ?_; clear hA15 a14
 refine wl_nil ?_
 refine then_n ?_
 refine c_ret ?_
 refine fin_run hA17 (.inl rfl) (run_results1 hA17 rfl (.tmp rfl)) ?_
 exact ⟨rfl, hS5.ext⟩
end Go.Proofs.Ytohgladndklciaa

namespace Go.Proofs.Ytohgladndklciaa
open Go.RowKit Go.Shelf Go.Eng Go.Hard
theorem fd_106_3 : fldK Try.prog 106 3 = some 3 := by kernel_rfl
theorem en_78 : ∀ args w, (callFunc 78 args).run Try.prog w = .ok (.enter 78 args) w := enters_of Try.func78 (by kernel_rfl) rfl
theorem en_69 : ∀ args w, (callFunc 69 args).run Try.prog w = .ok (.enter 69 args) w := enters_of Try.func69 (by kernel_rfl) rfl
theorem fd_46_2 : fldK Try.prog 46 2 = some 2 := by kernel_rfl
theorem ty_43 : tyK Try.prog 43 = some (false, 1) := by kernel_rfl
theorem un_43 : Try.prog.underlying 43 = some (.slice 75) := by kernel_rfl
theorem ty_75 : tyK Try.prog 75 = some (true, 2) := by kernel_rfl
theorem fd_75_0 : fldK Try.prog 75 0 = some 0 := by kernel_rfl
theorem ty_46 : tyK Try.prog 46 = some (true, 5) := by kernel_rfl
theorem convclo_ok (j : Nat) (r1 r2 : Int) (t : TabD) (vr vb : Value) (b1 b2 : Nat) (w : World) (g1 : (blk b1 30 [.int .i64 r1, .int .i64 r2]).p w) (g2 : (blk b2 106 [.int .i64 t.frm, .int .i64 t.dst, vr, vb, .int .i64 t.err]).p w) (hr : SlAt w vr 2 t.rows.length (pairs t.rows)) (hb : SlAt w vb 1 t.brk.length (ints t.brk)) (hrl : t.rows.length ≤ 1000000) (hj : j + 1 < t.rows.length) :
  Calls Try.prog 78 #[(Value.int .i64 (j : Int)), (bptr b1 0), (bptr b2 0)] w (Ret fun v w' => v = .bool (brB t (r1, r2) j) ∧ Ext NoB w w') := by
 refine calls_enter Try.func78 rfl fun a0 hA0 => ?_
 replace hA0 : Fr 26 [] [(0, (Value.int .i64 (j : Int))), (1, (bptr b1 0)), (2, (bptr b2 0))] a0 := hA0
 have e2_ : (t.rows.getD ((j : Int) + 1).toNat (0, 0)).1 = (t.rows.getD (j + 1) (0, 0)).1 := by rw [show ((j : Int) + 1).toNat = j + 1 from by omega]
 have hS0 : Sep NoB w w [(rob b1 30 [(Value.int .i64 r1), (Value.int .i64 r2)]), (rob b2 106 [(Value.int .i64 t.frm), (Value.int .i64 t.dst), vr, vb, (Value.int .i64 t.err)]), (sl vr 2 t.rows.length (pairs t.rows)), (sl vb 1 t.brk.length (ints t.brk))] := sep_ro ⟨rfl, g1, rfl, g2, rfl, hr, rfl, hb, trivial⟩
 refine c_seq ?_
 refine c_region ?_
 refine st hA0 (op_assign rfl (evc _ _)) rfl rfl (by decide) fun a1 hA2 => ?_; clear hA0 a0
 refine wl_nil ?_
 refine then_n ?_
 refine c_seq ?_
 have hA3 := hA2.as [(0, (Value.int .i64 (j : Int))), (1, (bptr b1 0)), (2, (bptr b2 0))] rfl; clear hA2
 by_cases hb5 : r2 ≤ ((t.rows.getD j (0, 0)).1)
 ·skip
  have hA6 := hA3.as [(0, (Value.int .i64 (j : Int))), (1, (bptr b1 0)), (2, (bptr b2 0))] rfl; clear hA3
  refine c_drawn mixed hA6 hS0 19 [[], [0], [], [2], [], [3, 4], [5], [6], [1, 7], [8], [9], [9, 10], [9], [9, 12], [9], [9, 14], [9, 13, 15], [9, 16], [9, 17]] [(Yd.val (bptr b1 1)), (Yd.val (Value.int .i64 r2)), (Yd.val (bptr b2 2)), (Yd.val vr), (Yd.val (Value.int .i64 (j : Int))), (Yd.val (eptr vr (j * 2))), (Yd.val (eptr vr (j * 2 + 0))), (Yd.val (Value.int .i64 ((t.rows.getD j (0, 0)).1))), (Yd.val (Value.bool true)), (Yd.val (Value.bool true)), (Yd.val undef), (Yd.val undef), (Yd.val undef), (Yd.val undef), (Yd.val undef), (Yd.val undef), (Yd.val undef), (Yd.val undef), (Yd.val undef)] (by decide +kernel) rfl rfl ?_ ?_
  ·skip
   refine ⟨fun a w hA hS hd => by exact opG_of rfl (dv (op_field rfl fd_30_1 (hA.ev rfl)) hS rfl), ?_⟩
   refine ⟨fun a w hA hS hd => by have e0 := has_ev (hd 0 (by decide)) rfl (fun _ h => h); exact opG_of rfl (dv (op_load1 rfl ty_3 (tmp_ev e0) (hS.rk 0 rfl) rfl) hS rfl), ?_⟩
   refine ⟨fun a w hA hS hd => by exact opG_of rfl (dv (op_field rfl fd_106_2 (hA.ev rfl)) hS rfl), ?_⟩
   refine ⟨fun a w hA hS hd => by have e2 := has_ev (hd 2 (by decide)) rfl (fun _ h => h); exact opG_of rfl (dv (op_load1 rfl ty_104 (tmp_ev e2) (hS.rk 1 rfl) rfl) hS rfl), ?_⟩
   refine ⟨fun a w hA hS hd => by exact opG_of rfl (dv (op_move rfl (hA.ev rfl)) hS rfl), ?_⟩
   refine ⟨fun a w hA hS hd => by have e3 := has_ev (hd 3 (by decide)) rfl (fun _ h => h); have e4 := has_ev (hd 4 (by decide)) rfl (fun _ h => h); exact opG_of rfl (dv (op_indexS rfl un_104 ty_107 (tmp_ev e3) (i := j) (tmp_ev e4) (hS.sk 2 rfl) (by decide) (by omega)) hS rfl), ?_⟩
   refine ⟨fun a w hA hS hd => by have e5 := has_ev (hd 5 (by decide)) rfl (fun _ h => h); exact opG_of rfl (dv (op_fieldS rfl fd_107_0 (tmp_ev e5) (hS.sk 2 rfl) (by rw [((hS.sk 2 rfl)).1]; omega)) hS rfl), ?_⟩
   refine ⟨fun a w hA hS hd => by have e6 := has_ev (hd 6 (by decide)) rfl (fun _ h => h); exact opG_of rfl (dv (op_load1E rfl ty_3 (tmp_ev e6) (hS.sk 2 rfl) (pairs_at0 (by omega))) hS rfl), ?_⟩
   refine ⟨fun a w hA hS hd => by have e1 := has_ev (hd 1 (by decide)) rfl (fun _ h => h); have e7 := has_ev (hd 7 (by decide)) rfl (fun _ h => h); exact opG_of rfl (dv (op_leq rfl (tmp_ev e1) (tmp_ev e7)) hS (by show Value.bool _ = _; simp only [decide_eq_true hb5, decide_true, decide_false, Bool.not_true, Bool.not_false])), ?_⟩
   refine ⟨fun a w hA hS hd => by have e8 := has_ev (hd 8 (by decide)) rfl (fun _ h => h); exact opG_of rfl (dv (op_move rfl (tmp_ev e8)) hS rfl), ?_⟩
   refine ⟨fun a w hA hS hd => by have e9 := has_ev (hd 9 (by decide)) rfl (fun _ h => h); exact opG_no rfl rfl e9 rfl (dskip hS rfl), ?_⟩
   refine ⟨fun a w hA hS hd => by have e9 := has_ev (hd 9 (by decide)) rfl (fun _ h => h); have e10 := has_ev (hd 10 (by decide)) rfl (fun _ h => h); exact opG_no rfl rfl e9 rfl (dskip hS rfl), ?_⟩
   refine ⟨fun a w hA hS hd => by have e9 := has_ev (hd 9 (by decide)) rfl (fun _ h => h); exact opG_no rfl rfl e9 rfl (dskip hS rfl), ?_⟩
   refine ⟨fun a w hA hS hd => by have e9 := has_ev (hd 9 (by decide)) rfl (fun _ h => h); have e12 := has_ev (hd 12 (by decide)) rfl (fun _ h => h); exact opG_no rfl rfl e9 rfl (dskip hS rfl), ?_⟩
   refine ⟨fun a w hA hS hd => by have e9 := has_ev (hd 9 (by decide)) rfl (fun _ h => h); exact opG_no rfl rfl e9 rfl (dskip hS rfl), ?_⟩
   refine ⟨fun a w hA hS hd => by have e9 := has_ev (hd 9 (by decide)) rfl (fun _ h => h); have e14 := has_ev (hd 14 (by decide)) rfl (fun _ h => h); exact opG_no rfl rfl e9 rfl (dskip hS rfl), ?_⟩
   refine ⟨fun a w hA hS hd => by have e9 := has_ev (hd 9 (by decide)) rfl (fun _ h => h); have e13 := has_ev (hd 13 (by decide)) rfl (fun _ h => h); have e15 := has_ev (hd 15 (by decide)) rfl (fun _ h => h); exact opG_no rfl rfl e9 rfl (dskip hS rfl), ?_⟩
   refine ⟨fun a w hA hS hd => by have e9 := has_ev (hd 9 (by decide)) rfl (fun _ h => h); have e16 := has_ev (hd 16 (by decide)) rfl (fun _ h => h); exact opG_no rfl rfl e9 rfl (dskip hS rfl), ?_⟩
   refine ⟨fun a w hA hS hd => by have e9 := has_ev (hd 9 (by decide)) rfl (fun _ h => h); have e17 := has_ev (hd 17 (by decide)) rfl (fun _ h => h); exact opG_no rfl rfl e9 rfl (dskip hS rfl), ?_⟩
   trivial
  intro a8 w9 hA10 hS11 hH12; clear hA6 hS0
  have hA13 := hA10.add (has_ev (hH12 9 (by decide)) rfl (fun _ h => h)); clear hA10
  have hA14 := hA13.add (has_ev (hH12 11 (by decide)) rfl (fun _ h => h)); clear hA13
  have hA15 := hA14.add (has_ev (hH12 18 (by decide)) rfl (fun _ h => h)); clear hA14
  clear hH12
  refine skp hA15 rfl rfl rfl rfl rfl (by decide) fun a16 hA17 => ?_; clear hA15 a8
  refine st hA17 (op_pick_t rfl (hA17.ev rfl) (evc _ _)) rfl rfl (by decide) fun a18 hA19 => ?_; clear hA17 a16
  refine st hA19 (op_assign rfl (hA19.ev rfl)) rfl rfl (by decide) fun a20 hA21 => ?_; clear hA19 a18
  refine wl_nil ?_
  refine then_n ?_
  refine c_ret ?_
  refine fin_run hA21 (.inl rfl) (run_results1 hA21 rfl (.tmp rfl)) ?_
  exact ⟨congrArg Value.bool (by unfold brB tx; dsimp only; (rw [Bool.eq_iff_iff]; (try simp only [Bool.true_and, Bool.false_and, Bool.and_true, Bool.and_false, Bool.false_or, Bool.true_or, Bool.or_false, Bool.or_true, true_and, and_true, false_and, and_false, false_or, or_false, true_or, or_true, Bool.and_eq_true, Bool.or_eq_true, Bool.not_eq_true', decide_eq_true_eq, decide_eq_false_iff_not, Bool.false_eq_true, Bool.true_eq_false, Bool.not_true, Bool.not_false, eq_self_iff_true, true_iff, false_iff, iff_true, iff_false, not_true, not_false_eq_true]); omega)), hS11.ext⟩
 ·skip
  have hA22 := hA3.as [(0, (Value.int .i64 (j : Int))), (1, (bptr b1 0)), (2, (bptr b2 0))] rfl; clear hA3
  refine c_drawn mixed hA22 hS0 19 [[], [0], [], [2], [], [3, 4], [5], [6], [1, 7], [8], [9], [9, 10], [9], [9, 12], [9], [9, 14], [9, 13, 15], [9, 16], [9, 17]] [(Yd.val (bptr b1 1)), (Yd.val (Value.int .i64 r2)), (Yd.val (bptr b2 2)), (Yd.val vr), (Yd.val (Value.int .i64 (j : Int))), (Yd.val (eptr vr (j * 2))), (Yd.val (eptr vr (j * 2 + 0))), (Yd.val (Value.int .i64 ((t.rows.getD j (0, 0)).1))), (Yd.val (Value.bool false)), (Yd.val (Value.bool false)), (Yd.val (bptr b1 0)), (Yd.val (Value.int .i64 r1)), (Yd.val (bptr b2 2)), (Yd.val vr), (Yd.val (Value.int .i64 (j : Int))), (Yd.val (Value.int .i64 ((j : Int) + 1))), (Yd.val (eptr vr ((j + 1) * 2))), (Yd.val (eptr vr ((j + 1) * 2 + 0))), (Yd.val (Value.int .i64 ((t.rows.getD (j + 1) (0, 0)).1)))] (by decide +kernel) rfl rfl ?_ ?_
  ·skip
   refine ⟨fun a w hA hS hd => by exact opG_of rfl (dv (op_field rfl fd_30_1 (hA.ev rfl)) hS rfl), ?_⟩
   refine ⟨fun a w hA hS hd => by have e0 := has_ev (hd 0 (by decide)) rfl (fun _ h => h); exact opG_of rfl (dv (op_load1 rfl ty_3 (tmp_ev e0) (hS.rk 0 rfl) rfl) hS rfl), ?_⟩
   refine ⟨fun a w hA hS hd => by exact opG_of rfl (dv (op_field rfl fd_106_2 (hA.ev rfl)) hS rfl), ?_⟩
   refine ⟨fun a w hA hS hd => by have e2 := has_ev (hd 2 (by decide)) rfl (fun _ h => h); exact opG_of rfl (dv (op_load1 rfl ty_104 (tmp_ev e2) (hS.rk 1 rfl) rfl) hS rfl), ?_⟩
   refine ⟨fun a w hA hS hd => by exact opG_of rfl (dv (op_move rfl (hA.ev rfl)) hS rfl), ?_⟩
   refine ⟨fun a w hA hS hd => by have e3 := has_ev (hd 3 (by decide)) rfl (fun _ h => h); have e4 := has_ev (hd 4 (by decide)) rfl (fun _ h => h); exact opG_of rfl (dv (op_indexS rfl un_104 ty_107 (tmp_ev e3) (i := j) (tmp_ev e4) (hS.sk 2 rfl) (by decide) (by omega)) hS rfl), ?_⟩
   refine ⟨fun a w hA hS hd => by have e5 := has_ev (hd 5 (by decide)) rfl (fun _ h => h); exact opG_of rfl (dv (op_fieldS rfl fd_107_0 (tmp_ev e5) (hS.sk 2 rfl) (by rw [((hS.sk 2 rfl)).1]; omega)) hS rfl), ?_⟩
   refine ⟨fun a w hA hS hd => by have e6 := has_ev (hd 6 (by decide)) rfl (fun _ h => h); exact opG_of rfl (dv (op_load1E rfl ty_3 (tmp_ev e6) (hS.sk 2 rfl) (pairs_at0 (by omega))) hS rfl), ?_⟩
   refine ⟨fun a w hA hS hd => by have e1 := has_ev (hd 1 (by decide)) rfl (fun _ h => h); have e7 := has_ev (hd 7 (by decide)) rfl (fun _ h => h); exact opG_of rfl (dv (op_leq rfl (tmp_ev e1) (tmp_ev e7)) hS (by show Value.bool _ = _; simp only [decide_eq_false hb5, decide_true, decide_false, Bool.not_true, Bool.not_false])), ?_⟩
   refine ⟨fun a w hA hS hd => by have e8 := has_ev (hd 8 (by decide)) rfl (fun _ h => h); exact opG_of rfl (dv (op_move rfl (tmp_ev e8)) hS rfl), ?_⟩
   refine ⟨fun a w hA hS hd => by have e9 := has_ev (hd 9 (by decide)) rfl (fun _ h => h); exact opG_yes rfl rfl e9 (dv (op_field rfl fd_30_0 (hA.ev rfl)) hS rfl), ?_⟩
   refine ⟨fun a w hA hS hd => by have e9 := has_ev (hd 9 (by decide)) rfl (fun _ h => h); have e10 := has_ev (hd 10 (by decide)) rfl (fun _ h => h); exact opG_yes rfl rfl e9 (dv (op_load1 rfl ty_3 (tmp_ev e10) (hS.rk 0 rfl) rfl) hS rfl), ?_⟩
   refine ⟨fun a w hA hS hd => by have e9 := has_ev (hd 9 (by decide)) rfl (fun _ h => h); exact opG_yes rfl rfl e9 (dv (op_field rfl fd_106_2 (hA.ev rfl)) hS rfl), ?_⟩
   refine ⟨fun a w hA hS hd => by have e9 := has_ev (hd 9 (by decide)) rfl (fun _ h => h); have e12 := has_ev (hd 12 (by decide)) rfl (fun _ h => h); exact opG_yes rfl rfl e9 (dv (op_load1 rfl ty_104 (tmp_ev e12) (hS.rk 1 rfl) rfl) hS rfl), ?_⟩
   refine ⟨fun a w hA hS hd => by have e9 := has_ev (hd 9 (by decide)) rfl (fun _ h => h); exact opG_yes rfl rfl e9 (dv (op_move rfl (hA.ev rfl)) hS rfl), ?_⟩
   refine ⟨fun a w hA hS hd => by have e9 := has_ev (hd 9 (by decide)) rfl (fun _ h => h); have e14 := has_ev (hd 14 (by decide)) rfl (fun _ h => h); exact opG_yes rfl rfl e9 (dv (op_add rfl (tmp_ev e14) (evc _ _) (by omega) (by omega)) hS rfl), ?_⟩
   refine ⟨fun a w hA hS hd => by have e9 := has_ev (hd 9 (by decide)) rfl (fun _ h => h); have e13 := has_ev (hd 13 (by decide)) rfl (fun _ h => h); have e15 := has_ev (hd 15 (by decide)) rfl (fun _ h => h); exact opG_yes rfl rfl e9 (dv (op_indexS rfl un_104 ty_107 (tmp_ev e13) (i := j + 1) ((tmp_ev e15).trans (congrArg (Value.int .i64) (show ((j : Int) + 1 : Int) = ((j + 1 : Nat) : Int) by omega))) (hS.sk 2 rfl) (by decide) (by omega)) hS rfl), ?_⟩
   refine ⟨fun a w hA hS hd => by have e9 := has_ev (hd 9 (by decide)) rfl (fun _ h => h); have e16 := has_ev (hd 16 (by decide)) rfl (fun _ h => h); exact opG_yes rfl rfl e9 (dv (op_fieldS rfl fd_107_0 (tmp_ev e16) (hS.sk 2 rfl) (by rw [((hS.sk 2 rfl)).1]; omega)) hS rfl), ?_⟩
   refine ⟨fun a w hA hS hd => by have e9 := has_ev (hd 9 (by decide)) rfl (fun _ h => h); have e17 := has_ev (hd 17 (by decide)) rfl (fun _ h => h); exact opG_yes rfl rfl e9 (dv (op_load1E rfl ty_3 (tmp_ev e17) (hS.sk 2 rfl) (pairs_at0 (by omega))) hS rfl), ?_⟩
   trivial
  intro a24 w25 hA26 hS27 hH28; clear hA22 hS0
  have hA29 := hA26.add (has_ev (hH28 9 (by decide)) rfl (fun _ h => h)); clear hA26
  have hA30 := hA29.add (has_ev (hH28 11 (by decide)) rfl (fun _ h => h)); clear hA29
  have hA31 := hA30.add (has_ev (hH28 18 (by decide)) rfl (fun _ h => h)); clear hA30
  clear hH28
  refine stg hA31 (op_geq rfl (hA31.ev rfl) (hA31.ev rfl)) rfl rfl rfl rfl (by decide) fun a32 hA33 => ?_; clear hA31 a24
  refine st hA33 (op_pick_f rfl (hA33.ev rfl) (hA33.ev rfl)) rfl rfl (by decide) fun a34 hA35 => ?_; clear hA33 a32
  refine st hA35 (op_assign rfl (hA35.ev rfl)) rfl rfl (by decide) fun a36 hA37 => ?_; clear hA35 a34
  refine wl_nil ?_
  refine then_n ?_
  refine c_ret ?_
  refine fin_run hA37 (.inl rfl) (run_results1 hA37 rfl (.tmp rfl)) ?_
  exact ⟨congrArg Value.bool (by unfold brB tx; dsimp only; (rw [Bool.eq_iff_iff]; (try simp only [Bool.true_and, Bool.false_and, Bool.and_true, Bool.and_false, Bool.false_or, Bool.true_or, Bool.or_false, Bool.or_true, true_and, and_true, false_and, and_false, false_or, or_false, true_or, or_true, Bool.and_eq_true, Bool.or_eq_true, Bool.not_eq_true', decide_eq_true_eq, decide_eq_false_iff_not, Bool.false_eq_true, Bool.true_eq_false, Bool.not_true, Bool.not_false, eq_self_iff_true, true_iff, false_iff, iff_true, iff_false, not_true, not_false_eq_true]); omega)), hS27.ext⟩
theorem convclo_at (x : Int) (r1 r2 : Int) (t : TabD) (vr vb : Value) (b1 b2 : Nat) (w : World) (g1 : (blk b1 30 [.int .i64 r1, .int .i64 r2]).p w) (g2 : (blk b2 106 [.int .i64 t.frm, .int .i64 t.dst, vr, vb, .int .i64 t.err]).p w) (hr : SlAt w vr 2 t.rows.length (pairs t.rows)) (hb : SlAt w vb 1 t.brk.length (ints t.brk)) (hrl : t.rows.length ≤ 1000000) (hx : 0 ≤ x ∧ x ≤ (t.rows.length : Int) - 2) : Calls Try.prog 78 #[.int .i64 x, bptr b1 0, bptr b2 0] w (Ret fun v w' => v = .bool (brB t (r1, r2) x.toNat) ∧ Ext NoB w w') := by
 obtain ⟨j, rfl⟩ : ∃ j : Nat, x = (j : Int) := ⟨x.toNat, by omega⟩
 exact convclo_ok j r1 r2 t vr vb b1 b2 w g1 g2 hr hb hrl (by omega)
theorem converts_ok (r1 r2 : Int) (t : TabD) (vr vb : Value) (w : World) (hr : SlAt w vr 2 t.rows.length (pairs t.rows)) (hb : SlAt w vb 1 t.brk.length (ints t.brk)) (hrl : t.rows.length ≤ 1000000) (hbl : t.brk.length ≤ 1000000) (n : Int) (hV : TabV n t) :
  Calls Try.prog 49 #[(Value.agg #[(Value.int .i64 t.frm), (Value.int .i64 t.dst), vr, vb, (Value.int .i64 t.err)]), (Value.agg #[(Value.int .i64 r1), (Value.int .i64 r2)])] w (Ret fun v w' => v = .bool (convB t (r1, r2)) ∧ Ext NoB w w') := by
 refine calls_enter Try.func49 rfl fun a0 hA0 => ?_
 replace hA0 : Fr 31 [] [(0, (Value.agg #[(Value.int .i64 t.frm), (Value.int .i64 t.dst), vr, vb, (Value.int .i64 t.err)])), (1, (Value.agg #[(Value.int .i64 r1), (Value.int .i64 r2)]))] a0 := hA0
 have hln := hV.len; have e2_ : (t.rows.getD ((t.rows.length : Int) - 1).toNat (0, 0)).1 = (t.rows.getD (t.rows.length - 1) (0, 0)).1 := by rw [show ((t.rows.length : Int) - 1).toNat = t.rows.length - 1 from by omega]
 have hS0 : Sep NoB w w [(sl vr 2 t.rows.length (pairs t.rows)), (sl vb 1 t.brk.length (ints t.brk))] := sep_ro ⟨rfl, hr, rfl, hb, trivial⟩
 refine c_seq ?_
 refine c_region ?_
 refine stw hA0 (op_box hS0 rfl (hA0.ev rfl) (cs := [(Value.int .i64 t.frm), (Value.int .i64 t.dst), vr, vb, (Value.int .i64 t.err)]) rfl) rfl rfl (by decide) ?_
 rintro a1 _ w3 ⟨b4, rfl, hS5⟩ hA2; clear hA0 hS0 a0
 refine stw hA2 (op_box hS5 rfl (hA2.ev rfl) (cs := [(Value.int .i64 r1), (Value.int .i64 r2)]) rfl) rfl rfl (by decide) ?_
 rintro a6 _ w8 ⟨b9, rfl, hS10⟩ hA7; clear hA2 hS5 a1
 refine st hA7 (op_assign rfl (evc _ _)) rfl rfl (by decide) fun a11 hA12 => ?_; clear hA7 a6
 refine wl_nil ?_
 refine then_n ?_
 refine c_seq ?_
 refine c_seq ?_
 have hA13 := hA12.as [(3, (bptr b9 0)), (2, (bptr b4 0))] rfl; clear hA12
 by_cases hb15 : r1 < ((t.rows.getD 0 (0, 0)).1)
 ·skip
  have hA16 := hA13.as [(3, (bptr b9 0)), (2, (bptr b4 0))] rfl; clear hA13
  refine c_drawn mixed hA16 hS10 20 [[], [0], [], [2], [3], [4], [5], [1, 6], [7], [8], [8, 9], [8], [8, 11], [8], [8, 13], [8, 14], [8, 15], [8, 12, 16], [8, 17], [8, 18]] [(Yd.val (bptr b9 0)), (Yd.val (Value.int .i64 r1)), (Yd.val (bptr b4 2)), (Yd.val vr), (Yd.val (eptr vr (0 * 2))), (Yd.val (eptr vr (0 * 2 + 0))), (Yd.val (Value.int .i64 ((t.rows.getD 0 (0, 0)).1))), (Yd.val (Value.bool true)), (Yd.val (Value.bool true)), (Yd.val undef), (Yd.val undef), (Yd.val undef), (Yd.val undef), (Yd.val undef), (Yd.val undef), (Yd.val undef), (Yd.val undef), (Yd.val undef), (Yd.val undef), (Yd.val undef)] (by decide +kernel) rfl rfl ?_ ?_
  ·skip
   refine ⟨fun a w hA hS hd => by exact opG_of rfl (dv (op_field rfl fd_30_0 (hA.ev rfl)) hS rfl), ?_⟩
   refine ⟨fun a w hA hS hd => by have e0 := has_ev (hd 0 (by decide)) rfl (fun _ h => h); exact opG_of rfl (dv (op_load1 rfl ty_3 (tmp_ev e0) (hS.bk 0 rfl) rfl) hS rfl), ?_⟩
   refine ⟨fun a w hA hS hd => by exact opG_of rfl (dv (op_field rfl fd_106_2 (hA.ev rfl)) hS rfl), ?_⟩
   refine ⟨fun a w hA hS hd => by have e2 := has_ev (hd 2 (by decide)) rfl (fun _ h => h); exact opG_of rfl (dv (op_load1 rfl ty_104 (tmp_ev e2) (hS.bk 1 rfl) rfl) hS rfl), ?_⟩
   refine ⟨fun a w hA hS hd => by have e3 := has_ev (hd 3 (by decide)) rfl (fun _ h => h); exact opG_of rfl (dv (op_indexS rfl un_104 ty_107 (tmp_ev e3) (i := 0) (show _ = Value.int .i64 ((0 : Nat) : Int) from (evc _ _)) (hS.sk 2 rfl) (by decide) (by omega)) hS rfl), ?_⟩
   refine ⟨fun a w hA hS hd => by have e4 := has_ev (hd 4 (by decide)) rfl (fun _ h => h); exact opG_of rfl (dv (op_fieldS rfl fd_107_0 (tmp_ev e4) (hS.sk 2 rfl) (by rw [((hS.sk 2 rfl)).1]; omega)) hS rfl), ?_⟩
   refine ⟨fun a w hA hS hd => by have e5 := has_ev (hd 5 (by decide)) rfl (fun _ h => h); exact opG_of rfl (dv (op_load1E rfl ty_3 (tmp_ev e5) (hS.sk 2 rfl) (pairs_at0 (by omega))) hS rfl), ?_⟩
   refine ⟨fun a w hA hS hd => by have e1 := has_ev (hd 1 (by decide)) rfl (fun _ h => h); have e6 := has_ev (hd 6 (by decide)) rfl (fun _ h => h); exact opG_of rfl (dv (op_lss rfl (tmp_ev e1) (tmp_ev e6)) hS (by show Value.bool _ = _; simp only [decide_eq_true hb15, decide_true, decide_false, Bool.not_true, Bool.not_false])), ?_⟩
   refine ⟨fun a w hA hS hd => by have e7 := has_ev (hd 7 (by decide)) rfl (fun _ h => h); exact opG_of rfl (dv (op_move rfl (tmp_ev e7)) hS rfl), ?_⟩
   refine ⟨fun a w hA hS hd => by have e8 := has_ev (hd 8 (by decide)) rfl (fun _ h => h); exact opG_no rfl rfl e8 rfl (dskip hS rfl), ?_⟩
   refine ⟨fun a w hA hS hd => by have e8 := has_ev (hd 8 (by decide)) rfl (fun _ h => h); have e9 := has_ev (hd 9 (by decide)) rfl (fun _ h => h); exact opG_no rfl rfl e8 rfl (dskip hS rfl), ?_⟩
   refine ⟨fun a w hA hS hd => by have e8 := has_ev (hd 8 (by decide)) rfl (fun _ h => h); exact opG_no rfl rfl e8 rfl (dskip hS rfl), ?_⟩
   refine ⟨fun a w hA hS hd => by have e8 := has_ev (hd 8 (by decide)) rfl (fun _ h => h); have e11 := has_ev (hd 11 (by decide)) rfl (fun _ h => h); exact opG_no rfl rfl e8 rfl (dskip hS rfl), ?_⟩
   refine ⟨fun a w hA hS hd => by have e8 := has_ev (hd 8 (by decide)) rfl (fun _ h => h); exact opG_no rfl rfl e8 rfl (dskip hS rfl), ?_⟩
   refine ⟨fun a w hA hS hd => by have e8 := has_ev (hd 8 (by decide)) rfl (fun _ h => h); have e13 := has_ev (hd 13 (by decide)) rfl (fun _ h => h); exact opG_no rfl rfl e8 rfl (dskip hS rfl), ?_⟩
   refine ⟨fun a w hA hS hd => by have e8 := has_ev (hd 8 (by decide)) rfl (fun _ h => h); have e14 := has_ev (hd 14 (by decide)) rfl (fun _ h => h); exact opG_no rfl rfl e8 rfl (dskip hS rfl), ?_⟩
   refine ⟨fun a w hA hS hd => by have e8 := has_ev (hd 8 (by decide)) rfl (fun _ h => h); have e15 := has_ev (hd 15 (by decide)) rfl (fun _ h => h); exact opG_no rfl rfl e8 rfl (dskip hS rfl), ?_⟩
   refine ⟨fun a w hA hS hd => by have e8 := has_ev (hd 8 (by decide)) rfl (fun _ h => h); have e12 := has_ev (hd 12 (by decide)) rfl (fun _ h => h); have e16 := has_ev (hd 16 (by decide)) rfl (fun _ h => h); exact opG_no rfl rfl e8 rfl (dskip hS rfl), ?_⟩
   refine ⟨fun a w hA hS hd => by have e8 := has_ev (hd 8 (by decide)) rfl (fun _ h => h); have e17 := has_ev (hd 17 (by decide)) rfl (fun _ h => h); exact opG_no rfl rfl e8 rfl (dskip hS rfl), ?_⟩
   refine ⟨fun a w hA hS hd => by have e8 := has_ev (hd 8 (by decide)) rfl (fun _ h => h); have e18 := has_ev (hd 18 (by decide)) rfl (fun _ h => h); exact opG_no rfl rfl e8 rfl (dskip hS rfl), ?_⟩
   trivial
  intro a18 w19 hA20 hS21 hH22; clear hA16 hS10
  have hA23 := hA20.add (has_ev (hH22 8 (by decide)) rfl (fun _ h => h)); clear hA20
  have hA24 := hA23.add (has_ev (hH22 10 (by decide)) rfl (fun _ h => h)); clear hA23
  have hA25 := hA24.add (has_ev (hH22 19 (by decide)) rfl (fun _ h => h)); clear hA24
  clear hH22
  refine skp hA25 rfl rfl rfl rfl rfl (by decide) fun a26 hA27 => ?_; clear hA25 a18
  refine st hA27 (op_pick_t rfl (hA27.ev rfl) (evc _ _)) rfl rfl (by decide) fun a28 hA29 => ?_; clear hA27 a26
  refine wl_nil ?_
  refine then_n ?_
  refine c_true hA29 rfl ?_
  refine c_seq ?_
  have hA30 := hA29.as [] rfl; clear hA29
  refine c_region ?_
  refine st hA30 (op_assign rfl (evc _ _)) rfl rfl (by decide) fun a31 hA32 => ?_; clear hA30 a28
  refine wl_nil ?_
  refine then_n ?_
  refine c_ret ?_
  refine then_ret ?_
  refine fin_run hA32 (.inl rfl) (run_results1 hA32 rfl (.tmp rfl)) ?_
  exact ⟨congrArg Value.bool (Eq.symm (by first | exact conv_n1 (by unfold tx; dsimp only; omega) | exact conv_n2 (by unfold tx; dsimp only; omega))), hS21.ext⟩
 ·skip
  have hA33 := hA13.as [(3, (bptr b9 0)), (2, (bptr b4 0))] rfl; clear hA13
  refine c_drawn mixed hA33 hS10 20 [[], [0], [], [2], [3], [4], [5], [1, 6], [7], [8], [8, 9], [8], [8, 11], [8], [8, 13], [8, 14], [8, 15], [8, 12, 16], [8, 17], [8, 18]] [(Yd.val (bptr b9 0)), (Yd.val (Value.int .i64 r1)), (Yd.val (bptr b4 2)), (Yd.val vr), (Yd.val (eptr vr (0 * 2))), (Yd.val (eptr vr (0 * 2 + 0))), (Yd.val (Value.int .i64 ((t.rows.getD 0 (0, 0)).1))), (Yd.val (Value.bool false)), (Yd.val (Value.bool false)), (Yd.val (bptr b9 1)), (Yd.val (Value.int .i64 r2)), (Yd.val (bptr b4 2)), (Yd.val vr), (Yd.val (bptr b4 2)), (Yd.val vr), (Yd.val (Value.int .i64 (t.rows.length : Int))), (Yd.val (Value.int .i64 ((t.rows.length : Int) - 1))), (Yd.val (eptr vr (((t.rows.length : Int) - 1).toNat * 2))), (Yd.val (eptr vr (((t.rows.length : Int) - 1).toNat * 2 + 0))), (Yd.val (Value.int .i64 ((t.rows.getD (((t.rows.length : Int) - 1).toNat) (0, 0)).1)))] (by decide +kernel) rfl rfl ?_ ?_
  ·skip
   refine ⟨fun a w hA hS hd => by exact opG_of rfl (dv (op_field rfl fd_30_0 (hA.ev rfl)) hS rfl), ?_⟩
   refine ⟨fun a w hA hS hd => by have e0 := has_ev (hd 0 (by decide)) rfl (fun _ h => h); exact opG_of rfl (dv (op_load1 rfl ty_3 (tmp_ev e0) (hS.bk 0 rfl) rfl) hS rfl), ?_⟩
   refine ⟨fun a w hA hS hd => by exact opG_of rfl (dv (op_field rfl fd_106_2 (hA.ev rfl)) hS rfl), ?_⟩
   refine ⟨fun a w hA hS hd => by have e2 := has_ev (hd 2 (by decide)) rfl (fun _ h => h); exact opG_of rfl (dv (op_load1 rfl ty_104 (tmp_ev e2) (hS.bk 1 rfl) rfl) hS rfl), ?_⟩
   refine ⟨fun a w hA hS hd => by have e3 := has_ev (hd 3 (by decide)) rfl (fun _ h => h); exact opG_of rfl (dv (op_indexS rfl un_104 ty_107 (tmp_ev e3) (i := 0) (show _ = Value.int .i64 ((0 : Nat) : Int) from (evc _ _)) (hS.sk 2 rfl) (by decide) (by omega)) hS rfl), ?_⟩
   refine ⟨fun a w hA hS hd => by have e4 := has_ev (hd 4 (by decide)) rfl (fun _ h => h); exact opG_of rfl (dv (op_fieldS rfl fd_107_0 (tmp_ev e4) (hS.sk 2 rfl) (by rw [((hS.sk 2 rfl)).1]; omega)) hS rfl), ?_⟩
   refine ⟨fun a w hA hS hd => by have e5 := has_ev (hd 5 (by decide)) rfl (fun _ h => h); exact opG_of rfl (dv (op_load1E rfl ty_3 (tmp_ev e5) (hS.sk 2 rfl) (pairs_at0 (by omega))) hS rfl), ?_⟩
   refine ⟨fun a w hA hS hd => by have e1 := has_ev (hd 1 (by decide)) rfl (fun _ h => h); have e6 := has_ev (hd 6 (by decide)) rfl (fun _ h => h); exact opG_of rfl (dv (op_lss rfl (tmp_ev e1) (tmp_ev e6)) hS (by show Value.bool _ = _; simp only [decide_eq_false hb15, decide_true, decide_false, Bool.not_true, Bool.not_false])), ?_⟩
   refine ⟨fun a w hA hS hd => by have e7 := has_ev (hd 7 (by decide)) rfl (fun _ h => h); exact opG_of rfl (dv (op_move rfl (tmp_ev e7)) hS rfl), ?_⟩
   refine ⟨fun a w hA hS hd => by have e8 := has_ev (hd 8 (by decide)) rfl (fun _ h => h); exact opG_yes rfl rfl e8 (dv (op_field rfl fd_30_1 (hA.ev rfl)) hS rfl), ?_⟩
   refine ⟨fun a w hA hS hd => by have e8 := has_ev (hd 8 (by decide)) rfl (fun _ h => h); have e9 := has_ev (hd 9 (by decide)) rfl (fun _ h => h); exact opG_yes rfl rfl e8 (dv (op_load1 rfl ty_3 (tmp_ev e9) (hS.bk 0 rfl) rfl) hS rfl), ?_⟩
   refine ⟨fun a w hA hS hd => by have e8 := has_ev (hd 8 (by decide)) rfl (fun _ h => h); exact opG_yes rfl rfl e8 (dv (op_field rfl fd_106_2 (hA.ev rfl)) hS rfl), ?_⟩
   refine ⟨fun a w hA hS hd => by have e8 := has_ev (hd 8 (by decide)) rfl (fun _ h => h); have e11 := has_ev (hd 11 (by decide)) rfl (fun _ h => h); exact opG_yes rfl rfl e8 (dv (op_load1 rfl ty_104 (tmp_ev e11) (hS.bk 1 rfl) rfl) hS rfl), ?_⟩
   refine ⟨fun a w hA hS hd => by have e8 := has_ev (hd 8 (by decide)) rfl (fun _ h => h); exact opG_yes rfl rfl e8 (dv (op_field rfl fd_106_2 (hA.ev rfl)) hS rfl), ?_⟩
   refine ⟨fun a w hA hS hd => by have e8 := has_ev (hd 8 (by decide)) rfl (fun _ h => h); have e13 := has_ev (hd 13 (by decide)) rfl (fun _ h => h); exact opG_yes rfl rfl e8 (dv (op_load1 rfl ty_104 (tmp_ev e13) (hS.bk 1 rfl) rfl) hS rfl), ?_⟩
   refine ⟨fun a w hA hS hd => by have e8 := has_ev (hd 8 (by decide)) rfl (fun _ h => h); have e14 := has_ev (hd 14 (by decide)) rfl (fun _ h => h); exact opG_yes rfl rfl e8 (dv (op_lenS rfl un_104 (tmp_ev e14) (hS.sk 2 rfl)) hS rfl), ?_⟩
   refine ⟨fun a w hA hS hd => by have e8 := has_ev (hd 8 (by decide)) rfl (fun _ h => h); have e15 := has_ev (hd 15 (by decide)) rfl (fun _ h => h); exact opG_yes rfl rfl e8 (dv (op_sub rfl (tmp_ev e15) (evc _ _) (by omega) (by omega)) hS rfl), ?_⟩
   refine ⟨fun a w hA hS hd => by have e8 := has_ev (hd 8 (by decide)) rfl (fun _ h => h); have e12 := has_ev (hd 12 (by decide)) rfl (fun _ h => h); have e16 := has_ev (hd 16 (by decide)) rfl (fun _ h => h); exact opG_yes rfl rfl e8 (dv (op_indexS rfl un_104 ty_107 (tmp_ev e12) (i := ((t.rows.length : Int) - 1).toNat) ((tmp_ev e16).trans (int_nat (by omega))) (hS.sk 2 rfl) (by decide) (by omega)) hS rfl), ?_⟩
   refine ⟨fun a w hA hS hd => by have e8 := has_ev (hd 8 (by decide)) rfl (fun _ h => h); have e17 := has_ev (hd 17 (by decide)) rfl (fun _ h => h); exact opG_yes rfl rfl e8 (dv (op_fieldS rfl fd_107_0 (tmp_ev e17) (hS.sk 2 rfl) (by rw [((hS.sk 2 rfl)).1]; omega)) hS rfl), ?_⟩
   refine ⟨fun a w hA hS hd => by have e8 := has_ev (hd 8 (by decide)) rfl (fun _ h => h); have e18 := has_ev (hd 18 (by decide)) rfl (fun _ h => h); exact opG_yes rfl rfl e8 (dv (op_load1E rfl ty_3 (tmp_ev e18) (hS.sk 2 rfl) (pairs_at0 (by omega))) hS rfl), ?_⟩
   trivial
  intro a35 w36 hA37 hS38 hH39; clear hA33 hS10
  have hA40 := hA37.add (has_ev (hH39 8 (by decide)) rfl (fun _ h => h)); clear hA37
  have hA41 := hA40.add (has_ev (hH39 10 (by decide)) rfl (fun _ h => h)); clear hA40
  have hA42 := hA41.add (has_ev (hH39 19 (by decide)) rfl (fun _ h => h)); clear hA41
  clear hH39
  refine stg hA42 (op_gtr rfl (hA42.ev rfl) (hA42.ev rfl)) rfl rfl rfl rfl (by decide) fun a43 hA44 => ?_; clear hA42 a35
  refine st hA44 (op_pick_f rfl (hA44.ev rfl) (hA44.ev rfl)) rfl rfl (by decide) fun a45 hA46 => ?_; clear hA44 a43
  refine wl_nil ?_
  refine then_n ?_
  by_cases hb47 : ((t.rows.getD (((t.rows.length : Int) - 1).toNat) (0, 0)).1) < r2
  ·skip
   rw [decide_eq_true hb47] at hA46
   refine c_true hA46 rfl ?_
   refine c_seq ?_
   have hA48 := hA46.as [] rfl; clear hA46
   refine c_region ?_
   refine st hA48 (op_assign rfl (evc _ _)) rfl rfl (by decide) fun a49 hA50 => ?_; clear hA48 a45
   refine wl_nil ?_
   refine then_n ?_
   refine c_ret ?_
   refine then_ret ?_
   refine fin_run hA50 (.inl rfl) (run_results1 hA50 rfl (.tmp rfl)) ?_
   exact ⟨congrArg Value.bool (Eq.symm (by first | exact conv_n1 (by unfold tx; dsimp only; omega) | exact conv_n2 (by unfold tx; dsimp only; omega))), hS38.ext⟩
  ·skip
   rw [decide_eq_false hb47] at hA46
   refine c_false hA46 rfl ?_
   refine c_skip ?_
   refine then_n ?_
   refine c_seq ?_
   refine c_region ?_
   refine st hA46 (op_field rfl fd_106_3 (hA46.ev rfl)) rfl rfl (by decide) fun a51 hA52 => ?_; clear hA46 a45
   refine st hA52 (op_load1 rfl ty_44 (hA52.ev rfl) (hS38.bk 1 rfl) rfl) rfl rfl (by decide) fun a53 hA54 => ?_; clear hA52 a51
   refine st hA54 (op_makeFunc rfl ev0 (ev2 (hA54.ev rfl) (hA54.ev rfl))) rfl rfl (by decide) fun a55 hA56 => ?_; clear hA54 a53
   refine stw hA56 (op_call rfl en_69 (ev2 (hA56.ev rfl) (hA56.ev rfl)) (all_int t.brk _ 78 #[] #[(bptr b9 0), (bptr b4 0)] (fun i => brB t (r1, r2) (t.brk.getD i 0).toNat) _ (hS38.sk 3 rfl) (by omega) ⟨en_78, fun i hi W hW => convclo_at _ _ _ t _ _ _ _ W ((hS38.step hW).bk 0 rfl) ((hS38.step hW).bk 1 rfl) ((hS38.step hW).sk 2 rfl) ((hS38.step hW).sk 3 rfl) hrl (hV.brk _ (getD_mem' hi))⟩)) rfl rfl (by decide) ?_
   rintro a57 _ w59 ⟨rfl, hE60⟩ hA58; have hS61 := hS38.step hE60; clear hE60 hA56 hS38 a55
   refine st hA58 (op_assign rfl (hA58.ev rfl)) rfl rfl (by decide) fun a62 hA63 => ?_; clear hA58 a57
   refine wl_nil ?_
   refine then_n ?_
   refine c_ret ?_
   refine fin_run hA63 (.inl rfl) (run_results1 hA63 rfl (.tmp rfl)) ?_
   exact ⟨congrArg Value.bool (Eq.symm (conv_y (by unfold tx; dsimp only; omega) (by unfold tx; dsimp only; omega))), hS61.ext⟩
end Go.Proofs.Ytohgladndklciaa

namespace Go.Proofs.Ytohgladndklciaa
open Go.RowKit Go.Shelf Go.Eng Go.Hard
theorem fd_75_1 : fldK Try.prog 75 1 = some 1 := by kernel_rfl
theorem fd_46_4 : fldK Try.prog 46 4 = some 4 := by kernel_rfl
theorem upF_bd {n d : Int} (hn : -100000000000 ≤ n ∧ n ≤ 100000000000) (hd : 0 < d ∧ d ≤ 100000) : -100000000001 ≤ upF n d ∧ upF n d ≤ 100000000001 := by
 have := downF_bd (n := -n) (d := d) (by omega) hd
 unfold upF; unfold downF at this; omega
end Go.Proofs.Ytohgladndklciaa

namespace Go.Hard
section
variable {n : Int} {t : TabD} {k : Nat}
theorem tabB_iff : tabB n t = true ↔ inB t.frm 0 (n - 1) = true ∧ inB t.dst 0 (n - 1) = true ∧ t.frm ≠ t.dst ∧ inB t.err 0 1000 = true ∧ 2 ≤ (t.rows.length : Int) ∧ (∀ i, i < t.rows.length → rowB (t.rows.getD i (0, 0)) = true) ∧ (∀ i, i < t.rows.length - 1 → stepB (risesB t) (t.rows.getD i (0, 0)) (t.rows.getD (i + 1) (0, 0)) = true) ∧ ∀ i, i < t.brk.length → brkB t i = true := by
  unfold tabB headB
  simp only [Bool.and_eq_true, Bool.not_eq_true', decide_eq_false_iff_not, decide_eq_true_eq, allI_iff, ne_eq, and_assoc]
theorem tab_head (h : inB t.frm 0 (n - 1) = false ∨ inB t.dst 0 (n - 1) = false ∨ t.frm = t.dst ∨ inB t.err 0 1000 = false ∨ (t.rows.length : Int) < 2) : tabB n t = false := by
  cases hb : tabB n t with
  | false => rfl
  | true =>
    have g := tabB_iff.1 hb
    rcases h with h | h | h | h | h
    · rw [h] at g; cases g.1
    · rw [h] at g; cases g.2.1
    · exact absurd h g.2.2.1
    · rw [h] at g; cases g.2.2.2.1
    · have := g.2.2.2.2.1; omega
theorem tab_row (hk : k < t.rows.length) (h : rowB (t.rows.getD k (0, 0)) = false) : tabB n t = false := by
  cases hb : tabB n t with
  | false => rfl
  | true => have g := (tabB_iff.1 hb).2.2.2.2.2.1 k hk; rw [h] at g; cases g
theorem tab_step (hk : k + 1 < t.rows.length) (h : stepB (risesB t) (t.rows.getD k (0, 0)) (t.rows.getD (k + 1) (0, 0)) = false) : tabB n t = false := by
  cases hb : tabB n t with
  | false => rfl
  | true => have g := (tabB_iff.1 hb).2.2.2.2.2.2.1 k (by omega); rw [h] at g; cases g
theorem tab_brk (hk : k < t.brk.length) (h : brkB t k = false) : tabB n t = false := by
  cases hb : tabB n t with
  | false => rfl
  | true => have g := (tabB_iff.1 hb).2.2.2.2.2.2.2 k hk; rw [h] at g; cases g
theorem step_n {r : Bool} {a b : Int × Int} (h : ¬ a.1 < b.1 ∨ b.2 = a.2 ∨ decide (a.2 < b.2) ≠ r) : stepB r a b = false := by
  cases hb : stepB r a b with
  | false => rfl
  | true =>
    unfold stepB at hb
    simp only [Bool.and_eq_true, decide_eq_true_eq, Bool.not_eq_true', decide_eq_false_iff_not, beq_iff_eq] at hb
    rcases h with h | h | h
    · exact absurd hb.1.1 h
    · exact absurd h hb.1.2
    · exact absurd hb.2 h
theorem step_y {r : Bool} {a b : Int × Int} (h1 : a.1 < b.1) (h2 : ¬ b.2 = a.2) (h3 : decide (a.2 < b.2) = r) : stepB r a b = true := by
  unfold stepB
  simp only [Bool.and_eq_true, decide_eq_true_eq, Bool.not_eq_true', decide_eq_false_iff_not, beq_iff_eq]
  exact ⟨⟨h1, h2⟩, h3⟩
theorem brk_y0 (h : inB (t.brk.getD 0 0) 0 ((t.rows.length : Int) - 2) = true) : brkB t 0 = true := by
  unfold brkB; rw [show lastU t 0 = -1 from rfl]; rw [inB_iff] at h ⊢; omega
theorem brk_y1 (h : inB (t.brk.getD (k + 1) 0) 0 ((t.rows.length : Int) - 2) = true) (h2 : t.brk.getD k 0 < t.brk.getD (k + 1) 0) : brkB t (k + 1) = true := by
  unfold brkB lastU; rw [inB_iff] at h ⊢; dsimp only; omega
theorem brk_n {i : Nat} (hp : ∀ j, j < i → 0 ≤ t.brk.getD j 0) (h : inB (t.brk.getD i 0) 0 ((t.rows.length : Int) - 2) = false) : brkB t i = false := by
  cases hb : brkB t i with
  | false => rfl
  | true =>
    unfold brkB at hb
    rw [inB_iff] at hb
    have : inB (t.brk.getD i 0) 0 ((t.rows.length : Int) - 2) = true := by
      rw [inB_iff]
      cases i with
      | zero => rw [show lastU t 0 = -1 from rfl] at hb; omega
      | succ j => have := hp j (by omega); unfold lastU at hb; dsimp only at hb; omega
    rw [this] at h; cases h
theorem brk_n1 (h : ¬ t.brk.getD k 0 < t.brk.getD (k + 1) 0) : brkB t (k + 1) = false := by
  cases hb : brkB t (k + 1) with
  | false => rfl
  | true => unfold brkB lastU at hb; rw [inB_iff] at hb; dsimp only at hb; omega
end
end Go.Hard

namespace Go.Proofs.Ytohgladndklciaa
open Go.RowKit Go.Shelf Go.Eng Go.Hard
theorem list_same {l m : List Int} (h : l.length = m.length) (he : ∀ i, i < l.length → l.getD i 0 = m.getD i 0) : l = m := by
 refine List.ext_getElem h fun i h1 h2 => ?_
 have := he i h1
 simpa [List.getD, List.getElem?_eq_getElem h1, List.getElem?_eq_getElem h2] using this
theorem ints_ok (l : List Int) (xl : Value) (w : World) (hxl : SlAt w xl 1 l.length (ints l)) (m : List Int) (xm : Value) (hxm : SlAt w xm 1 m.length (ints m)) (hlb : l.length ≤ 1000000) :
  Calls Try.prog 36 #[xl, xm] w (Ret fun v w' => v = .bool (decide (l = m)) ∧ Ext NoB w w') := by
 refine calls_enter Try.func36 rfl fun a0 hA0 => ?_
 replace hA0 : Fr 26 [] [(0, xl), (1, xm)] a0 := hA0
 have hS0 : Sep NoB w w [(sl xl 1 l.length (ints l)), (sl xm 1 m.length (ints m))] := sep_ro ⟨rfl, hxl, rfl, hxm, trivial⟩
 refine c_seq ?_
 refine c_region ?_
 refine st hA0 (op_assign rfl (evc _ _)) rfl rfl (by decide) fun a1 hA2 => ?_; clear hA0 a0
 refine wl_nil ?_
 refine then_n ?_
 refine c_seq ?_
 refine c_seq ?_
 refine c_region ?_
 refine st hA2 (op_move rfl (hA2.ev rfl)) rfl rfl (by decide) fun a3 hA4 => ?_; clear hA2 a1
 refine st hA4 (op_lenS rfl un_44 (hA4.ev rfl) (hS0.sk 0 rfl)) rfl rfl (by decide) fun a5 hA6 => ?_; clear hA4 a3
 refine st hA6 (op_move rfl (hA6.ev rfl)) rfl rfl (by decide) fun a7 hA8 => ?_; clear hA6 a5
 refine st hA8 (op_lenS rfl un_44 (hA8.ev rfl) (hS0.sk 1 rfl)) rfl rfl (by decide) fun a9 hA10 => ?_; clear hA8 a7
 refine st hA10 (op_neq rfl (hA10.ev rfl) (hA10.ev rfl)) rfl rfl (by decide) fun a11 hA12 => ?_; clear hA10 a9
 refine wl_nil ?_
 refine then_n ?_
 by_cases hb13 : (l.length : Int) = (m.length : Int)
 ·skip
  rw [decide_eq_true hb13] at hA12
  refine c_false hA12 rfl ?_
  refine c_skip ?_
  refine then_n ?_
  refine c_seq ?_
  refine c_seq ?_
  have hA14 := hA12.as [(0, xl), (1, xm)] rfl; clear hA12
  refine c_region ?_
  refine st hA14 (op_assign rfl (evc _ _)) rfl rfl (by decide) fun a15 hA16 => ?_; clear hA14 a11
  refine wl_nil ?_
  refine then_n ?_
  refine c_block ?_
  have hA17 := hA16.as [(5, (Value.int .i64 0)), (0, xl), (1, xm)] rfl; clear hA16
  refine c_loop (G := Nat) (fun (k : Nat) a_ w_ => Fr 26 [] [(5, (Value.int .i64 (k : Int))), (0, xl), (1, xm)] a_ ∧ Sep NoB w w_ [(sl xl 1 l.length (ints l)), (sl xm 1 m.length (ints m))] ∧ (k ≤ l.length) ∧ (l.length = m.length) ∧ (∀ i, i < k → l.getD i 0 = m.getD i 0)) (fun k => l.length - k) 0 ⟨hA17.as _ rfl, hS0, by omega, by omega, (fun _ h => absurd h (Nat.not_lt_zero _))⟩ ?_
  clear hA17 hS0 a15
  rintro k a18 w20 ⟨hA19, hS21, hkk, hln, hq_⟩
  refine c_seq ?_
  refine c_seq ?_
  refine c_region ?_
  refine st hA19 (op_move rfl (hA19.ev rfl)) rfl rfl (by decide) fun a22 hA23 => ?_; clear hA19 a18
  refine st hA23 (op_move rfl (hA23.ev rfl)) rfl rfl (by decide) fun a24 hA25 => ?_; clear hA23 a22
  refine st hA25 (op_lenS rfl un_44 (hA25.ev rfl) (hS21.sk 0 rfl)) rfl rfl (by decide) fun a26 hA27 => ?_; clear hA25 a24
  refine st hA27 (op_lss rfl (hA27.ev rfl) (hA27.ev rfl)) rfl rfl (by decide) fun a28 hA29 => ?_; clear hA27 a26
  refine wl_nil ?_
  refine then_n ?_
  by_cases hb30 : (k : Int) < (l.length : Int)
  ·skip
   rw [decide_eq_true hb30] at hA29
   refine c_true hA29 rfl ?_
   refine c_skip ?_
   refine then_n ?_
   refine c_seq ?_
   refine c_block ?_
   refine c_seq ?_
   have hA31 := hA29.as [(5, (Value.int .i64 (k : Int))), (0, xl), (1, xm)] rfl; clear hA29
   refine c_drawn mixed hA31 hS21 8 [[], [], [0, 1], [2], [], [], [4, 5], [6]] [(Yd.val xl), (Yd.val (Value.int .i64 (k : Int))), (Yd.val (eptr xl (k * 1))), (Yd.val (Value.int .i64 (l.getD k 0))), (Yd.val xm), (Yd.val (Value.int .i64 (k : Int))), (Yd.val (eptr xm (k * 1))), (Yd.val (Value.int .i64 (m.getD k 0)))] (by decide +kernel) rfl rfl ?_ ?_
   ·skip
    refine ⟨fun a w hA hS hd => by exact opG_of rfl (dv (op_move rfl (hA.ev rfl)) hS rfl), ?_⟩
    refine ⟨fun a w hA hS hd => by exact opG_of rfl (dv (op_move rfl (hA.ev rfl)) hS rfl), ?_⟩
    refine ⟨fun a w hA hS hd => by have e0 := has_ev (hd 0 (by decide)) rfl (fun _ h => h); have e1 := has_ev (hd 1 (by decide)) rfl (fun _ h => h); exact opG_of rfl (dv (op_indexS rfl un_44 ty_3 (tmp_ev e0) (i := k) (tmp_ev e1) (hS.sk 0 rfl) (by decide) (by omega)) hS rfl), ?_⟩
    refine ⟨fun a w hA hS hd => by have e2 := has_ev (hd 2 (by decide)) rfl (fun _ h => h); exact opG_of rfl (dv (op_load1E rfl ty_3 (tmp_ev e2) (hS.sk 0 rfl) (ints_at (by omega))) hS rfl), ?_⟩
    refine ⟨fun a w hA hS hd => by exact opG_of rfl (dv (op_move rfl (hA.ev rfl)) hS rfl), ?_⟩
    refine ⟨fun a w hA hS hd => by exact opG_of rfl (dv (op_move rfl (hA.ev rfl)) hS rfl), ?_⟩
    refine ⟨fun a w hA hS hd => by have e4 := has_ev (hd 4 (by decide)) rfl (fun _ h => h); have e5 := has_ev (hd 5 (by decide)) rfl (fun _ h => h); exact opG_of rfl (dv (op_indexS rfl un_44 ty_3 (tmp_ev e4) (i := k) (tmp_ev e5) (hS.sk 1 rfl) (by decide) (by omega)) hS rfl), ?_⟩
    refine ⟨fun a w hA hS hd => by have e6 := has_ev (hd 6 (by decide)) rfl (fun _ h => h); exact opG_of rfl (dv (op_load1E rfl ty_3 (tmp_ev e6) (hS.sk 1 rfl) (ints_at (by omega))) hS rfl), ?_⟩
    trivial
   intro a33 w34 hA35 hS36 hH37; clear hA31 hS21
   have hA38 := hA35.add (has_ev (hH37 3 (by decide)) rfl (fun _ h => h)); clear hA35
   have hA39 := hA38.add (has_ev (hH37 7 (by decide)) rfl (fun _ h => h)); clear hA38
   clear hH37
   refine st hA39 (op_neq rfl (hA39.ev rfl) (hA39.ev rfl)) rfl rfl (by decide) fun a40 hA41 => ?_; clear hA39 a33
   refine wl_nil ?_
   refine then_n ?_
   by_cases hb42 : (l.getD k 0) = (m.getD k 0)
   ·skip
    rw [decide_eq_true hb42] at hA41
    refine c_false hA41 rfl ?_
    refine c_skip ?_
    refine blk_n ?_
    refine then_n ?_
    refine c_region ?_
    refine st hA41 (op_move rfl (hA41.ev rfl)) rfl rfl (by decide) fun a43 hA44 => ?_; clear hA41 a40
    refine st hA44 (op_add rfl (hA44.ev rfl) (evc _ _) (by omega) (by omega)) rfl rfl (by decide) fun a45 hA46 => ?_; clear hA44 a43
    refine st hA46 (op_assign rfl (hA46.ev rfl)) rfl rfl (by decide) fun a47 hA48 => ?_; clear hA46 a45
    refine wl_nil ?_
    exact then_n ⟨k + 1, ⟨hA48.as _ rfl, hS36, by omega, hln, (fun i hi => by rcases Nat.lt_succ_iff_lt_or_eq.1 hi with h | h; exact hq_ i h; subst h; assumption)⟩, by omega⟩
   ·skip
    rw [decide_eq_false hb42] at hA41
    refine c_true hA41 rfl ?_
    refine c_seq ?_
    have hA49 := hA41.as [] rfl; clear hA41
    refine c_region ?_
    refine st hA49 (op_assign rfl (evc _ _)) rfl rfl (by decide) fun a50 hA51 => ?_; clear hA49 a40
    refine wl_nil ?_
    refine then_n ?_
    refine c_ret ?_
    refine blk_ret ?_
    refine then_ret ?_
    refine then_ret ?_
    refine blk_ret ?_
    refine then_ret ?_
    refine fin_run hA51 (.inl rfl) (run_results1 hA51 rfl (.tmp rfl)) ?_
    exact ⟨congrArg Value.bool (Eq.symm (decide_eq_false (fun h_ => by subst h_; omega))), hS36.ext⟩
  ·skip
   rw [decide_eq_false hb30] at hA29
   refine c_false hA29 rfl ?_
   refine c_exit ?_
   refine then_exit ?_
   refine then_exit ?_
   refine blk_hit ?_
   refine then_n ?_
   refine c_seq ?_
   have hA52 := hA29.as [] rfl; clear hA29
   refine c_region ?_
   refine st hA52 (op_assign rfl (evc _ _)) rfl rfl (by decide) fun a53 hA54 => ?_; clear hA52 a28
   refine wl_nil ?_
   refine then_n ?_
   refine c_ret ?_
   refine fin_run hA54 (.inl rfl) (run_results1 hA54 rfl (.tmp rfl)) ?_
   exact ⟨congrArg Value.bool (Eq.symm (decide_eq_true (list_same (by omega) (fun i hi => hq_ i (by omega))))), hS21.ext⟩
 ·skip
  rw [decide_eq_false hb13] at hA12
  refine c_true hA12 rfl ?_
  refine c_seq ?_
  have hA55 := hA12.as [] rfl; clear hA12
  refine c_region ?_
  refine st hA55 (op_assign rfl (evc _ _)) rfl rfl (by decide) fun a56 hA57 => ?_; clear hA55 a11
  refine wl_nil ?_
  refine then_n ?_
  refine c_ret ?_
  refine then_ret ?_
  refine fin_run hA57 (.inl rfl) (run_results1 hA57 rfl (.tmp rfl)) ?_
  exact ⟨congrArg Value.bool (Eq.symm (decide_eq_false (fun h_ => by subst h_; omega))), hS0.ext⟩
end Go.Proofs.Ytohgladndklciaa

namespace Go.Proofs.Ytohgladndklciaa
open Go.RowKit Go.Shelf Go.Eng Go.Hard
theorem fd_46_0 : fldK Try.prog 46 0 = some 0 := by kernel_rfl
theorem fd_46_1 : fldK Try.prog 46 1 = some 1 := by kernel_rfl
theorem un_4 : Try.prog.underlying 4 = some .bool := by kernel_rfl
theorem neq_n {r : Bool} {a b : Int × Int} (h : (decide (a.2 < b.2) == r) = false) : stepB r a b = false := step_n (.inr (.inr (fun e => by rw [e] at h; simp at h)))
theorem neq_y {r : Bool} {a b : Int × Int} (h1 : a.1 < b.1) (h2 : ¬ b.2 = a.2) (h : (decide (a.2 < b.2) == r) = true) : stepB r a b = true := step_y h1 h2 (by simpa using h)
theorem back1 {k : Nat} (h : 0 < (k : Int)) : ∃ i, k = i + 1 := ⟨k - 1, by omega⟩
theorem pred1 (i : Nat) : ((((i + 1 : Nat) : Int)) - 1).toNat = i := by omega
set_option maxHeartbeats 4000000 in
theorem istable_ok (n : Int) (hn : 1 ≤ n ∧ n ≤ 4) (t : TabD) (vr vb : Value) (w : World) (hr : SlAt w vr 2 t.rows.length (pairs t.rows)) (hb : SlAt w vb 1 t.brk.length (ints t.brk)) (hrl : t.rows.length ≤ 1000000) (hbl : t.brk.length ≤ 1000000) :
  Calls Try.prog 51 #[(Value.int .i64 n), (Value.agg #[(Value.int .i64 t.frm), (Value.int .i64 t.dst), vr, vb, (Value.int .i64 t.err)])] w (Ret fun v w' => v = .bool (tabB n t) ∧ Ext NoB w w') := by
 refine calls_enter Try.func51 rfl fun a0 hA0 => ?_
 replace hA0 : Fr 165 [] [(0, (Value.int .i64 n)), (1, (Value.agg #[(Value.int .i64 t.frm), (Value.int .i64 t.dst), vr, vb, (Value.int .i64 t.err)]))] a0 := hA0
 have hS0 : Sep NoB w w [(sl vr 2 t.rows.length (pairs t.rows)), (sl vb 1 t.brk.length (ints t.brk))] := sep_ro ⟨rfl, hr, rfl, hb, trivial⟩
 refine c_seq ?_
 refine c_region ?_
 refine stw hA0 (op_box hS0 rfl (hA0.ev rfl) (cs := [(Value.int .i64 t.frm), (Value.int .i64 t.dst), vr, vb, (Value.int .i64 t.err)]) rfl) rfl rfl (by decide) ?_
 rintro a1 _ w3 ⟨b4, rfl, hS5⟩ hA2; clear hA0 hS0 a0
 refine st hA2 (op_assign rfl (evc _ _)) rfl rfl (by decide) fun a6 hA7 => ?_; clear hA2 a1
 refine wl_nil ?_
 refine then_n ?_
 refine c_seq ?_
 refine c_seq ?_
 refine c_region ?_
 refine st hA7 (op_field rfl fd_46_0 (hA7.ev rfl)) rfl rfl (by decide) fun a8 hA9 => ?_; clear hA7 a6
 refine st hA9 (op_load1 rfl ty_3 (hA9.ev rfl) (hS5.bk 0 rfl) rfl) rfl rfl (by decide) fun a10 hA11 => ?_; clear hA9 a8
 refine st hA11 (op_move rfl (hA11.ev rfl)) rfl rfl (by decide) fun a12 hA13 => ?_; clear hA11 a10
 refine st hA13 (op_sub rfl (hA13.ev rfl) (evc _ _) (by omega) (by omega)) rfl rfl (by decide) fun a14 hA15 => ?_; clear hA13 a12
 refine stw hA15 (op_call rfl en_22 (ev3 (hA15.ev rfl) (evc _ _) (hA15.ev rfl)) (In_ok _ _ _ _)) rfl rfl (by decide) ?_
 rintro a16 _ W_ ⟨rfl, hW_⟩ hA17; have hW2_ := hW_.symm; subst hW2_; clear hW_ hA15 a14
 refine st hA17 (op_not rfl (hA17.ev rfl)) rfl rfl (by decide) fun a19 hA20 => ?_; clear hA17 a16
 refine st hA20 (op_move rfl (hA20.ev rfl)) rfl rfl (by decide) fun a21 hA22 => ?_; clear hA20 a19
 rcases Bool.eq_false_or_eq_true ((inB t.frm 0 (n - 1))) with hb23 | hb23
 ·skip
  rw [hb23] at hA22
  refine stg hA22 (op_field rfl fd_46_1 (hA22.ev rfl)) rfl rfl rfl rfl (by decide) fun a24 hA25 => ?_; clear hA22 a21
  refine stg hA25 (op_load1 rfl ty_3 (hA25.ev rfl) (hS5.bk 0 rfl) rfl) rfl rfl rfl rfl (by decide) fun a26 hA27 => ?_; clear hA25 a24
  refine stg hA27 (op_move rfl (hA27.ev rfl)) rfl rfl rfl rfl (by decide) fun a28 hA29 => ?_; clear hA27 a26
  refine stg hA29 (op_sub rfl (hA29.ev rfl) (evc _ _) (by omega) (by omega)) rfl rfl rfl rfl (by decide) fun a30 hA31 => ?_; clear hA29 a28
  refine stwg hA31 (op_call rfl en_22 (ev3 (hA31.ev rfl) (evc _ _) (hA31.ev rfl)) (In_ok _ _ _ _)) rfl rfl rfl rfl (by decide) ?_
  rintro a32 _ W_ ⟨rfl, hW_⟩ hA33; have hW2_ := hW_.symm; subst hW2_; clear hW_ hA31 a30
  refine stg hA33 (op_not rfl (hA33.ev rfl)) rfl rfl rfl rfl (by decide) fun a35 hA36 => ?_; clear hA33 a32
  refine st hA36 (op_pick_f rfl (hA36.ev rfl) (hA36.ev rfl)) rfl rfl (by decide) fun a37 hA38 => ?_; clear hA36 a35
  refine st hA38 (op_move rfl (hA38.ev rfl)) rfl rfl (by decide) fun a39 hA40 => ?_; clear hA38 a37
  rcases Bool.eq_false_or_eq_true ((inB t.dst 0 (n - 1))) with hb41 | hb41
  ·skip
   rw [hb41] at hA40
   refine stg hA40 (op_field rfl fd_46_0 (hA40.ev rfl)) rfl rfl rfl rfl (by decide) fun a42 hA43 => ?_; clear hA40 a39
   refine stg hA43 (op_load1 rfl ty_3 (hA43.ev rfl) (hS5.bk 0 rfl) rfl) rfl rfl rfl rfl (by decide) fun a44 hA45 => ?_; clear hA43 a42
   refine stg hA45 (op_field rfl fd_46_1 (hA45.ev rfl)) rfl rfl rfl rfl (by decide) fun a46 hA47 => ?_; clear hA45 a44
   refine stg hA47 (op_load1 rfl ty_3 (hA47.ev rfl) (hS5.bk 0 rfl) rfl) rfl rfl rfl rfl (by decide) fun a48 hA49 => ?_; clear hA47 a46
   refine stg hA49 (op_eql rfl (hA49.ev rfl) (hA49.ev rfl)) rfl rfl rfl rfl (by decide) fun a50 hA51 => ?_; clear hA49 a48
   refine st hA51 (op_pick_f rfl (hA51.ev rfl) (hA51.ev rfl)) rfl rfl (by decide) fun a52 hA53 => ?_; clear hA51 a50
   refine st hA53 (op_move rfl (hA53.ev rfl)) rfl rfl (by decide) fun a54 hA55 => ?_; clear hA53 a52
   by_cases hb56 : t.frm = t.dst
   ·skip
    rw [decide_eq_true hb56] at hA55
    refine skp hA55 rfl rfl rfl rfl rfl (by decide) fun a57 hA58 => ?_; clear hA55 a54
    refine skp hA58 rfl rfl rfl rfl rfl (by decide) fun a59 hA60 => ?_; clear hA58 a57
    refine skp hA60 rfl rfl rfl rfl rfl (by decide) fun a61 hA62 => ?_; clear hA60 a59
    refine skp hA62 rfl rfl rfl rfl rfl (by decide) fun a63 hA64 => ?_; clear hA62 a61
    refine st hA64 (op_pick_t rfl (hA64.ev rfl) (evc _ _)) rfl rfl (by decide) fun a65 hA66 => ?_; clear hA64 a63
    refine st hA66 (op_move rfl (hA66.ev rfl)) rfl rfl (by decide) fun a67 hA68 => ?_; clear hA66 a65
    refine skp hA68 rfl rfl rfl rfl rfl (by decide) fun a69 hA70 => ?_; clear hA68 a67
    refine skp hA70 rfl rfl rfl rfl rfl (by decide) fun a71 hA72 => ?_; clear hA70 a69
    refine skp hA72 rfl rfl rfl rfl rfl (by decide) fun a73 hA74 => ?_; clear hA72 a71
    refine skp hA74 rfl rfl rfl rfl rfl (by decide) fun a75 hA76 => ?_; clear hA74 a73
    refine st hA76 (op_pick_t rfl (hA76.ev rfl) (evc _ _)) rfl rfl (by decide) fun a77 hA78 => ?_; clear hA76 a75
    refine wl_nil ?_
    refine then_n ?_
    refine c_true hA78 rfl ?_
    refine c_seq ?_
    have hA79 := hA78.as [] rfl; clear hA78
    refine c_region ?_
    refine st hA79 (op_assign rfl (evc _ _)) rfl rfl (by decide) fun a80 hA81 => ?_; clear hA79 a77
    refine wl_nil ?_
    refine then_n ?_
    refine c_ret ?_
    refine then_ret ?_
    refine fin_run hA81 (.inl rfl) (run_results1 hA81 rfl (.tmp rfl)) ?_
    exact ⟨congrArg Value.bool (Eq.symm (tab_head (by first | exact .inl (by assumption) | exact .inr (.inl (by assumption)) | exact .inr (.inr (.inl (by assumption))) | exact .inr (.inr (.inr (.inl (by assumption)))) | exact .inr (.inr (.inr (.inr (by omega))))))), hS5.ext⟩
   ·skip
    rw [decide_eq_false hb56] at hA55
    refine stg hA55 (op_field rfl fd_46_4 (hA55.ev rfl)) rfl rfl rfl rfl (by decide) fun a82 hA83 => ?_; clear hA55 a54
    refine stg hA83 (op_load1 rfl ty_3 (hA83.ev rfl) (hS5.bk 0 rfl) rfl) rfl rfl rfl rfl (by decide) fun a84 hA85 => ?_; clear hA83 a82
    refine stwg hA85 (op_call rfl en_22 (ev3 (hA85.ev rfl) (evc _ _) (evc _ _)) (In_ok _ _ _ _)) rfl rfl rfl rfl (by decide) ?_
    rintro a86 _ W_ ⟨rfl, hW_⟩ hA87; have hW2_ := hW_.symm; subst hW2_; clear hW_ hA85 a84
    refine stg hA87 (op_not rfl (hA87.ev rfl)) rfl rfl rfl rfl (by decide) fun a89 hA90 => ?_; clear hA87 a86
    refine st hA90 (op_pick_f rfl (hA90.ev rfl) (hA90.ev rfl)) rfl rfl (by decide) fun a91 hA92 => ?_; clear hA90 a89
    refine st hA92 (op_move rfl (hA92.ev rfl)) rfl rfl (by decide) fun a93 hA94 => ?_; clear hA92 a91
    rcases Bool.eq_false_or_eq_true ((inB t.err 0 1000)) with hb95 | hb95
    ·skip
     rw [hb95] at hA94
     refine stg hA94 (op_field rfl fd_46_2 (hA94.ev rfl)) rfl rfl rfl rfl (by decide) fun a96 hA97 => ?_; clear hA94 a93
     refine stg hA97 (op_load1 rfl ty_43 (hA97.ev rfl) (hS5.bk 0 rfl) rfl) rfl rfl rfl rfl (by decide) fun a98 hA99 => ?_; clear hA97 a96
     refine stg hA99 (op_lenS rfl un_43 (hA99.ev rfl) (hS5.sk 1 rfl)) rfl rfl rfl rfl (by decide) fun a100 hA101 => ?_; clear hA99 a98
     refine stg hA101 (op_lss rfl (hA101.ev rfl) (evc _ _)) rfl rfl rfl rfl (by decide) fun a102 hA103 => ?_; clear hA101 a100
     refine st hA103 (op_pick_f rfl (hA103.ev rfl) (hA103.ev rfl)) rfl rfl (by decide) fun a104 hA105 => ?_; clear hA103 a102
     refine wl_nil ?_
     refine then_n ?_
     by_cases hb106 : (t.rows.length : Int) < 2
     ·skip
      rw [decide_eq_true hb106] at hA105
      refine c_true hA105 rfl ?_
      refine c_seq ?_
      have hA107 := hA105.as [] rfl; clear hA105
      refine c_region ?_
      refine st hA107 (op_assign rfl (evc _ _)) rfl rfl (by decide) fun a108 hA109 => ?_; clear hA107 a104
      refine wl_nil ?_
      refine then_n ?_
      refine c_ret ?_
      refine then_ret ?_
      refine fin_run hA109 (.inl rfl) (run_results1 hA109 rfl (.tmp rfl)) ?_
      exact ⟨congrArg Value.bool (Eq.symm (tab_head (by first | exact .inl (by assumption) | exact .inr (.inl (by assumption)) | exact .inr (.inr (.inl (by assumption))) | exact .inr (.inr (.inr (.inl (by assumption)))) | exact .inr (.inr (.inr (.inr (by omega))))))), hS5.ext⟩
     ·skip
      rw [decide_eq_false hb106] at hA105
      refine c_false hA105 rfl ?_
      refine c_skip ?_
      refine then_n ?_
      refine c_seq ?_
      have hA110 := hA105.as [(3, (bptr b4 0))] rfl; clear hA105
      have hA111 := hA110.as [(3, (bptr b4 0))] rfl; clear hA110
      refine c_drawn mixed hA111 hS5 10 [[], [0], [1], [2], [3], [], [5], [6], [7], [8]] [(Yd.val (bptr b4 2)), (Yd.val vr), (Yd.val (eptr vr (1 * 2))), (Yd.val (eptr vr (1 * 2 + 1))), (Yd.val (Value.int .i64 ((t.rows.getD 1 (0, 0)).2))), (Yd.val (bptr b4 2)), (Yd.val vr), (Yd.val (eptr vr (0 * 2))), (Yd.val (eptr vr (0 * 2 + 1))), (Yd.val (Value.int .i64 ((t.rows.getD 0 (0, 0)).2)))] (by decide +kernel) rfl rfl ?_ ?_
      ·skip
       refine ⟨fun a w hA hS hd => by exact opG_of rfl (dv (op_field rfl fd_46_2 (hA.ev rfl)) hS rfl), ?_⟩
       refine ⟨fun a w hA hS hd => by have e0 := has_ev (hd 0 (by decide)) rfl (fun _ h => h); exact opG_of rfl (dv (op_load1 rfl ty_43 (tmp_ev e0) (hS.bk 0 rfl) rfl) hS rfl), ?_⟩
       refine ⟨fun a w hA hS hd => by have e1 := has_ev (hd 1 (by decide)) rfl (fun _ h => h); exact opG_of rfl (dv (op_indexS rfl un_43 ty_75 (tmp_ev e1) (i := 1) (show _ = Value.int .i64 ((1 : Nat) : Int) from (evc _ _)) (hS.sk 1 rfl) (by decide) (by omega)) hS rfl), ?_⟩
       refine ⟨fun a w hA hS hd => by have e2 := has_ev (hd 2 (by decide)) rfl (fun _ h => h); exact opG_of rfl (dv (op_fieldS rfl fd_75_1 (tmp_ev e2) (hS.sk 1 rfl) (by rw [((hS.sk 1 rfl)).1]; omega)) hS rfl), ?_⟩
       refine ⟨fun a w hA hS hd => by have e3 := has_ev (hd 3 (by decide)) rfl (fun _ h => h); exact opG_of rfl (dv (op_load1E rfl ty_3 (tmp_ev e3) (hS.sk 1 rfl) (pairs_at1 (by omega))) hS rfl), ?_⟩
       refine ⟨fun a w hA hS hd => by exact opG_of rfl (dv (op_field rfl fd_46_2 (hA.ev rfl)) hS rfl), ?_⟩
       refine ⟨fun a w hA hS hd => by have e5 := has_ev (hd 5 (by decide)) rfl (fun _ h => h); exact opG_of rfl (dv (op_load1 rfl ty_43 (tmp_ev e5) (hS.bk 0 rfl) rfl) hS rfl), ?_⟩
       refine ⟨fun a w hA hS hd => by have e6 := has_ev (hd 6 (by decide)) rfl (fun _ h => h); exact opG_of rfl (dv (op_indexS rfl un_43 ty_75 (tmp_ev e6) (i := 0) (show _ = Value.int .i64 ((0 : Nat) : Int) from (evc _ _)) (hS.sk 1 rfl) (by decide) (by omega)) hS rfl), ?_⟩
       refine ⟨fun a w hA hS hd => by have e7 := has_ev (hd 7 (by decide)) rfl (fun _ h => h); exact opG_of rfl (dv (op_fieldS rfl fd_75_1 (tmp_ev e7) (hS.sk 1 rfl) (by rw [((hS.sk 1 rfl)).1]; omega)) hS rfl), ?_⟩
       refine ⟨fun a w hA hS hd => by have e8 := has_ev (hd 8 (by decide)) rfl (fun _ h => h); exact opG_of rfl (dv (op_load1E rfl ty_3 (tmp_ev e8) (hS.sk 1 rfl) (pairs_at1 (by omega))) hS rfl), ?_⟩
       trivial
      intro a113 w114 hA115 hS116 hH117; clear hA111 hS5
      have hA118 := hA115.add (has_ev (hH117 4 (by decide)) rfl (fun _ h => h)); clear hA115
      have hA119 := hA118.add (has_ev (hH117 9 (by decide)) rfl (fun _ h => h)); clear hA118
      clear hH117
      refine st hA119 (op_gtr rfl (hA119.ev rfl) (hA119.ev rfl)) rfl rfl (by decide) fun a120 hA121 => ?_; clear hA119 a113
      refine st hA121 (op_assign rfl (hA121.ev rfl)) rfl rfl (by decide) fun a122 hA123 => ?_; clear hA121 a120
      refine wl_nil ?_
      refine then_n ?_
      refine c_seq ?_
      refine c_seq ?_
      refine c_region ?_
      refine st hA123 (op_assign rfl (evc _ _)) rfl rfl (by decide) fun a124 hA125 => ?_; clear hA123 a122
      refine wl_nil ?_
      refine then_n ?_
      refine c_block ?_
      have hA126 := hA125.as [(6, (Value.int .i64 0)), (5, (Value.bool (decide (((t.rows.getD 0 (0, 0)).2) < ((t.rows.getD 1 (0, 0)).2))))), (3, (bptr b4 0))] rfl; clear hA125
      refine c_loop (G := Nat) (fun (k : Nat) a_ w_ => Fr 165 [] [(6, (Value.int .i64 (k : Int))), (5, (Value.bool (decide (((t.rows.getD 0 (0, 0)).2) < ((t.rows.getD 1 (0, 0)).2))))), (3, (bptr b4 0))] a_ ∧ Sep NoB w w_ [(blk b4 46 [(Value.int .i64 t.frm), (Value.int .i64 t.dst), vr, vb, (Value.int .i64 t.err)]), (sl vr 2 t.rows.length (pairs t.rows)), (sl vb 1 t.brk.length (ints t.brk))] ∧ (k ≤ t.rows.length) ∧ (∀ i, i < k → rowB (t.rows.getD i (0, 0)) = true) ∧ (∀ i, i + 1 < k → stepB (risesB t) (t.rows.getD i (0, 0)) (t.rows.getD (i + 1) (0, 0)) = true)) (fun k => t.rows.length - k) 0 ⟨hA126.as _ rfl, hS116, by omega, (fun _ h => absurd h (Nat.not_lt_zero _)), (fun _ h => absurd h (Nat.not_lt_zero _))⟩ ?_
      clear hA126 hS116 a124
      rintro k a127 w129 ⟨hA128, hS130, hkk, hrw, hst⟩
      refine c_seq ?_
      refine c_seq ?_
      refine c_region ?_
      refine st hA128 (op_move rfl (hA128.ev rfl)) rfl rfl (by decide) fun a131 hA132 => ?_; clear hA128 a127
      refine st hA132 (op_field rfl fd_46_2 (hA132.ev rfl)) rfl rfl (by decide) fun a133 hA134 => ?_; clear hA132 a131
      refine st hA134 (op_load1 rfl ty_43 (hA134.ev rfl) (hS130.bk 0 rfl) rfl) rfl rfl (by decide) fun a135 hA136 => ?_; clear hA134 a133
      refine st hA136 (op_lenS rfl un_43 (hA136.ev rfl) (hS130.sk 1 rfl)) rfl rfl (by decide) fun a137 hA138 => ?_; clear hA136 a135
      refine st hA138 (op_lss rfl (hA138.ev rfl) (hA138.ev rfl)) rfl rfl (by decide) fun a139 hA140 => ?_; clear hA138 a137
      refine wl_nil ?_
      refine then_n ?_
      by_cases hb141 : (k : Int) < (t.rows.length : Int)
      ·skip
       rw [decide_eq_true hb141] at hA140
       refine c_true hA140 rfl ?_
       refine c_skip ?_
       refine then_n ?_
       refine c_seq ?_
       refine c_block ?_
       refine c_seq ?_
       refine c_seq ?_
       refine c_region ?_
       refine st hA140 (op_field rfl fd_46_2 (hA140.ev rfl)) rfl rfl (by decide) fun a142 hA143 => ?_; clear hA140 a139
       refine st hA143 (op_load1 rfl ty_43 (hA143.ev rfl) (hS130.bk 0 rfl) rfl) rfl rfl (by decide) fun a144 hA145 => ?_; clear hA143 a142
       refine st hA145 (op_move rfl (hA145.ev rfl)) rfl rfl (by decide) fun a146 hA147 => ?_; clear hA145 a144
       refine st hA147 (op_indexS rfl un_43 ty_75 (hA147.ev rfl) (i := k) (hA147.ev rfl) (hS130.sk 1 rfl) (by decide) (by omega)) rfl rfl (by decide) fun a148 hA149 => ?_; clear hA147 a146
       refine st hA149 (op_fieldS rfl fd_75_0 (hA149.ev rfl) (hS130.sk 1 rfl) (by rw [((hS130.sk 1 rfl)).1]; omega)) rfl rfl (by decide) fun a150 hA151 => ?_; clear hA149 a148
       refine st hA151 (op_load1E rfl ty_3 (hA151.ev rfl) (hS130.sk 1 rfl) (pairs_at0 (by omega))) rfl rfl (by decide) fun a152 hA153 => ?_; clear hA151 a150
       refine stw hA153 (op_call rfl en_22 (ev3 (hA153.ev rfl) (evc _ _) (evc _ _)) (In_ok _ _ _ _)) rfl rfl (by decide) ?_
       rintro a154 _ W_ ⟨rfl, hW_⟩ hA155; have hW2_ := hW_.symm; subst hW2_; clear hW_ hA153 a152
       refine st hA155 (op_not rfl (hA155.ev rfl)) rfl rfl (by decide) fun a157 hA158 => ?_; clear hA155 a154
       refine st hA158 (op_move rfl (hA158.ev rfl)) rfl rfl (by decide) fun a159 hA160 => ?_; clear hA158 a157
       rcases Bool.eq_false_or_eq_true ((inB ((t.rows.getD k (0, 0)).1) 1 100000)) with hb161 | hb161
       ·skip
        rw [hb161] at hA160
        refine stg hA160 (op_field rfl fd_46_2 (hA160.ev rfl)) rfl rfl rfl rfl (by decide) fun a162 hA163 => ?_; clear hA160 a159
        refine stg hA163 (op_load1 rfl ty_43 (hA163.ev rfl) (hS130.bk 0 rfl) rfl) rfl rfl rfl rfl (by decide) fun a164 hA165 => ?_; clear hA163 a162
        refine stg hA165 (op_move rfl (hA165.ev rfl)) rfl rfl rfl rfl (by decide) fun a166 hA167 => ?_; clear hA165 a164
        refine stg hA167 (op_indexS rfl un_43 ty_75 (hA167.ev rfl) (i := k) (hA167.ev rfl) (hS130.sk 1 rfl) (by decide) (by omega)) rfl rfl rfl rfl (by decide) fun a168 hA169 => ?_; clear hA167 a166
        refine stg hA169 (op_fieldS rfl fd_75_1 (hA169.ev rfl) (hS130.sk 1 rfl) (by rw [((hS130.sk 1 rfl)).1]; omega)) rfl rfl rfl rfl (by decide) fun a170 hA171 => ?_; clear hA169 a168
        refine stg hA171 (op_load1E rfl ty_3 (hA171.ev rfl) (hS130.sk 1 rfl) (pairs_at1 (by omega))) rfl rfl rfl rfl (by decide) fun a172 hA173 => ?_; clear hA171 a170
        refine stwg hA173 (op_call rfl en_22 (ev3 (hA173.ev rfl) (evc _ _) (evc _ _)) (In_ok _ _ _ _)) rfl rfl rfl rfl (by decide) ?_
        rintro a174 _ W_ ⟨rfl, hW_⟩ hA175; have hW2_ := hW_.symm; subst hW2_; clear hW_ hA173 a172
        refine stg hA175 (op_not rfl (hA175.ev rfl)) rfl rfl rfl rfl (by decide) fun a177 hA178 => ?_; clear hA175 a174
        refine st hA178 (op_pick_f rfl (hA178.ev rfl) (hA178.ev rfl)) rfl rfl (by decide) fun a179 hA180 => ?_; clear hA178 a177
        refine wl_nil ?_
        refine then_n ?_
        rcases Bool.eq_false_or_eq_true ((inB ((t.rows.getD k (0, 0)).2) 1 100000)) with hb181 | hb181
        ·skip
         rw [hb181] at hA180
         refine c_false hA180 rfl ?_
         refine c_skip ?_
         refine then_n ?_
         refine c_seq ?_
         have hA182 := hA180.as [(6, (Value.int .i64 (k : Int))), (5, (Value.bool (decide (((t.rows.getD 0 (0, 0)).2) < ((t.rows.getD 1 (0, 0)).2))))), (3, (bptr b4 0))] rfl; clear hA180
         have hA183 := hA182.as [(6, (Value.int .i64 (k : Int))), (5, (Value.bool (decide (((t.rows.getD 0 (0, 0)).2) < ((t.rows.getD 1 (0, 0)).2))))), (3, (bptr b4 0))] rfl; clear hA182
         by_cases hb185 : 0 < (k : Int)
         ·skip
          have hA186 := hA183.as [(6, (Value.int .i64 (k : Int))), (5, (Value.bool (decide (((t.rows.getD 0 (0, 0)).2) < ((t.rows.getD 1 (0, 0)).2))))), (3, (bptr b4 0))] rfl; clear hA183
          by_cases hb188 : ((t.rows.getD k (0, 0)).1) ≤ ((t.rows.getD (((k : Int) - 1).toNat) (0, 0)).1)
          ·skip
           have hA189 := hA186.as [(6, (Value.int .i64 (k : Int))), (5, (Value.bool (decide (((t.rows.getD 0 (0, 0)).2) < ((t.rows.getD 1 (0, 0)).2))))), (3, (bptr b4 0))] rfl; clear hA186
           refine c_drawn mixed hA189 hS130 49 [[], [0], [1], [2], [2, 3], [2], [2, 4, 5], [2, 6], [2, 7], [2], [2, 9], [2], [2, 11], [2, 10, 12], [2, 13], [2, 14], [2, 8, 15], [2, 16], [17], [17, 18], [17], [17, 19, 20], [17, 21], [17, 22], [17], [17, 24], [17], [17, 26], [17, 25, 27], [17, 28], [17, 29], [17, 23, 30], [2, 17, 31], [2, 32], [33], [33, 34], [33], [33, 35, 36], [33, 37], [33, 38], [33], [33, 40], [33], [33, 42], [33, 41, 43], [33, 44], [33, 45], [33, 39, 46], [33]] [(Yd.val (Value.int .i64 (k : Int))), (Yd.val (Value.bool true)), (Yd.val (Value.bool true)), (Yd.val (bptr b4 2)), (Yd.val vr), (Yd.val (Value.int .i64 (k : Int))), (Yd.val (eptr vr (k * 2))), (Yd.val (eptr vr (k * 2 + 0))), (Yd.val (Value.int .i64 ((t.rows.getD k (0, 0)).1))), (Yd.val (bptr b4 2)), (Yd.val vr), (Yd.val (Value.int .i64 (k : Int))), (Yd.val (Value.int .i64 ((k : Int) - 1))), (Yd.val (eptr vr (((k : Int) - 1).toNat * 2))), (Yd.val (eptr vr (((k : Int) - 1).toNat * 2 + 0))), (Yd.val (Value.int .i64 ((t.rows.getD (((k : Int) - 1).toNat) (0, 0)).1))), (Yd.val (Value.bool true)), (Yd.val (Value.bool true)), (Yd.val undef), (Yd.val undef), (Yd.val undef), (Yd.val undef), (Yd.val undef), (Yd.val undef), (Yd.val undef), (Yd.val undef), (Yd.val undef), (Yd.val undef), (Yd.val undef), (Yd.val undef), (Yd.val undef), (Yd.val undef), (Yd.val (Value.bool true)), (Yd.val (Value.bool true)), (Yd.val undef), (Yd.val undef), (Yd.val undef), (Yd.val undef), (Yd.val undef), (Yd.val undef), (Yd.val undef), (Yd.val undef), (Yd.val undef), (Yd.val undef), (Yd.val undef), (Yd.val undef), (Yd.val undef), (Yd.val undef), (Yd.val undef)] (by decide +kernel) rfl rfl ?_ ?_
           ·skip
            refine ⟨fun a w hA hS hd => by exact opG_of rfl (dv (op_move rfl (hA.ev rfl)) hS rfl), ?_⟩
            refine ⟨fun a w hA hS hd => by have e0 := has_ev (hd 0 (by decide)) rfl (fun _ h => h); exact opG_of rfl (dv (op_gtr rfl (tmp_ev e0) (evc _ _)) hS (by show Value.bool _ = _; simp only [decide_eq_true hb185, decide_true, decide_false, Bool.not_true, Bool.not_false])), ?_⟩
            refine ⟨fun a w hA hS hd => by have e1 := has_ev (hd 1 (by decide)) rfl (fun _ h => h); exact opG_of rfl (dv (op_move rfl (tmp_ev e1)) hS rfl), ?_⟩
            refine ⟨fun a w hA hS hd => by have e2 := has_ev (hd 2 (by decide)) rfl (fun _ h => h); exact opG_yes rfl rfl e2 (dv (op_field rfl fd_46_2 (hA.ev rfl)) hS rfl), ?_⟩
            refine ⟨fun a w hA hS hd => by have e2 := has_ev (hd 2 (by decide)) rfl (fun _ h => h); have e3 := has_ev (hd 3 (by decide)) rfl (fun _ h => h); exact opG_yes rfl rfl e2 (dv (op_load1 rfl ty_43 (tmp_ev e3) (hS.bk 0 rfl) rfl) hS rfl), ?_⟩
            refine ⟨fun a w hA hS hd => by have e2 := has_ev (hd 2 (by decide)) rfl (fun _ h => h); exact opG_yes rfl rfl e2 (dv (op_move rfl (hA.ev rfl)) hS rfl), ?_⟩
            refine ⟨fun a w hA hS hd => by have e2 := has_ev (hd 2 (by decide)) rfl (fun _ h => h); have e4 := has_ev (hd 4 (by decide)) rfl (fun _ h => h); have e5 := has_ev (hd 5 (by decide)) rfl (fun _ h => h); exact opG_yes rfl rfl e2 (dv (op_indexS rfl un_43 ty_75 (tmp_ev e4) (i := k) (tmp_ev e5) (hS.sk 1 rfl) (by decide) (by omega)) hS rfl), ?_⟩
            refine ⟨fun a w hA hS hd => by have e2 := has_ev (hd 2 (by decide)) rfl (fun _ h => h); have e6 := has_ev (hd 6 (by decide)) rfl (fun _ h => h); exact opG_yes rfl rfl e2 (dv (op_fieldS rfl fd_75_0 (tmp_ev e6) (hS.sk 1 rfl) (by rw [((hS.sk 1 rfl)).1]; omega)) hS rfl), ?_⟩
            refine ⟨fun a w hA hS hd => by have e2 := has_ev (hd 2 (by decide)) rfl (fun _ h => h); have e7 := has_ev (hd 7 (by decide)) rfl (fun _ h => h); exact opG_yes rfl rfl e2 (dv (op_load1E rfl ty_3 (tmp_ev e7) (hS.sk 1 rfl) (pairs_at0 (by omega))) hS rfl), ?_⟩
            refine ⟨fun a w hA hS hd => by have e2 := has_ev (hd 2 (by decide)) rfl (fun _ h => h); exact opG_yes rfl rfl e2 (dv (op_field rfl fd_46_2 (hA.ev rfl)) hS rfl), ?_⟩
            refine ⟨fun a w hA hS hd => by have e2 := has_ev (hd 2 (by decide)) rfl (fun _ h => h); have e9 := has_ev (hd 9 (by decide)) rfl (fun _ h => h); exact opG_yes rfl rfl e2 (dv (op_load1 rfl ty_43 (tmp_ev e9) (hS.bk 0 rfl) rfl) hS rfl), ?_⟩
            refine ⟨fun a w hA hS hd => by have e2 := has_ev (hd 2 (by decide)) rfl (fun _ h => h); exact opG_yes rfl rfl e2 (dv (op_move rfl (hA.ev rfl)) hS rfl), ?_⟩
            refine ⟨fun a w hA hS hd => by have e2 := has_ev (hd 2 (by decide)) rfl (fun _ h => h); have e11 := has_ev (hd 11 (by decide)) rfl (fun _ h => h); exact opG_yes rfl rfl e2 (dv (op_sub rfl (tmp_ev e11) (evc _ _) (by omega) (by omega)) hS rfl), ?_⟩
            refine ⟨fun a w hA hS hd => by have e2 := has_ev (hd 2 (by decide)) rfl (fun _ h => h); have e10 := has_ev (hd 10 (by decide)) rfl (fun _ h => h); have e12 := has_ev (hd 12 (by decide)) rfl (fun _ h => h); exact opG_yes rfl rfl e2 (dv (op_indexS rfl un_43 ty_75 (tmp_ev e10) (i := ((k : Int) - 1).toNat) ((tmp_ev e12).trans (int_nat (by omega))) (hS.sk 1 rfl) (by decide) (by omega)) hS rfl), ?_⟩
            refine ⟨fun a w hA hS hd => by have e2 := has_ev (hd 2 (by decide)) rfl (fun _ h => h); have e13 := has_ev (hd 13 (by decide)) rfl (fun _ h => h); exact opG_yes rfl rfl e2 (dv (op_fieldS rfl fd_75_0 (tmp_ev e13) (hS.sk 1 rfl) (by rw [((hS.sk 1 rfl)).1]; omega)) hS rfl), ?_⟩
            refine ⟨fun a w hA hS hd => by have e2 := has_ev (hd 2 (by decide)) rfl (fun _ h => h); have e14 := has_ev (hd 14 (by decide)) rfl (fun _ h => h); exact opG_yes rfl rfl e2 (dv (op_load1E rfl ty_3 (tmp_ev e14) (hS.sk 1 rfl) (pairs_at0 (by omega))) hS rfl), ?_⟩
            refine ⟨fun a w hA hS hd => by have e2 := has_ev (hd 2 (by decide)) rfl (fun _ h => h); have e8 := has_ev (hd 8 (by decide)) rfl (fun _ h => h); have e15 := has_ev (hd 15 (by decide)) rfl (fun _ h => h); exact opG_yes rfl rfl e2 (dv (op_leq rfl (tmp_ev e8) (tmp_ev e15)) hS (by show Value.bool _ = _; simp only [decide_eq_true hb188, decide_true, decide_false, Bool.not_true, Bool.not_false])), ?_⟩
            refine ⟨fun a w hA hS hd => by have e2 := has_ev (hd 2 (by decide)) rfl (fun _ h => h); have e16 := has_ev (hd 16 (by decide)) rfl (fun _ h => h); exact opG_yes rfl rfl e2 (dv (op_move rfl (tmp_ev e16)) hS rfl), ?_⟩
            refine ⟨fun a w hA hS hd => by have e17 := has_ev (hd 17 (by decide)) rfl (fun _ h => h); exact opG_no rfl rfl e17 rfl (dskip hS rfl), ?_⟩
            refine ⟨fun a w hA hS hd => by have e17 := has_ev (hd 17 (by decide)) rfl (fun _ h => h); have e18 := has_ev (hd 18 (by decide)) rfl (fun _ h => h); exact opG_no rfl rfl e17 rfl (dskip hS rfl), ?_⟩
            refine ⟨fun a w hA hS hd => by have e17 := has_ev (hd 17 (by decide)) rfl (fun _ h => h); exact opG_no rfl rfl e17 rfl (dskip hS rfl), ?_⟩
            refine ⟨fun a w hA hS hd => by have e17 := has_ev (hd 17 (by decide)) rfl (fun _ h => h); have e19 := has_ev (hd 19 (by decide)) rfl (fun _ h => h); have e20 := has_ev (hd 20 (by decide)) rfl (fun _ h => h); exact opG_no rfl rfl e17 rfl (dskip hS rfl), ?_⟩
            refine ⟨fun a w hA hS hd => by have e17 := has_ev (hd 17 (by decide)) rfl (fun _ h => h); have e21 := has_ev (hd 21 (by decide)) rfl (fun _ h => h); exact opG_no rfl rfl e17 rfl (dskip hS rfl), ?_⟩
            refine ⟨fun a w hA hS hd => by have e17 := has_ev (hd 17 (by decide)) rfl (fun _ h => h); have e22 := has_ev (hd 22 (by decide)) rfl (fun _ h => h); exact opG_no rfl rfl e17 rfl (dskip hS rfl), ?_⟩
            refine ⟨fun a w hA hS hd => by have e17 := has_ev (hd 17 (by decide)) rfl (fun _ h => h); exact opG_no rfl rfl e17 rfl (dskip hS rfl), ?_⟩
            refine ⟨fun a w hA hS hd => by have e17 := has_ev (hd 17 (by decide)) rfl (fun _ h => h); have e24 := has_ev (hd 24 (by decide)) rfl (fun _ h => h); exact opG_no rfl rfl e17 rfl (dskip hS rfl), ?_⟩
            refine ⟨fun a w hA hS hd => by have e17 := has_ev (hd 17 (by decide)) rfl (fun _ h => h); exact opG_no rfl rfl e17 rfl (dskip hS rfl), ?_⟩
            refine ⟨fun a w hA hS hd => by have e17 := has_ev (hd 17 (by decide)) rfl (fun _ h => h); have e26 := has_ev (hd 26 (by decide)) rfl (fun _ h => h); exact opG_no rfl rfl e17 rfl (dskip hS rfl), ?_⟩
            refine ⟨fun a w hA hS hd => by have e17 := has_ev (hd 17 (by decide)) rfl (fun _ h => h); have e25 := has_ev (hd 25 (by decide)) rfl (fun _ h => h); have e27 := has_ev (hd 27 (by decide)) rfl (fun _ h => h); exact opG_no rfl rfl e17 rfl (dskip hS rfl), ?_⟩
            refine ⟨fun a w hA hS hd => by have e17 := has_ev (hd 17 (by decide)) rfl (fun _ h => h); have e28 := has_ev (hd 28 (by decide)) rfl (fun _ h => h); exact opG_no rfl rfl e17 rfl (dskip hS rfl), ?_⟩
            refine ⟨fun a w hA hS hd => by have e17 := has_ev (hd 17 (by decide)) rfl (fun _ h => h); have e29 := has_ev (hd 29 (by decide)) rfl (fun _ h => h); exact opG_no rfl rfl e17 rfl (dskip hS rfl), ?_⟩
            refine ⟨fun a w hA hS hd => by have e17 := has_ev (hd 17 (by decide)) rfl (fun _ h => h); have e23 := has_ev (hd 23 (by decide)) rfl (fun _ h => h); have e30 := has_ev (hd 30 (by decide)) rfl (fun _ h => h); exact opG_no rfl rfl e17 rfl (dskip hS rfl), ?_⟩
            refine ⟨fun a w hA hS hd => by have e2 := has_ev (hd 2 (by decide)) rfl (fun _ h => h); have e17 := has_ev (hd 17 (by decide)) rfl (fun _ h => h); have e31 := has_ev (hd 31 (by decide)) rfl (fun _ h => h); exact opG_yes rfl rfl e2 (dv (op_pick_t rfl (tmp_ev e17) (evc _ _)) hS rfl), ?_⟩
            refine ⟨fun a w hA hS hd => by have e2 := has_ev (hd 2 (by decide)) rfl (fun _ h => h); have e32 := has_ev (hd 32 (by decide)) rfl (fun _ h => h); exact opG_yes rfl rfl e2 (dv (op_move rfl (tmp_ev e32)) hS rfl), ?_⟩
            refine ⟨fun a w hA hS hd => by have e33 := has_ev (hd 33 (by decide)) rfl (fun _ h => h); exact opG_no rfl rfl e33 rfl (dskip hS rfl), ?_⟩
            refine ⟨fun a w hA hS hd => by have e33 := has_ev (hd 33 (by decide)) rfl (fun _ h => h); have e34 := has_ev (hd 34 (by decide)) rfl (fun _ h => h); exact opG_no rfl rfl e33 rfl (dskip hS rfl), ?_⟩
            refine ⟨fun a w hA hS hd => by have e33 := has_ev (hd 33 (by decide)) rfl (fun _ h => h); exact opG_no rfl rfl e33 rfl (dskip hS rfl), ?_⟩
            refine ⟨fun a w hA hS hd => by have e33 := has_ev (hd 33 (by decide)) rfl (fun _ h => h); have e35 := has_ev (hd 35 (by decide)) rfl (fun _ h => h); have e36 := has_ev (hd 36 (by decide)) rfl (fun _ h => h); exact opG_no rfl rfl e33 rfl (dskip hS rfl), ?_⟩
            refine ⟨fun a w hA hS hd => by have e33 := has_ev (hd 33 (by decide)) rfl (fun _ h => h); have e37 := has_ev (hd 37 (by decide)) rfl (fun _ h => h); exact opG_no rfl rfl e33 rfl (dskip hS rfl), ?_⟩
            refine ⟨fun a w hA hS hd => by have e33 := has_ev (hd 33 (by decide)) rfl (fun _ h => h); have e38 := has_ev (hd 38 (by decide)) rfl (fun _ h => h); exact opG_no rfl rfl e33 rfl (dskip hS rfl), ?_⟩
            refine ⟨fun a w hA hS hd => by have e33 := has_ev (hd 33 (by decide)) rfl (fun _ h => h); exact opG_no rfl rfl e33 rfl (dskip hS rfl), ?_⟩
            refine ⟨fun a w hA hS hd => by have e33 := has_ev (hd 33 (by decide)) rfl (fun _ h => h); have e40 := has_ev (hd 40 (by decide)) rfl (fun _ h => h); exact opG_no rfl rfl e33 rfl (dskip hS rfl), ?_⟩
            refine ⟨fun a w hA hS hd => by have e33 := has_ev (hd 33 (by decide)) rfl (fun _ h => h); exact opG_no rfl rfl e33 rfl (dskip hS rfl), ?_⟩
            refine ⟨fun a w hA hS hd => by have e33 := has_ev (hd 33 (by decide)) rfl (fun _ h => h); have e42 := has_ev (hd 42 (by decide)) rfl (fun _ h => h); exact opG_no rfl rfl e33 rfl (dskip hS rfl), ?_⟩
            refine ⟨fun a w hA hS hd => by have e33 := has_ev (hd 33 (by decide)) rfl (fun _ h => h); have e41 := has_ev (hd 41 (by decide)) rfl (fun _ h => h); have e43 := has_ev (hd 43 (by decide)) rfl (fun _ h => h); exact opG_no rfl rfl e33 rfl (dskip hS rfl), ?_⟩
            refine ⟨fun a w hA hS hd => by have e33 := has_ev (hd 33 (by decide)) rfl (fun _ h => h); have e44 := has_ev (hd 44 (by decide)) rfl (fun _ h => h); exact opG_no rfl rfl e33 rfl (dskip hS rfl), ?_⟩
            refine ⟨fun a w hA hS hd => by have e33 := has_ev (hd 33 (by decide)) rfl (fun _ h => h); have e45 := has_ev (hd 45 (by decide)) rfl (fun _ h => h); exact opG_no rfl rfl e33 rfl (dskip hS rfl), ?_⟩
            refine ⟨fun a w hA hS hd => by have e33 := has_ev (hd 33 (by decide)) rfl (fun _ h => h); have e39 := has_ev (hd 39 (by decide)) rfl (fun _ h => h); have e46 := has_ev (hd 46 (by decide)) rfl (fun _ h => h); exact opG_no rfl rfl e33 rfl (dskip hS rfl), ?_⟩
            refine ⟨fun a w hA hS hd => by have e33 := has_ev (hd 33 (by decide)) rfl (fun _ h => h); exact opG_no rfl rfl e33 rfl (dskip hS rfl), ?_⟩
            trivial
           intro a191 w192 hA193 hS194 hH195; clear hA189 hS130
           have hA196 := hA193.add (has_ev (hH195 2 (by decide)) rfl (fun _ h => h)); clear hA193
           have hA197 := hA196.add (has_ev (hH195 33 (by decide)) rfl (fun _ h => h)); clear hA196
           have hA198 := hA197.add (has_ev (hH195 47 (by decide)) rfl (fun _ h => h)); clear hA197
           have hA199 := hA198.add (has_ev (hH195 48 (by decide)) rfl (fun _ h => h)); clear hA198
           clear hH195
           refine skp hA199 rfl rfl rfl rfl rfl (by decide) fun a200 hA201 => ?_; clear hA199 a191
           refine stg hA201 (op_pick_t rfl (hA201.ev rfl) (evc _ _)) rfl rfl rfl rfl (by decide) fun a202 hA203 => ?_; clear hA201 a200
           refine st hA203 (op_pick_t rfl (hA203.ev rfl) (hA203.ev rfl)) rfl rfl (by decide) fun a204 hA205 => ?_; clear hA203 a202
           refine wl_nil ?_
           refine then_n ?_
           refine c_true hA205 rfl ?_
           refine c_seq ?_
           have hA206 := hA205.as [] rfl; clear hA205
           refine c_region ?_
           refine st hA206 (op_assign rfl (evc _ _)) rfl rfl (by decide) fun a207 hA208 => ?_; clear hA206 a204
           refine wl_nil ?_
           refine then_n ?_
           refine c_ret ?_
           refine blk_ret ?_
           refine then_ret ?_
           refine then_ret ?_
           refine blk_ret ?_
           refine then_ret ?_
           refine fin_run hA208 (.inl rfl) (run_results1 hA208 rfl (.tmp rfl)) ?_
           exact ⟨congrArg Value.bool (Eq.symm (by first | exact tab_row (k := k) (by omega) (by unfold rowB; rw [Bool.and_eq_false_iff]; first | exact .inl (by assumption) | exact .inr (by assumption)) | (obtain ⟨i, rfl⟩ := back1 (k := k) (by omega); simp only [pred1] at *; exact tab_step (k := i) (by omega) (by first | exact neq_n (by assumption) | exact step_n (.inl (by omega)) | exact step_n (.inr (.inl (by omega))))))), hS194.ext⟩
          ·skip
           have hA209 := hA186.as [(6, (Value.int .i64 (k : Int))), (5, (Value.bool (decide (((t.rows.getD 0 (0, 0)).2) < ((t.rows.getD 1 (0, 0)).2))))), (3, (bptr b4 0))] rfl; clear hA186
           by_cases hb211 : ((t.rows.getD k (0, 0)).2) = ((t.rows.getD (((k : Int) - 1).toNat) (0, 0)).2)
           ·skip
            have hA212 := hA209.as [(6, (Value.int .i64 (k : Int))), (5, (Value.bool (decide (((t.rows.getD 0 (0, 0)).2) < ((t.rows.getD 1 (0, 0)).2))))), (3, (bptr b4 0))] rfl; clear hA209
            refine c_drawn mixed hA212 hS130 49 [[], [0], [1], [2], [2, 3], [2], [2, 4, 5], [2, 6], [2, 7], [2], [2, 9], [2], [2, 11], [2, 10, 12], [2, 13], [2, 14], [2, 8, 15], [2, 16], [17], [17, 18], [17], [17, 19, 20], [17, 21], [17, 22], [17], [17, 24], [17], [17, 26], [17, 25, 27], [17, 28], [17, 29], [17, 23, 30], [2, 17, 31], [2, 32], [33], [33, 34], [33], [33, 35, 36], [33, 37], [33, 38], [33], [33, 40], [33], [33, 42], [33, 41, 43], [33, 44], [33, 45], [33, 39, 46], [33]] [(Yd.val (Value.int .i64 (k : Int))), (Yd.val (Value.bool true)), (Yd.val (Value.bool true)), (Yd.val (bptr b4 2)), (Yd.val vr), (Yd.val (Value.int .i64 (k : Int))), (Yd.val (eptr vr (k * 2))), (Yd.val (eptr vr (k * 2 + 0))), (Yd.val (Value.int .i64 ((t.rows.getD k (0, 0)).1))), (Yd.val (bptr b4 2)), (Yd.val vr), (Yd.val (Value.int .i64 (k : Int))), (Yd.val (Value.int .i64 ((k : Int) - 1))), (Yd.val (eptr vr (((k : Int) - 1).toNat * 2))), (Yd.val (eptr vr (((k : Int) - 1).toNat * 2 + 0))), (Yd.val (Value.int .i64 ((t.rows.getD (((k : Int) - 1).toNat) (0, 0)).1))), (Yd.val (Value.bool false)), (Yd.val (Value.bool false)), (Yd.val (bptr b4 2)), (Yd.val vr), (Yd.val (Value.int .i64 (k : Int))), (Yd.val (eptr vr (k * 2))), (Yd.val (eptr vr (k * 2 + 1))), (Yd.val (Value.int .i64 ((t.rows.getD k (0, 0)).2))), (Yd.val (bptr b4 2)), (Yd.val vr), (Yd.val (Value.int .i64 (k : Int))), (Yd.val (Value.int .i64 ((k : Int) - 1))), (Yd.val (eptr vr (((k : Int) - 1).toNat * 2))), (Yd.val (eptr vr (((k : Int) - 1).toNat * 2 + 1))), (Yd.val (Value.int .i64 ((t.rows.getD (((k : Int) - 1).toNat) (0, 0)).2))), (Yd.val (Value.bool true)), (Yd.val (Value.bool true)), (Yd.val (Value.bool true)), (Yd.val undef), (Yd.val undef), (Yd.val undef), (Yd.val undef), (Yd.val undef), (Yd.val undef), (Yd.val undef), (Yd.val undef), (Yd.val undef), (Yd.val undef), (Yd.val undef), (Yd.val undef), (Yd.val undef), (Yd.val undef), (Yd.val undef)] (by decide +kernel) rfl rfl ?_ ?_
            ·skip
             refine ⟨fun a w hA hS hd => by exact opG_of rfl (dv (op_move rfl (hA.ev rfl)) hS rfl), ?_⟩
             refine ⟨fun a w hA hS hd => by have e0 := has_ev (hd 0 (by decide)) rfl (fun _ h => h); exact opG_of rfl (dv (op_gtr rfl (tmp_ev e0) (evc _ _)) hS (by show Value.bool _ = _; simp only [decide_eq_true hb185, decide_true, decide_false, Bool.not_true, Bool.not_false])), ?_⟩
             refine ⟨fun a w hA hS hd => by have e1 := has_ev (hd 1 (by decide)) rfl (fun _ h => h); exact opG_of rfl (dv (op_move rfl (tmp_ev e1)) hS rfl), ?_⟩
             refine ⟨fun a w hA hS hd => by have e2 := has_ev (hd 2 (by decide)) rfl (fun _ h => h); exact opG_yes rfl rfl e2 (dv (op_field rfl fd_46_2 (hA.ev rfl)) hS rfl), ?_⟩
             refine ⟨fun a w hA hS hd => by have e2 := has_ev (hd 2 (by decide)) rfl (fun _ h => h); have e3 := has_ev (hd 3 (by decide)) rfl (fun _ h => h); exact opG_yes rfl rfl e2 (dv (op_load1 rfl ty_43 (tmp_ev e3) (hS.bk 0 rfl) rfl) hS rfl), ?_⟩
             refine ⟨fun a w hA hS hd => by have e2 := has_ev (hd 2 (by decide)) rfl (fun _ h => h); exact opG_yes rfl rfl e2 (dv (op_move rfl (hA.ev rfl)) hS rfl), ?_⟩
             refine ⟨fun a w hA hS hd => by have e2 := has_ev (hd 2 (by decide)) rfl (fun _ h => h); have e4 := has_ev (hd 4 (by decide)) rfl (fun _ h => h); have e5 := has_ev (hd 5 (by decide)) rfl (fun _ h => h); exact opG_yes rfl rfl e2 (dv (op_indexS rfl un_43 ty_75 (tmp_ev e4) (i := k) (tmp_ev e5) (hS.sk 1 rfl) (by decide) (by omega)) hS rfl), ?_⟩
             refine ⟨fun a w hA hS hd => by have e2 := has_ev (hd 2 (by decide)) rfl (fun _ h => h); have e6 := has_ev (hd 6 (by decide)) rfl (fun _ h => h); exact opG_yes rfl rfl e2 (dv (op_fieldS rfl fd_75_0 (tmp_ev e6) (hS.sk 1 rfl) (by rw [((hS.sk 1 rfl)).1]; omega)) hS rfl), ?_⟩
             refine ⟨fun a w hA hS hd => by have e2 := has_ev (hd 2 (by decide)) rfl (fun _ h => h); have e7 := has_ev (hd 7 (by decide)) rfl (fun _ h => h); exact opG_yes rfl rfl e2 (dv (op_load1E rfl ty_3 (tmp_ev e7) (hS.sk 1 rfl) (pairs_at0 (by omega))) hS rfl), ?_⟩
             refine ⟨fun a w hA hS hd => by have e2 := has_ev (hd 2 (by decide)) rfl (fun _ h => h); exact opG_yes rfl rfl e2 (dv (op_field rfl fd_46_2 (hA.ev rfl)) hS rfl), ?_⟩
             refine ⟨fun a w hA hS hd => by have e2 := has_ev (hd 2 (by decide)) rfl (fun _ h => h); have e9 := has_ev (hd 9 (by decide)) rfl (fun _ h => h); exact opG_yes rfl rfl e2 (dv (op_load1 rfl ty_43 (tmp_ev e9) (hS.bk 0 rfl) rfl) hS rfl), ?_⟩
             refine ⟨fun a w hA hS hd => by have e2 := has_ev (hd 2 (by decide)) rfl (fun _ h => h); exact opG_yes rfl rfl e2 (dv (op_move rfl (hA.ev rfl)) hS rfl), ?_⟩
             refine ⟨fun a w hA hS hd => by have e2 := has_ev (hd 2 (by decide)) rfl (fun _ h => h); have e11 := has_ev (hd 11 (by decide)) rfl (fun _ h => h); exact opG_yes rfl rfl e2 (dv (op_sub rfl (tmp_ev e11) (evc _ _) (by omega) (by omega)) hS rfl), ?_⟩
             refine ⟨fun a w hA hS hd => by have e2 := has_ev (hd 2 (by decide)) rfl (fun _ h => h); have e10 := has_ev (hd 10 (by decide)) rfl (fun _ h => h); have e12 := has_ev (hd 12 (by decide)) rfl (fun _ h => h); exact opG_yes rfl rfl e2 (dv (op_indexS rfl un_43 ty_75 (tmp_ev e10) (i := ((k : Int) - 1).toNat) ((tmp_ev e12).trans (int_nat (by omega))) (hS.sk 1 rfl) (by decide) (by omega)) hS rfl), ?_⟩
             refine ⟨fun a w hA hS hd => by have e2 := has_ev (hd 2 (by decide)) rfl (fun _ h => h); have e13 := has_ev (hd 13 (by decide)) rfl (fun _ h => h); exact opG_yes rfl rfl e2 (dv (op_fieldS rfl fd_75_0 (tmp_ev e13) (hS.sk 1 rfl) (by rw [((hS.sk 1 rfl)).1]; omega)) hS rfl), ?_⟩
             refine ⟨fun a w hA hS hd => by have e2 := has_ev (hd 2 (by decide)) rfl (fun _ h => h); have e14 := has_ev (hd 14 (by decide)) rfl (fun _ h => h); exact opG_yes rfl rfl e2 (dv (op_load1E rfl ty_3 (tmp_ev e14) (hS.sk 1 rfl) (pairs_at0 (by omega))) hS rfl), ?_⟩
             refine ⟨fun a w hA hS hd => by have e2 := has_ev (hd 2 (by decide)) rfl (fun _ h => h); have e8 := has_ev (hd 8 (by decide)) rfl (fun _ h => h); have e15 := has_ev (hd 15 (by decide)) rfl (fun _ h => h); exact opG_yes rfl rfl e2 (dv (op_leq rfl (tmp_ev e8) (tmp_ev e15)) hS (by show Value.bool _ = _; simp only [decide_eq_false hb188, decide_true, decide_false, Bool.not_true, Bool.not_false])), ?_⟩
             refine ⟨fun a w hA hS hd => by have e2 := has_ev (hd 2 (by decide)) rfl (fun _ h => h); have e16 := has_ev (hd 16 (by decide)) rfl (fun _ h => h); exact opG_yes rfl rfl e2 (dv (op_move rfl (tmp_ev e16)) hS rfl), ?_⟩
             refine ⟨fun a w hA hS hd => by have e17 := has_ev (hd 17 (by decide)) rfl (fun _ h => h); exact opG_yes rfl rfl e17 (dv (op_field rfl fd_46_2 (hA.ev rfl)) hS rfl), ?_⟩
             refine ⟨fun a w hA hS hd => by have e17 := has_ev (hd 17 (by decide)) rfl (fun _ h => h); have e18 := has_ev (hd 18 (by decide)) rfl (fun _ h => h); exact opG_yes rfl rfl e17 (dv (op_load1 rfl ty_43 (tmp_ev e18) (hS.bk 0 rfl) rfl) hS rfl), ?_⟩
             refine ⟨fun a w hA hS hd => by have e17 := has_ev (hd 17 (by decide)) rfl (fun _ h => h); exact opG_yes rfl rfl e17 (dv (op_move rfl (hA.ev rfl)) hS rfl), ?_⟩
             refine ⟨fun a w hA hS hd => by have e17 := has_ev (hd 17 (by decide)) rfl (fun _ h => h); have e19 := has_ev (hd 19 (by decide)) rfl (fun _ h => h); have e20 := has_ev (hd 20 (by decide)) rfl (fun _ h => h); exact opG_yes rfl rfl e17 (dv (op_indexS rfl un_43 ty_75 (tmp_ev e19) (i := k) (tmp_ev e20) (hS.sk 1 rfl) (by decide) (by omega)) hS rfl), ?_⟩
             refine ⟨fun a w hA hS hd => by have e17 := has_ev (hd 17 (by decide)) rfl (fun _ h => h); have e21 := has_ev (hd 21 (by decide)) rfl (fun _ h => h); exact opG_yes rfl rfl e17 (dv (op_fieldS rfl fd_75_1 (tmp_ev e21) (hS.sk 1 rfl) (by rw [((hS.sk 1 rfl)).1]; omega)) hS rfl), ?_⟩
             refine ⟨fun a w hA hS hd => by have e17 := has_ev (hd 17 (by decide)) rfl (fun _ h => h); have e22 := has_ev (hd 22 (by decide)) rfl (fun _ h => h); exact opG_yes rfl rfl e17 (dv (op_load1E rfl ty_3 (tmp_ev e22) (hS.sk 1 rfl) (pairs_at1 (by omega))) hS rfl), ?_⟩
             refine ⟨fun a w hA hS hd => by have e17 := has_ev (hd 17 (by decide)) rfl (fun _ h => h); exact opG_yes rfl rfl e17 (dv (op_field rfl fd_46_2 (hA.ev rfl)) hS rfl), ?_⟩
             refine ⟨fun a w hA hS hd => by have e17 := has_ev (hd 17 (by decide)) rfl (fun _ h => h); have e24 := has_ev (hd 24 (by decide)) rfl (fun _ h => h); exact opG_yes rfl rfl e17 (dv (op_load1 rfl ty_43 (tmp_ev e24) (hS.bk 0 rfl) rfl) hS rfl), ?_⟩
             refine ⟨fun a w hA hS hd => by have e17 := has_ev (hd 17 (by decide)) rfl (fun _ h => h); exact opG_yes rfl rfl e17 (dv (op_move rfl (hA.ev rfl)) hS rfl), ?_⟩
             refine ⟨fun a w hA hS hd => by have e17 := has_ev (hd 17 (by decide)) rfl (fun _ h => h); have e26 := has_ev (hd 26 (by decide)) rfl (fun _ h => h); exact opG_yes rfl rfl e17 (dv (op_sub rfl (tmp_ev e26) (evc _ _) (by omega) (by omega)) hS rfl), ?_⟩
             refine ⟨fun a w hA hS hd => by have e17 := has_ev (hd 17 (by decide)) rfl (fun _ h => h); have e25 := has_ev (hd 25 (by decide)) rfl (fun _ h => h); have e27 := has_ev (hd 27 (by decide)) rfl (fun _ h => h); exact opG_yes rfl rfl e17 (dv (op_indexS rfl un_43 ty_75 (tmp_ev e25) (i := ((k : Int) - 1).toNat) ((tmp_ev e27).trans (int_nat (by omega))) (hS.sk 1 rfl) (by decide) (by omega)) hS rfl), ?_⟩
             refine ⟨fun a w hA hS hd => by have e17 := has_ev (hd 17 (by decide)) rfl (fun _ h => h); have e28 := has_ev (hd 28 (by decide)) rfl (fun _ h => h); exact opG_yes rfl rfl e17 (dv (op_fieldS rfl fd_75_1 (tmp_ev e28) (hS.sk 1 rfl) (by rw [((hS.sk 1 rfl)).1]; omega)) hS rfl), ?_⟩
             refine ⟨fun a w hA hS hd => by have e17 := has_ev (hd 17 (by decide)) rfl (fun _ h => h); have e29 := has_ev (hd 29 (by decide)) rfl (fun _ h => h); exact opG_yes rfl rfl e17 (dv (op_load1E rfl ty_3 (tmp_ev e29) (hS.sk 1 rfl) (pairs_at1 (by omega))) hS rfl), ?_⟩
             refine ⟨fun a w hA hS hd => by have e17 := has_ev (hd 17 (by decide)) rfl (fun _ h => h); have e23 := has_ev (hd 23 (by decide)) rfl (fun _ h => h); have e30 := has_ev (hd 30 (by decide)) rfl (fun _ h => h); exact opG_yes rfl rfl e17 (dv (op_eql rfl (tmp_ev e23) (tmp_ev e30)) hS (by show Value.bool _ = _; simp only [decide_eq_true hb211, decide_true, decide_false, Bool.not_true, Bool.not_false])), ?_⟩
             refine ⟨fun a w hA hS hd => by have e2 := has_ev (hd 2 (by decide)) rfl (fun _ h => h); have e17 := has_ev (hd 17 (by decide)) rfl (fun _ h => h); have e31 := has_ev (hd 31 (by decide)) rfl (fun _ h => h); exact opG_yes rfl rfl e2 (dv (op_pick_f rfl (tmp_ev e17) (tmp_ev e31)) hS rfl), ?_⟩
             refine ⟨fun a w hA hS hd => by have e2 := has_ev (hd 2 (by decide)) rfl (fun _ h => h); have e32 := has_ev (hd 32 (by decide)) rfl (fun _ h => h); exact opG_yes rfl rfl e2 (dv (op_move rfl (tmp_ev e32)) hS rfl), ?_⟩
             refine ⟨fun a w hA hS hd => by have e33 := has_ev (hd 33 (by decide)) rfl (fun _ h => h); exact opG_no rfl rfl e33 rfl (dskip hS rfl), ?_⟩
             refine ⟨fun a w hA hS hd => by have e33 := has_ev (hd 33 (by decide)) rfl (fun _ h => h); have e34 := has_ev (hd 34 (by decide)) rfl (fun _ h => h); exact opG_no rfl rfl e33 rfl (dskip hS rfl), ?_⟩
             refine ⟨fun a w hA hS hd => by have e33 := has_ev (hd 33 (by decide)) rfl (fun _ h => h); exact opG_no rfl rfl e33 rfl (dskip hS rfl), ?_⟩
             refine ⟨fun a w hA hS hd => by have e33 := has_ev (hd 33 (by decide)) rfl (fun _ h => h); have e35 := has_ev (hd 35 (by decide)) rfl (fun _ h => h); have e36 := has_ev (hd 36 (by decide)) rfl (fun _ h => h); exact opG_no rfl rfl e33 rfl (dskip hS rfl), ?_⟩
             refine ⟨fun a w hA hS hd => by have e33 := has_ev (hd 33 (by decide)) rfl (fun _ h => h); have e37 := has_ev (hd 37 (by decide)) rfl (fun _ h => h); exact opG_no rfl rfl e33 rfl (dskip hS rfl), ?_⟩
             refine ⟨fun a w hA hS hd => by have e33 := has_ev (hd 33 (by decide)) rfl (fun _ h => h); have e38 := has_ev (hd 38 (by decide)) rfl (fun _ h => h); exact opG_no rfl rfl e33 rfl (dskip hS rfl), ?_⟩
             refine ⟨fun a w hA hS hd => by have e33 := has_ev (hd 33 (by decide)) rfl (fun _ h => h); exact opG_no rfl rfl e33 rfl (dskip hS rfl), ?_⟩
             refine ⟨fun a w hA hS hd => by have e33 := has_ev (hd 33 (by decide)) rfl (fun _ h => h); have e40 := has_ev (hd 40 (by decide)) rfl (fun _ h => h); exact opG_no rfl rfl e33 rfl (dskip hS rfl), ?_⟩
             refine ⟨fun a w hA hS hd => by have e33 := has_ev (hd 33 (by decide)) rfl (fun _ h => h); exact opG_no rfl rfl e33 rfl (dskip hS rfl), ?_⟩
             refine ⟨fun a w hA hS hd => by have e33 := has_ev (hd 33 (by decide)) rfl (fun _ h => h); have e42 := has_ev (hd 42 (by decide)) rfl (fun _ h => h); exact opG_no rfl rfl e33 rfl (dskip hS rfl), ?_⟩
             refine ⟨fun a w hA hS hd => by have e33 := has_ev (hd 33 (by decide)) rfl (fun _ h => h); have e41 := has_ev (hd 41 (by decide)) rfl (fun _ h => h); have e43 := has_ev (hd 43 (by decide)) rfl (fun _ h => h); exact opG_no rfl rfl e33 rfl (dskip hS rfl), ?_⟩
             refine ⟨fun a w hA hS hd => by have e33 := has_ev (hd 33 (by decide)) rfl (fun _ h => h); have e44 := has_ev (hd 44 (by decide)) rfl (fun _ h => h); exact opG_no rfl rfl e33 rfl (dskip hS rfl), ?_⟩
             refine ⟨fun a w hA hS hd => by have e33 := has_ev (hd 33 (by decide)) rfl (fun _ h => h); have e45 := has_ev (hd 45 (by decide)) rfl (fun _ h => h); exact opG_no rfl rfl e33 rfl (dskip hS rfl), ?_⟩
             refine ⟨fun a w hA hS hd => by have e33 := has_ev (hd 33 (by decide)) rfl (fun _ h => h); have e39 := has_ev (hd 39 (by decide)) rfl (fun _ h => h); have e46 := has_ev (hd 46 (by decide)) rfl (fun _ h => h); exact opG_no rfl rfl e33 rfl (dskip hS rfl), ?_⟩
             refine ⟨fun a w hA hS hd => by have e33 := has_ev (hd 33 (by decide)) rfl (fun _ h => h); exact opG_no rfl rfl e33 rfl (dskip hS rfl), ?_⟩
             trivial
            intro a214 w215 hA216 hS217 hH218; clear hA212 hS130
            have hA219 := hA216.add (has_ev (hH218 2 (by decide)) rfl (fun _ h => h)); clear hA216
            have hA220 := hA219.add (has_ev (hH218 33 (by decide)) rfl (fun _ h => h)); clear hA219
            have hA221 := hA220.add (has_ev (hH218 47 (by decide)) rfl (fun _ h => h)); clear hA220
            have hA222 := hA221.add (has_ev (hH218 48 (by decide)) rfl (fun _ h => h)); clear hA221
            clear hH218
            refine skp hA222 rfl rfl rfl rfl rfl (by decide) fun a223 hA224 => ?_; clear hA222 a214
            refine stg hA224 (op_pick_t rfl (hA224.ev rfl) (evc _ _)) rfl rfl rfl rfl (by decide) fun a225 hA226 => ?_; clear hA224 a223
            refine st hA226 (op_pick_t rfl (hA226.ev rfl) (hA226.ev rfl)) rfl rfl (by decide) fun a227 hA228 => ?_; clear hA226 a225
            refine wl_nil ?_
            refine then_n ?_
            refine c_true hA228 rfl ?_
            refine c_seq ?_
            have hA229 := hA228.as [] rfl; clear hA228
            refine c_region ?_
            refine st hA229 (op_assign rfl (evc _ _)) rfl rfl (by decide) fun a230 hA231 => ?_; clear hA229 a227
            refine wl_nil ?_
            refine then_n ?_
            refine c_ret ?_
            refine blk_ret ?_
            refine then_ret ?_
            refine then_ret ?_
            refine blk_ret ?_
            refine then_ret ?_
            refine fin_run hA231 (.inl rfl) (run_results1 hA231 rfl (.tmp rfl)) ?_
            exact ⟨congrArg Value.bool (Eq.symm (by first | exact tab_row (k := k) (by omega) (by unfold rowB; rw [Bool.and_eq_false_iff]; first | exact .inl (by assumption) | exact .inr (by assumption)) | (obtain ⟨i, rfl⟩ := back1 (k := k) (by omega); simp only [pred1] at *; exact tab_step (k := i) (by omega) (by first | exact neq_n (by assumption) | exact step_n (.inl (by omega)) | exact step_n (.inr (.inl (by omega))))))), hS217.ext⟩
           ·skip
            have hA232 := hA209.as [(6, (Value.int .i64 (k : Int))), (5, (Value.bool (decide (((t.rows.getD 0 (0, 0)).2) < ((t.rows.getD 1 (0, 0)).2))))), (3, (bptr b4 0))] rfl; clear hA209
            refine c_drawn mixed hA232 hS130 49 [[], [0], [1], [2], [2, 3], [2], [2, 4, 5], [2, 6], [2, 7], [2], [2, 9], [2], [2, 11], [2, 10, 12], [2, 13], [2, 14], [2, 8, 15], [2, 16], [17], [17, 18], [17], [17, 19, 20], [17, 21], [17, 22], [17], [17, 24], [17], [17, 26], [17, 25, 27], [17, 28], [17, 29], [17, 23, 30], [2, 17, 31], [2, 32], [33], [33, 34], [33], [33, 35, 36], [33, 37], [33, 38], [33], [33, 40], [33], [33, 42], [33, 41, 43], [33, 44], [33, 45], [33, 39, 46], [33]] [(Yd.val (Value.int .i64 (k : Int))), (Yd.val (Value.bool true)), (Yd.val (Value.bool true)), (Yd.val (bptr b4 2)), (Yd.val vr), (Yd.val (Value.int .i64 (k : Int))), (Yd.val (eptr vr (k * 2))), (Yd.val (eptr vr (k * 2 + 0))), (Yd.val (Value.int .i64 ((t.rows.getD k (0, 0)).1))), (Yd.val (bptr b4 2)), (Yd.val vr), (Yd.val (Value.int .i64 (k : Int))), (Yd.val (Value.int .i64 ((k : Int) - 1))), (Yd.val (eptr vr (((k : Int) - 1).toNat * 2))), (Yd.val (eptr vr (((k : Int) - 1).toNat * 2 + 0))), (Yd.val (Value.int .i64 ((t.rows.getD (((k : Int) - 1).toNat) (0, 0)).1))), (Yd.val (Value.bool false)), (Yd.val (Value.bool false)), (Yd.val (bptr b4 2)), (Yd.val vr), (Yd.val (Value.int .i64 (k : Int))), (Yd.val (eptr vr (k * 2))), (Yd.val (eptr vr (k * 2 + 1))), (Yd.val (Value.int .i64 ((t.rows.getD k (0, 0)).2))), (Yd.val (bptr b4 2)), (Yd.val vr), (Yd.val (Value.int .i64 (k : Int))), (Yd.val (Value.int .i64 ((k : Int) - 1))), (Yd.val (eptr vr (((k : Int) - 1).toNat * 2))), (Yd.val (eptr vr (((k : Int) - 1).toNat * 2 + 1))), (Yd.val (Value.int .i64 ((t.rows.getD (((k : Int) - 1).toNat) (0, 0)).2))), (Yd.val (Value.bool false)), (Yd.val (Value.bool false)), (Yd.val (Value.bool false)), (Yd.val (bptr b4 2)), (Yd.val vr), (Yd.val (Value.int .i64 (k : Int))), (Yd.val (eptr vr (k * 2))), (Yd.val (eptr vr (k * 2 + 1))), (Yd.val (Value.int .i64 ((t.rows.getD k (0, 0)).2))), (Yd.val (bptr b4 2)), (Yd.val vr), (Yd.val (Value.int .i64 (k : Int))), (Yd.val (Value.int .i64 ((k : Int) - 1))), (Yd.val (eptr vr (((k : Int) - 1).toNat * 2))), (Yd.val (eptr vr (((k : Int) - 1).toNat * 2 + 1))), (Yd.val (Value.int .i64 ((t.rows.getD (((k : Int) - 1).toNat) (0, 0)).2))), (Yd.val (Value.bool (decide (((t.rows.getD (((k : Int) - 1).toNat) (0, 0)).2) < ((t.rows.getD k (0, 0)).2))))), (Yd.val (Value.bool (decide (((t.rows.getD 0 (0, 0)).2) < ((t.rows.getD 1 (0, 0)).2)))))] (by decide +kernel) rfl rfl ?_ ?_
            ·skip
             refine ⟨fun a w hA hS hd => by exact opG_of rfl (dv (op_move rfl (hA.ev rfl)) hS rfl), ?_⟩
             refine ⟨fun a w hA hS hd => by have e0 := has_ev (hd 0 (by decide)) rfl (fun _ h => h); exact opG_of rfl (dv (op_gtr rfl (tmp_ev e0) (evc _ _)) hS (by show Value.bool _ = _; simp only [decide_eq_true hb185, decide_true, decide_false, Bool.not_true, Bool.not_false])), ?_⟩
             refine ⟨fun a w hA hS hd => by have e1 := has_ev (hd 1 (by decide)) rfl (fun _ h => h); exact opG_of rfl (dv (op_move rfl (tmp_ev e1)) hS rfl), ?_⟩
             refine ⟨fun a w hA hS hd => by have e2 := has_ev (hd 2 (by decide)) rfl (fun _ h => h); exact opG_yes rfl rfl e2 (dv (op_field rfl fd_46_2 (hA.ev rfl)) hS rfl), ?_⟩
             refine ⟨fun a w hA hS hd => by have e2 := has_ev (hd 2 (by decide)) rfl (fun _ h => h); have e3 := has_ev (hd 3 (by decide)) rfl (fun _ h => h); exact opG_yes rfl rfl e2 (dv (op_load1 rfl ty_43 (tmp_ev e3) (hS.bk 0 rfl) rfl) hS rfl), ?_⟩
             refine ⟨fun a w hA hS hd => by have e2 := has_ev (hd 2 (by decide)) rfl (fun _ h => h); exact opG_yes rfl rfl e2 (dv (op_move rfl (hA.ev rfl)) hS rfl), ?_⟩
             refine ⟨fun a w hA hS hd => by have e2 := has_ev (hd 2 (by decide)) rfl (fun _ h => h); have e4 := has_ev (hd 4 (by decide)) rfl (fun _ h => h); have e5 := has_ev (hd 5 (by decide)) rfl (fun _ h => h); exact opG_yes rfl rfl e2 (dv (op_indexS rfl un_43 ty_75 (tmp_ev e4) (i := k) (tmp_ev e5) (hS.sk 1 rfl) (by decide) (by omega)) hS rfl), ?_⟩
             refine ⟨fun a w hA hS hd => by have e2 := has_ev (hd 2 (by decide)) rfl (fun _ h => h); have e6 := has_ev (hd 6 (by decide)) rfl (fun _ h => h); exact opG_yes rfl rfl e2 (dv (op_fieldS rfl fd_75_0 (tmp_ev e6) (hS.sk 1 rfl) (by rw [((hS.sk 1 rfl)).1]; omega)) hS rfl), ?_⟩
             refine ⟨fun a w hA hS hd => by have e2 := has_ev (hd 2 (by decide)) rfl (fun _ h => h); have e7 := has_ev (hd 7 (by decide)) rfl (fun _ h => h); exact opG_yes rfl rfl e2 (dv (op_load1E rfl ty_3 (tmp_ev e7) (hS.sk 1 rfl) (pairs_at0 (by omega))) hS rfl), ?_⟩
             refine ⟨fun a w hA hS hd => by have e2 := has_ev (hd 2 (by decide)) rfl (fun _ h => h); exact opG_yes rfl rfl e2 (dv (op_field rfl fd_46_2 (hA.ev rfl)) hS rfl), ?_⟩
             refine ⟨fun a w hA hS hd => by have e2 := has_ev (hd 2 (by decide)) rfl (fun _ h => h); have e9 := has_ev (hd 9 (by decide)) rfl (fun _ h => h); exact opG_yes rfl rfl e2 (dv (op_load1 rfl ty_43 (tmp_ev e9) (hS.bk 0 rfl) rfl) hS rfl), ?_⟩
             refine ⟨fun a w hA hS hd => by have e2 := has_ev (hd 2 (by decide)) rfl (fun _ h => h); exact opG_yes rfl rfl e2 (dv (op_move rfl (hA.ev rfl)) hS rfl), ?_⟩
             refine ⟨fun a w hA hS hd => by have e2 := has_ev (hd 2 (by decide)) rfl (fun _ h => h); have e11 := has_ev (hd 11 (by decide)) rfl (fun _ h => h); exact opG_yes rfl rfl e2 (dv (op_sub rfl (tmp_ev e11) (evc _ _) (by omega) (by omega)) hS rfl), ?_⟩
             refine ⟨fun a w hA hS hd => by have e2 := has_ev (hd 2 (by decide)) rfl (fun _ h => h); have e10 := has_ev (hd 10 (by decide)) rfl (fun _ h => h); have e12 := has_ev (hd 12 (by decide)) rfl (fun _ h => h); exact opG_yes rfl rfl e2 (dv (op_indexS rfl un_43 ty_75 (tmp_ev e10) (i := ((k : Int) - 1).toNat) ((tmp_ev e12).trans (int_nat (by omega))) (hS.sk 1 rfl) (by decide) (by omega)) hS rfl), ?_⟩
             refine ⟨fun a w hA hS hd => by have e2 := has_ev (hd 2 (by decide)) rfl (fun _ h => h); have e13 := has_ev (hd 13 (by decide)) rfl (fun _ h => h); exact opG_yes rfl rfl e2 (dv (op_fieldS rfl fd_75_0 (tmp_ev e13) (hS.sk 1 rfl) (by rw [((hS.sk 1 rfl)).1]; omega)) hS rfl), ?_⟩
             refine ⟨fun a w hA hS hd => by have e2 := has_ev (hd 2 (by decide)) rfl (fun _ h => h); have e14 := has_ev (hd 14 (by decide)) rfl (fun _ h => h); exact opG_yes rfl rfl e2 (dv (op_load1E rfl ty_3 (tmp_ev e14) (hS.sk 1 rfl) (pairs_at0 (by omega))) hS rfl), ?_⟩
             refine ⟨fun a w hA hS hd => by have e2 := has_ev (hd 2 (by decide)) rfl (fun _ h => h); have e8 := has_ev (hd 8 (by decide)) rfl (fun _ h => h); have e15 := has_ev (hd 15 (by decide)) rfl (fun _ h => h); exact opG_yes rfl rfl e2 (dv (op_leq rfl (tmp_ev e8) (tmp_ev e15)) hS (by show Value.bool _ = _; simp only [decide_eq_false hb188, decide_true, decide_false, Bool.not_true, Bool.not_false])), ?_⟩
             refine ⟨fun a w hA hS hd => by have e2 := has_ev (hd 2 (by decide)) rfl (fun _ h => h); have e16 := has_ev (hd 16 (by decide)) rfl (fun _ h => h); exact opG_yes rfl rfl e2 (dv (op_move rfl (tmp_ev e16)) hS rfl), ?_⟩
             refine ⟨fun a w hA hS hd => by have e17 := has_ev (hd 17 (by decide)) rfl (fun _ h => h); exact opG_yes rfl rfl e17 (dv (op_field rfl fd_46_2 (hA.ev rfl)) hS rfl), ?_⟩
             refine ⟨fun a w hA hS hd => by have e17 := has_ev (hd 17 (by decide)) rfl (fun _ h => h); have e18 := has_ev (hd 18 (by decide)) rfl (fun _ h => h); exact opG_yes rfl rfl e17 (dv (op_load1 rfl ty_43 (tmp_ev e18) (hS.bk 0 rfl) rfl) hS rfl), ?_⟩
             refine ⟨fun a w hA hS hd => by have e17 := has_ev (hd 17 (by decide)) rfl (fun _ h => h); exact opG_yes rfl rfl e17 (dv (op_move rfl (hA.ev rfl)) hS rfl), ?_⟩
             refine ⟨fun a w hA hS hd => by have e17 := has_ev (hd 17 (by decide)) rfl (fun _ h => h); have e19 := has_ev (hd 19 (by decide)) rfl (fun _ h => h); have e20 := has_ev (hd 20 (by decide)) rfl (fun _ h => h); exact opG_yes rfl rfl e17 (dv (op_indexS rfl un_43 ty_75 (tmp_ev e19) (i := k) (tmp_ev e20) (hS.sk 1 rfl) (by decide) (by omega)) hS rfl), ?_⟩
             refine ⟨fun a w hA hS hd => by have e17 := has_ev (hd 17 (by decide)) rfl (fun _ h => h); have e21 := has_ev (hd 21 (by decide)) rfl (fun _ h => h); exact opG_yes rfl rfl e17 (dv (op_fieldS rfl fd_75_1 (tmp_ev e21) (hS.sk 1 rfl) (by rw [((hS.sk 1 rfl)).1]; omega)) hS rfl), ?_⟩
             refine ⟨fun a w hA hS hd => by have e17 := has_ev (hd 17 (by decide)) rfl (fun _ h => h); have e22 := has_ev (hd 22 (by decide)) rfl (fun _ h => h); exact opG_yes rfl rfl e17 (dv (op_load1E rfl ty_3 (tmp_ev e22) (hS.sk 1 rfl) (pairs_at1 (by omega))) hS rfl), ?_⟩
             refine ⟨fun a w hA hS hd => by have e17 := has_ev (hd 17 (by decide)) rfl (fun _ h => h); exact opG_yes rfl rfl e17 (dv (op_field rfl fd_46_2 (hA.ev rfl)) hS rfl), ?_⟩
             refine ⟨fun a w hA hS hd => by have e17 := has_ev (hd 17 (by decide)) rfl (fun _ h => h); have e24 := has_ev (hd 24 (by decide)) rfl (fun _ h => h); exact opG_yes rfl rfl e17 (dv (op_load1 rfl ty_43 (tmp_ev e24) (hS.bk 0 rfl) rfl) hS rfl), ?_⟩
             refine ⟨fun a w hA hS hd => by have e17 := has_ev (hd 17 (by decide)) rfl (fun _ h => h); exact opG_yes rfl rfl e17 (dv (op_move rfl (hA.ev rfl)) hS rfl), ?_⟩
             refine ⟨fun a w hA hS hd => by have e17 := has_ev (hd 17 (by decide)) rfl (fun _ h => h); have e26 := has_ev (hd 26 (by decide)) rfl (fun _ h => h); exact opG_yes rfl rfl e17 (dv (op_sub rfl (tmp_ev e26) (evc _ _) (by omega) (by omega)) hS rfl), ?_⟩
             refine ⟨fun a w hA hS hd => by have e17 := has_ev (hd 17 (by decide)) rfl (fun _ h => h); have e25 := has_ev (hd 25 (by decide)) rfl (fun _ h => h); have e27 := has_ev (hd 27 (by decide)) rfl (fun _ h => h); exact opG_yes rfl rfl e17 (dv (op_indexS rfl un_43 ty_75 (tmp_ev e25) (i := ((k : Int) - 1).toNat) ((tmp_ev e27).trans (int_nat (by omega))) (hS.sk 1 rfl) (by decide) (by omega)) hS rfl), ?_⟩
             refine ⟨fun a w hA hS hd => by have e17 := has_ev (hd 17 (by decide)) rfl (fun _ h => h); have e28 := has_ev (hd 28 (by decide)) rfl (fun _ h => h); exact opG_yes rfl rfl e17 (dv (op_fieldS rfl fd_75_1 (tmp_ev e28) (hS.sk 1 rfl) (by rw [((hS.sk 1 rfl)).1]; omega)) hS rfl), ?_⟩
             refine ⟨fun a w hA hS hd => by have e17 := has_ev (hd 17 (by decide)) rfl (fun _ h => h); have e29 := has_ev (hd 29 (by decide)) rfl (fun _ h => h); exact opG_yes rfl rfl e17 (dv (op_load1E rfl ty_3 (tmp_ev e29) (hS.sk 1 rfl) (pairs_at1 (by omega))) hS rfl), ?_⟩
             refine ⟨fun a w hA hS hd => by have e17 := has_ev (hd 17 (by decide)) rfl (fun _ h => h); have e23 := has_ev (hd 23 (by decide)) rfl (fun _ h => h); have e30 := has_ev (hd 30 (by decide)) rfl (fun _ h => h); exact opG_yes rfl rfl e17 (dv (op_eql rfl (tmp_ev e23) (tmp_ev e30)) hS (by show Value.bool _ = _; simp only [decide_eq_false hb211, decide_true, decide_false, Bool.not_true, Bool.not_false])), ?_⟩
             refine ⟨fun a w hA hS hd => by have e2 := has_ev (hd 2 (by decide)) rfl (fun _ h => h); have e17 := has_ev (hd 17 (by decide)) rfl (fun _ h => h); have e31 := has_ev (hd 31 (by decide)) rfl (fun _ h => h); exact opG_yes rfl rfl e2 (dv (op_pick_f rfl (tmp_ev e17) (tmp_ev e31)) hS rfl), ?_⟩
             refine ⟨fun a w hA hS hd => by have e2 := has_ev (hd 2 (by decide)) rfl (fun _ h => h); have e32 := has_ev (hd 32 (by decide)) rfl (fun _ h => h); exact opG_yes rfl rfl e2 (dv (op_move rfl (tmp_ev e32)) hS rfl), ?_⟩
             refine ⟨fun a w hA hS hd => by have e33 := has_ev (hd 33 (by decide)) rfl (fun _ h => h); exact opG_yes rfl rfl e33 (dv (op_field rfl fd_46_2 (hA.ev rfl)) hS rfl), ?_⟩
             refine ⟨fun a w hA hS hd => by have e33 := has_ev (hd 33 (by decide)) rfl (fun _ h => h); have e34 := has_ev (hd 34 (by decide)) rfl (fun _ h => h); exact opG_yes rfl rfl e33 (dv (op_load1 rfl ty_43 (tmp_ev e34) (hS.bk 0 rfl) rfl) hS rfl), ?_⟩
             refine ⟨fun a w hA hS hd => by have e33 := has_ev (hd 33 (by decide)) rfl (fun _ h => h); exact opG_yes rfl rfl e33 (dv (op_move rfl (hA.ev rfl)) hS rfl), ?_⟩
             refine ⟨fun a w hA hS hd => by have e33 := has_ev (hd 33 (by decide)) rfl (fun _ h => h); have e35 := has_ev (hd 35 (by decide)) rfl (fun _ h => h); have e36 := has_ev (hd 36 (by decide)) rfl (fun _ h => h); exact opG_yes rfl rfl e33 (dv (op_indexS rfl un_43 ty_75 (tmp_ev e35) (i := k) (tmp_ev e36) (hS.sk 1 rfl) (by decide) (by omega)) hS rfl), ?_⟩
             refine ⟨fun a w hA hS hd => by have e33 := has_ev (hd 33 (by decide)) rfl (fun _ h => h); have e37 := has_ev (hd 37 (by decide)) rfl (fun _ h => h); exact opG_yes rfl rfl e33 (dv (op_fieldS rfl fd_75_1 (tmp_ev e37) (hS.sk 1 rfl) (by rw [((hS.sk 1 rfl)).1]; omega)) hS rfl), ?_⟩
             refine ⟨fun a w hA hS hd => by have e33 := has_ev (hd 33 (by decide)) rfl (fun _ h => h); have e38 := has_ev (hd 38 (by decide)) rfl (fun _ h => h); exact opG_yes rfl rfl e33 (dv (op_load1E rfl ty_3 (tmp_ev e38) (hS.sk 1 rfl) (pairs_at1 (by omega))) hS rfl), ?_⟩
             refine ⟨fun a w hA hS hd => by have e33 := has_ev (hd 33 (by decide)) rfl (fun _ h => h); exact opG_yes rfl rfl e33 (dv (op_field rfl fd_46_2 (hA.ev rfl)) hS rfl), ?_⟩
             refine ⟨fun a w hA hS hd => by have e33 := has_ev (hd 33 (by decide)) rfl (fun _ h => h); have e40 := has_ev (hd 40 (by decide)) rfl (fun _ h => h); exact opG_yes rfl rfl e33 (dv (op_load1 rfl ty_43 (tmp_ev e40) (hS.bk 0 rfl) rfl) hS rfl), ?_⟩
             refine ⟨fun a w hA hS hd => by have e33 := has_ev (hd 33 (by decide)) rfl (fun _ h => h); exact opG_yes rfl rfl e33 (dv (op_move rfl (hA.ev rfl)) hS rfl), ?_⟩
             refine ⟨fun a w hA hS hd => by have e33 := has_ev (hd 33 (by decide)) rfl (fun _ h => h); have e42 := has_ev (hd 42 (by decide)) rfl (fun _ h => h); exact opG_yes rfl rfl e33 (dv (op_sub rfl (tmp_ev e42) (evc _ _) (by omega) (by omega)) hS rfl), ?_⟩
             refine ⟨fun a w hA hS hd => by have e33 := has_ev (hd 33 (by decide)) rfl (fun _ h => h); have e41 := has_ev (hd 41 (by decide)) rfl (fun _ h => h); have e43 := has_ev (hd 43 (by decide)) rfl (fun _ h => h); exact opG_yes rfl rfl e33 (dv (op_indexS rfl un_43 ty_75 (tmp_ev e41) (i := ((k : Int) - 1).toNat) ((tmp_ev e43).trans (int_nat (by omega))) (hS.sk 1 rfl) (by decide) (by omega)) hS rfl), ?_⟩
             refine ⟨fun a w hA hS hd => by have e33 := has_ev (hd 33 (by decide)) rfl (fun _ h => h); have e44 := has_ev (hd 44 (by decide)) rfl (fun _ h => h); exact opG_yes rfl rfl e33 (dv (op_fieldS rfl fd_75_1 (tmp_ev e44) (hS.sk 1 rfl) (by rw [((hS.sk 1 rfl)).1]; omega)) hS rfl), ?_⟩
             refine ⟨fun a w hA hS hd => by have e33 := has_ev (hd 33 (by decide)) rfl (fun _ h => h); have e45 := has_ev (hd 45 (by decide)) rfl (fun _ h => h); exact opG_yes rfl rfl e33 (dv (op_load1E rfl ty_3 (tmp_ev e45) (hS.sk 1 rfl) (pairs_at1 (by omega))) hS rfl), ?_⟩
             refine ⟨fun a w hA hS hd => by have e33 := has_ev (hd 33 (by decide)) rfl (fun _ h => h); have e39 := has_ev (hd 39 (by decide)) rfl (fun _ h => h); have e46 := has_ev (hd 46 (by decide)) rfl (fun _ h => h); exact opG_yes rfl rfl e33 (dv (op_gtr rfl (tmp_ev e39) (tmp_ev e46)) hS rfl), ?_⟩
             refine ⟨fun a w hA hS hd => by have e33 := has_ev (hd 33 (by decide)) rfl (fun _ h => h); exact opG_yes rfl rfl e33 (dv (op_move rfl (hA.ev rfl)) hS rfl), ?_⟩
             trivial
            intro a234 w235 hA236 hS237 hH238; clear hA232 hS130
            have hA239 := hA236.add (has_ev (hH238 2 (by decide)) rfl (fun _ h => h)); clear hA236
            have hA240 := hA239.add (has_ev (hH238 33 (by decide)) rfl (fun _ h => h)); clear hA239
            have hA241 := hA240.add (has_ev (hH238 47 (by decide)) rfl (fun _ h => h)); clear hA240
            have hA242 := hA241.add (has_ev (hH238 48 (by decide)) rfl (fun _ h => h)); clear hA241
            clear hH238
            refine stg hA242 (op_neqB un_4 rfl (hA242.ev rfl) (hA242.ev rfl)) rfl rfl rfl rfl (by decide) fun a243 hA244 => ?_; clear hA242 a234
            refine stg hA244 (op_pick_f rfl (hA244.ev rfl) (hA244.ev rfl)) rfl rfl rfl rfl (by decide) fun a245 hA246 => ?_; clear hA244 a243
            refine st hA246 (op_pick_t rfl (hA246.ev rfl) (hA246.ev rfl)) rfl rfl (by decide) fun a247 hA248 => ?_; clear hA246 a245
            refine wl_nil ?_
            refine then_n ?_
            rcases Bool.eq_false_or_eq_true ((decide (((t.rows.getD (((k : Int) - 1).toNat) (0, 0)).2) < ((t.rows.getD k (0, 0)).2))) == (decide (((t.rows.getD 0 (0, 0)).2) < ((t.rows.getD 1 (0, 0)).2)))) with hb249 | hb249
            ·skip
             rw [hb249] at hA248
             refine c_false hA248 rfl ?_
             refine c_skip ?_
             refine blk_n ?_
             refine then_n ?_
             have hA250 := hA248.as [(6, (Value.int .i64 (k : Int))), (5, (Value.bool (decide (((t.rows.getD 0 (0, 0)).2) < ((t.rows.getD 1 (0, 0)).2))))), (3, (bptr b4 0))] rfl; clear hA248
             refine c_region ?_
             refine st hA250 (op_move rfl (hA250.ev rfl)) rfl rfl (by decide) fun a251 hA252 => ?_; clear hA250 a247
             refine st hA252 (op_add rfl (hA252.ev rfl) (evc _ _) (by omega) (by omega)) rfl rfl (by decide) fun a253 hA254 => ?_; clear hA252 a251
             refine st hA254 (op_assign rfl (hA254.ev rfl)) rfl rfl (by decide) fun a255 hA256 => ?_; clear hA254 a253
             refine wl_nil ?_
             exact then_n ⟨k + 1, ⟨hA256.as _ rfl, hS237, by omega, (fun i hi => by rcases Nat.lt_succ_iff_lt_or_eq.1 hi with h | h; exact hrw i h; subst h; (unfold rowB; rw [Bool.and_eq_true]; exact ⟨by assumption, by assumption⟩)), (fun i hi => by rcases Nat.lt_succ_iff_lt_or_eq.1 hi with h | h; exact hst i h; subst h; first | (exfalso; omega) | (simp only [pred1] at *; exact neq_y (by omega) (by omega) (by assumption)))⟩, by omega⟩
            ·skip
             rw [hb249] at hA248
             refine c_true hA248 rfl ?_
             refine c_seq ?_
             have hA257 := hA248.as [] rfl; clear hA248
             refine c_region ?_
             refine st hA257 (op_assign rfl (evc _ _)) rfl rfl (by decide) fun a258 hA259 => ?_; clear hA257 a247
             refine wl_nil ?_
             refine then_n ?_
             refine c_ret ?_
             refine blk_ret ?_
             refine then_ret ?_
             refine then_ret ?_
             refine blk_ret ?_
             refine then_ret ?_
             refine fin_run hA259 (.inl rfl) (run_results1 hA259 rfl (.tmp rfl)) ?_
             exact ⟨congrArg Value.bool (Eq.symm (by first | exact tab_row (k := k) (by omega) (by unfold rowB; rw [Bool.and_eq_false_iff]; first | exact .inl (by assumption) | exact .inr (by assumption)) | (obtain ⟨i, rfl⟩ := back1 (k := k) (by omega); simp only [pred1] at *; exact tab_step (k := i) (by omega) (by first | exact neq_n (by assumption) | exact step_n (.inl (by omega)) | exact step_n (.inr (.inl (by omega))))))), hS237.ext⟩
         ·skip
          have hA260 := hA183.as [(6, (Value.int .i64 (k : Int))), (5, (Value.bool (decide (((t.rows.getD 0 (0, 0)).2) < ((t.rows.getD 1 (0, 0)).2))))), (3, (bptr b4 0))] rfl; clear hA183
          refine c_drawn mixed hA260 hS130 49 [[], [0], [1], [2], [2, 3], [2], [2, 4, 5], [2, 6], [2, 7], [2], [2, 9], [2], [2, 11], [2, 10, 12], [2, 13], [2, 14], [2, 8, 15], [2, 16], [17], [17, 18], [17], [17, 19, 20], [17, 21], [17, 22], [17], [17, 24], [17], [17, 26], [17, 25, 27], [17, 28], [17, 29], [17, 23, 30], [2, 17, 31], [2, 32], [33], [33, 34], [33], [33, 35, 36], [33, 37], [33, 38], [33], [33, 40], [33], [33, 42], [33, 41, 43], [33, 44], [33, 45], [33, 39, 46], [33]] [(Yd.val (Value.int .i64 (k : Int))), (Yd.val (Value.bool false)), (Yd.val (Value.bool false)), (Yd.val undef), (Yd.val undef), (Yd.val undef), (Yd.val undef), (Yd.val undef), (Yd.val undef), (Yd.val undef), (Yd.val undef), (Yd.val undef), (Yd.val undef), (Yd.val undef), (Yd.val undef), (Yd.val undef), (Yd.val undef), (Yd.val undef), (Yd.val undef), (Yd.val undef), (Yd.val undef), (Yd.val undef), (Yd.val undef), (Yd.val undef), (Yd.val undef), (Yd.val undef), (Yd.val undef), (Yd.val undef), (Yd.val undef), (Yd.val undef), (Yd.val undef), (Yd.val undef), (Yd.val undef), (Yd.val undef), (Yd.val undef), (Yd.val undef), (Yd.val undef), (Yd.val undef), (Yd.val undef), (Yd.val undef), (Yd.val undef), (Yd.val undef), (Yd.val undef), (Yd.val undef), (Yd.val undef), (Yd.val undef), (Yd.val undef), (Yd.val undef), (Yd.val undef)] (by decide +kernel) rfl rfl ?_ ?_
          ·skip
           refine ⟨fun a w hA hS hd => by exact opG_of rfl (dv (op_move rfl (hA.ev rfl)) hS rfl), ?_⟩
           refine ⟨fun a w hA hS hd => by have e0 := has_ev (hd 0 (by decide)) rfl (fun _ h => h); exact opG_of rfl (dv (op_gtr rfl (tmp_ev e0) (evc _ _)) hS (by show Value.bool _ = _; simp only [decide_eq_false hb185, decide_true, decide_false, Bool.not_true, Bool.not_false])), ?_⟩
           refine ⟨fun a w hA hS hd => by have e1 := has_ev (hd 1 (by decide)) rfl (fun _ h => h); exact opG_of rfl (dv (op_move rfl (tmp_ev e1)) hS rfl), ?_⟩
           refine ⟨fun a w hA hS hd => by have e2 := has_ev (hd 2 (by decide)) rfl (fun _ h => h); exact opG_no rfl rfl e2 rfl (dskip hS rfl), ?_⟩
           refine ⟨fun a w hA hS hd => by have e2 := has_ev (hd 2 (by decide)) rfl (fun _ h => h); have e3 := has_ev (hd 3 (by decide)) rfl (fun _ h => h); exact opG_no rfl rfl e2 rfl (dskip hS rfl), ?_⟩
           refine ⟨fun a w hA hS hd => by have e2 := has_ev (hd 2 (by decide)) rfl (fun _ h => h); exact opG_no rfl rfl e2 rfl (dskip hS rfl), ?_⟩
           refine ⟨fun a w hA hS hd => by have e2 := has_ev (hd 2 (by decide)) rfl (fun _ h => h); have e4 := has_ev (hd 4 (by decide)) rfl (fun _ h => h); have e5 := has_ev (hd 5 (by decide)) rfl (fun _ h => h); exact opG_no rfl rfl e2 rfl (dskip hS rfl), ?_⟩
           refine ⟨fun a w hA hS hd => by have e2 := has_ev (hd 2 (by decide)) rfl (fun _ h => h); have e6 := has_ev (hd 6 (by decide)) rfl (fun _ h => h); exact opG_no rfl rfl e2 rfl (dskip hS rfl), ?_⟩
           refine ⟨fun a w hA hS hd => by have e2 := has_ev (hd 2 (by decide)) rfl (fun _ h => h); have e7 := has_ev (hd 7 (by decide)) rfl (fun _ h => h); exact opG_no rfl rfl e2 rfl (dskip hS rfl), ?_⟩
           refine ⟨fun a w hA hS hd => by have e2 := has_ev (hd 2 (by decide)) rfl (fun _ h => h); exact opG_no rfl rfl e2 rfl (dskip hS rfl), ?_⟩
           refine ⟨fun a w hA hS hd => by have e2 := has_ev (hd 2 (by decide)) rfl (fun _ h => h); have e9 := has_ev (hd 9 (by decide)) rfl (fun _ h => h); exact opG_no rfl rfl e2 rfl (dskip hS rfl), ?_⟩
           refine ⟨fun a w hA hS hd => by have e2 := has_ev (hd 2 (by decide)) rfl (fun _ h => h); exact opG_no rfl rfl e2 rfl (dskip hS rfl), ?_⟩
           refine ⟨fun a w hA hS hd => by have e2 := has_ev (hd 2 (by decide)) rfl (fun _ h => h); have e11 := has_ev (hd 11 (by decide)) rfl (fun _ h => h); exact opG_no rfl rfl e2 rfl (dskip hS rfl), ?_⟩
           refine ⟨fun a w hA hS hd => by have e2 := has_ev (hd 2 (by decide)) rfl (fun _ h => h); have e10 := has_ev (hd 10 (by decide)) rfl (fun _ h => h); have e12 := has_ev (hd 12 (by decide)) rfl (fun _ h => h); exact opG_no rfl rfl e2 rfl (dskip hS rfl), ?_⟩
           refine ⟨fun a w hA hS hd => by have e2 := has_ev (hd 2 (by decide)) rfl (fun _ h => h); have e13 := has_ev (hd 13 (by decide)) rfl (fun _ h => h); exact opG_no rfl rfl e2 rfl (dskip hS rfl), ?_⟩
           refine ⟨fun a w hA hS hd => by have e2 := has_ev (hd 2 (by decide)) rfl (fun _ h => h); have e14 := has_ev (hd 14 (by decide)) rfl (fun _ h => h); exact opG_no rfl rfl e2 rfl (dskip hS rfl), ?_⟩
           refine ⟨fun a w hA hS hd => by have e2 := has_ev (hd 2 (by decide)) rfl (fun _ h => h); have e8 := has_ev (hd 8 (by decide)) rfl (fun _ h => h); have e15 := has_ev (hd 15 (by decide)) rfl (fun _ h => h); exact opG_no rfl rfl e2 rfl (dskip hS rfl), ?_⟩
           refine ⟨fun a w hA hS hd => by have e2 := has_ev (hd 2 (by decide)) rfl (fun _ h => h); have e16 := has_ev (hd 16 (by decide)) rfl (fun _ h => h); exact opG_no rfl rfl e2 rfl (dskip hS rfl), ?_⟩
           refine ⟨fun a w hA hS hd => by have e17 := has_ev (hd 17 (by decide)) rfl (fun _ h => h); exact opG_noU rfl rfl e17 (dskip hS rfl), ?_⟩
           refine ⟨fun a w hA hS hd => by have e17 := has_ev (hd 17 (by decide)) rfl (fun _ h => h); have e18 := has_ev (hd 18 (by decide)) rfl (fun _ h => h); exact opG_noU rfl rfl e17 (dskip hS rfl), ?_⟩
           refine ⟨fun a w hA hS hd => by have e17 := has_ev (hd 17 (by decide)) rfl (fun _ h => h); exact opG_noU rfl rfl e17 (dskip hS rfl), ?_⟩
           refine ⟨fun a w hA hS hd => by have e17 := has_ev (hd 17 (by decide)) rfl (fun _ h => h); have e19 := has_ev (hd 19 (by decide)) rfl (fun _ h => h); have e20 := has_ev (hd 20 (by decide)) rfl (fun _ h => h); exact opG_noU rfl rfl e17 (dskip hS rfl), ?_⟩
           refine ⟨fun a w hA hS hd => by have e17 := has_ev (hd 17 (by decide)) rfl (fun _ h => h); have e21 := has_ev (hd 21 (by decide)) rfl (fun _ h => h); exact opG_noU rfl rfl e17 (dskip hS rfl), ?_⟩
           refine ⟨fun a w hA hS hd => by have e17 := has_ev (hd 17 (by decide)) rfl (fun _ h => h); have e22 := has_ev (hd 22 (by decide)) rfl (fun _ h => h); exact opG_noU rfl rfl e17 (dskip hS rfl), ?_⟩
           refine ⟨fun a w hA hS hd => by have e17 := has_ev (hd 17 (by decide)) rfl (fun _ h => h); exact opG_noU rfl rfl e17 (dskip hS rfl), ?_⟩
           refine ⟨fun a w hA hS hd => by have e17 := has_ev (hd 17 (by decide)) rfl (fun _ h => h); have e24 := has_ev (hd 24 (by decide)) rfl (fun _ h => h); exact opG_noU rfl rfl e17 (dskip hS rfl), ?_⟩
           refine ⟨fun a w hA hS hd => by have e17 := has_ev (hd 17 (by decide)) rfl (fun _ h => h); exact opG_noU rfl rfl e17 (dskip hS rfl), ?_⟩
           refine ⟨fun a w hA hS hd => by have e17 := has_ev (hd 17 (by decide)) rfl (fun _ h => h); have e26 := has_ev (hd 26 (by decide)) rfl (fun _ h => h); exact opG_noU rfl rfl e17 (dskip hS rfl), ?_⟩
           refine ⟨fun a w hA hS hd => by have e17 := has_ev (hd 17 (by decide)) rfl (fun _ h => h); have e25 := has_ev (hd 25 (by decide)) rfl (fun _ h => h); have e27 := has_ev (hd 27 (by decide)) rfl (fun _ h => h); exact opG_noU rfl rfl e17 (dskip hS rfl), ?_⟩
           refine ⟨fun a w hA hS hd => by have e17 := has_ev (hd 17 (by decide)) rfl (fun _ h => h); have e28 := has_ev (hd 28 (by decide)) rfl (fun _ h => h); exact opG_noU rfl rfl e17 (dskip hS rfl), ?_⟩
           refine ⟨fun a w hA hS hd => by have e17 := has_ev (hd 17 (by decide)) rfl (fun _ h => h); have e29 := has_ev (hd 29 (by decide)) rfl (fun _ h => h); exact opG_noU rfl rfl e17 (dskip hS rfl), ?_⟩
           refine ⟨fun a w hA hS hd => by have e17 := has_ev (hd 17 (by decide)) rfl (fun _ h => h); have e23 := has_ev (hd 23 (by decide)) rfl (fun _ h => h); have e30 := has_ev (hd 30 (by decide)) rfl (fun _ h => h); exact opG_noU rfl rfl e17 (dskip hS rfl), ?_⟩
           refine ⟨fun a w hA hS hd => by have e2 := has_ev (hd 2 (by decide)) rfl (fun _ h => h); have e17 := has_ev (hd 17 (by decide)) rfl (fun _ h => h); have e31 := has_ev (hd 31 (by decide)) rfl (fun _ h => h); exact opG_no rfl rfl e2 rfl (dskip hS rfl), ?_⟩
           refine ⟨fun a w hA hS hd => by have e2 := has_ev (hd 2 (by decide)) rfl (fun _ h => h); have e32 := has_ev (hd 32 (by decide)) rfl (fun _ h => h); exact opG_no rfl rfl e2 rfl (dskip hS rfl), ?_⟩
           refine ⟨fun a w hA hS hd => by have e33 := has_ev (hd 33 (by decide)) rfl (fun _ h => h); exact opG_noU rfl rfl e33 (dskip hS rfl), ?_⟩
           refine ⟨fun a w hA hS hd => by have e33 := has_ev (hd 33 (by decide)) rfl (fun _ h => h); have e34 := has_ev (hd 34 (by decide)) rfl (fun _ h => h); exact opG_noU rfl rfl e33 (dskip hS rfl), ?_⟩
           refine ⟨fun a w hA hS hd => by have e33 := has_ev (hd 33 (by decide)) rfl (fun _ h => h); exact opG_noU rfl rfl e33 (dskip hS rfl), ?_⟩
           refine ⟨fun a w hA hS hd => by have e33 := has_ev (hd 33 (by decide)) rfl (fun _ h => h); have e35 := has_ev (hd 35 (by decide)) rfl (fun _ h => h); have e36 := has_ev (hd 36 (by decide)) rfl (fun _ h => h); exact opG_noU rfl rfl e33 (dskip hS rfl), ?_⟩
           refine ⟨fun a w hA hS hd => by have e33 := has_ev (hd 33 (by decide)) rfl (fun _ h => h); have e37 := has_ev (hd 37 (by decide)) rfl (fun _ h => h); exact opG_noU rfl rfl e33 (dskip hS rfl), ?_⟩
           refine ⟨fun a w hA hS hd => by have e33 := has_ev (hd 33 (by decide)) rfl (fun _ h => h); have e38 := has_ev (hd 38 (by decide)) rfl (fun _ h => h); exact opG_noU rfl rfl e33 (dskip hS rfl), ?_⟩
           refine ⟨fun a w hA hS hd => by have e33 := has_ev (hd 33 (by decide)) rfl (fun _ h => h); exact opG_noU rfl rfl e33 (dskip hS rfl), ?_⟩
           refine ⟨fun a w hA hS hd => by have e33 := has_ev (hd 33 (by decide)) rfl (fun _ h => h); have e40 := has_ev (hd 40 (by decide)) rfl (fun _ h => h); exact opG_noU rfl rfl e33 (dskip hS rfl), ?_⟩
           refine ⟨fun a w hA hS hd => by have e33 := has_ev (hd 33 (by decide)) rfl (fun _ h => h); exact opG_noU rfl rfl e33 (dskip hS rfl), ?_⟩
           refine ⟨fun a w hA hS hd => by have e33 := has_ev (hd 33 (by decide)) rfl (fun _ h => h); have e42 := has_ev (hd 42 (by decide)) rfl (fun _ h => h); exact opG_noU rfl rfl e33 (dskip hS rfl), ?_⟩
           refine ⟨fun a w hA hS hd => by have e33 := has_ev (hd 33 (by decide)) rfl (fun _ h => h); have e41 := has_ev (hd 41 (by decide)) rfl (fun _ h => h); have e43 := has_ev (hd 43 (by decide)) rfl (fun _ h => h); exact opG_noU rfl rfl e33 (dskip hS rfl), ?_⟩
           refine ⟨fun a w hA hS hd => by have e33 := has_ev (hd 33 (by decide)) rfl (fun _ h => h); have e44 := has_ev (hd 44 (by decide)) rfl (fun _ h => h); exact opG_noU rfl rfl e33 (dskip hS rfl), ?_⟩
           refine ⟨fun a w hA hS hd => by have e33 := has_ev (hd 33 (by decide)) rfl (fun _ h => h); have e45 := has_ev (hd 45 (by decide)) rfl (fun _ h => h); exact opG_noU rfl rfl e33 (dskip hS rfl), ?_⟩
           refine ⟨fun a w hA hS hd => by have e33 := has_ev (hd 33 (by decide)) rfl (fun _ h => h); have e39 := has_ev (hd 39 (by decide)) rfl (fun _ h => h); have e46 := has_ev (hd 46 (by decide)) rfl (fun _ h => h); exact opG_noU rfl rfl e33 (dskip hS rfl), ?_⟩
           refine ⟨fun a w hA hS hd => by have e33 := has_ev (hd 33 (by decide)) rfl (fun _ h => h); exact opG_noU rfl rfl e33 (dskip hS rfl), ?_⟩
           trivial
          intro a262 w263 hA264 hS265 hH266; clear hA260 hS130
          have hA267 := hA264.add (has_ev (hH266 2 (by decide)) rfl (fun _ h => h)); clear hA264
          have hA268 := hA267.add (has_ev (hH266 33 (by decide)) rfl (fun _ h => h)); clear hA267
          have hA269 := hA268.add (has_ev (hH266 47 (by decide)) rfl (fun _ h => h)); clear hA268
          have hA270 := hA269.add (has_ev (hH266 48 (by decide)) rfl (fun _ h => h)); clear hA269
          clear hH266
          refine skpU hA270 rfl rfl rfl rfl (by decide) fun a271 hA272 => ?_; clear hA270 a262
          refine skp hA272 rfl rfl rfl rfl rfl (by decide) fun a273 hA274 => ?_; clear hA272 a271
          refine st hA274 (op_pick_f rfl (hA274.ev rfl) (evc _ _)) rfl rfl (by decide) fun a275 hA276 => ?_; clear hA274 a273
          refine wl_nil ?_
          refine then_n ?_
          refine c_false hA276 rfl ?_
          refine c_skip ?_
          refine blk_n ?_
          refine then_n ?_
          have hA277 := hA276.as [(6, (Value.int .i64 (k : Int))), (5, (Value.bool (decide (((t.rows.getD 0 (0, 0)).2) < ((t.rows.getD 1 (0, 0)).2))))), (3, (bptr b4 0))] rfl; clear hA276
          refine c_region ?_
          refine st hA277 (op_move rfl (hA277.ev rfl)) rfl rfl (by decide) fun a278 hA279 => ?_; clear hA277 a275
          refine st hA279 (op_add rfl (hA279.ev rfl) (evc _ _) (by omega) (by omega)) rfl rfl (by decide) fun a280 hA281 => ?_; clear hA279 a278
          refine st hA281 (op_assign rfl (hA281.ev rfl)) rfl rfl (by decide) fun a282 hA283 => ?_; clear hA281 a280
          refine wl_nil ?_
          exact then_n ⟨k + 1, ⟨hA283.as _ rfl, hS265, by omega, (fun i hi => by rcases Nat.lt_succ_iff_lt_or_eq.1 hi with h | h; exact hrw i h; subst h; (unfold rowB; rw [Bool.and_eq_true]; exact ⟨by assumption, by assumption⟩)), (fun i hi => by rcases Nat.lt_succ_iff_lt_or_eq.1 hi with h | h; exact hst i h; subst h; first | (exfalso; omega) | (simp only [pred1] at *; exact neq_y (by omega) (by omega) (by assumption)))⟩, by omega⟩
        ·skip
         rw [hb181] at hA180
         refine c_true hA180 rfl ?_
         refine c_seq ?_
         have hA284 := hA180.as [] rfl; clear hA180
         refine c_region ?_
         refine st hA284 (op_assign rfl (evc _ _)) rfl rfl (by decide) fun a285 hA286 => ?_; clear hA284 a179
         refine wl_nil ?_
         refine then_n ?_
         refine c_ret ?_
         refine then_ret ?_
         refine blk_ret ?_
         refine then_ret ?_
         refine then_ret ?_
         refine blk_ret ?_
         refine then_ret ?_
         refine fin_run hA286 (.inl rfl) (run_results1 hA286 rfl (.tmp rfl)) ?_
         exact ⟨congrArg Value.bool (Eq.symm (by first | exact tab_row (k := k) (by omega) (by unfold rowB; rw [Bool.and_eq_false_iff]; first | exact .inl (by assumption) | exact .inr (by assumption)) | (obtain ⟨i, rfl⟩ := back1 (k := k) (by omega); simp only [pred1] at *; exact tab_step (k := i) (by omega) (by first | exact neq_n (by assumption) | exact step_n (.inl (by omega)) | exact step_n (.inr (.inl (by omega))))))), hS130.ext⟩
       ·skip
        rw [hb161] at hA160
        refine skp hA160 rfl rfl rfl rfl rfl (by decide) fun a287 hA288 => ?_; clear hA160 a159
        refine skp hA288 rfl rfl rfl rfl rfl (by decide) fun a289 hA290 => ?_; clear hA288 a287
        refine skp hA290 rfl rfl rfl rfl rfl (by decide) fun a291 hA292 => ?_; clear hA290 a289
        refine skp hA292 rfl rfl rfl rfl rfl (by decide) fun a293 hA294 => ?_; clear hA292 a291
        refine skp hA294 rfl rfl rfl rfl rfl (by decide) fun a295 hA296 => ?_; clear hA294 a293
        refine skp hA296 rfl rfl rfl rfl rfl (by decide) fun a297 hA298 => ?_; clear hA296 a295
        refine skp hA298 rfl rfl rfl rfl rfl (by decide) fun a299 hA300 => ?_; clear hA298 a297
        refine skp hA300 rfl rfl rfl rfl rfl (by decide) fun a301 hA302 => ?_; clear hA300 a299
        refine st hA302 (op_pick_t rfl (hA302.ev rfl) (evc _ _)) rfl rfl (by decide) fun a303 hA304 => ?_; clear hA302 a301
        refine wl_nil ?_
        refine then_n ?_
        refine c_true hA304 rfl ?_
        refine c_seq ?_
        have hA305 := hA304.as [] rfl; clear hA304
        refine c_region ?_
        refine st hA305 (op_assign rfl (evc _ _)) rfl rfl (by decide) fun a306 hA307 => ?_; clear hA305 a303
        refine wl_nil ?_
        refine then_n ?_
        refine c_ret ?_
        refine then_ret ?_
        refine blk_ret ?_
        refine then_ret ?_
        refine then_ret ?_
        refine blk_ret ?_
        refine then_ret ?_
        refine fin_run hA307 (.inl rfl) (run_results1 hA307 rfl (.tmp rfl)) ?_
        exact ⟨congrArg Value.bool (Eq.symm (by first | exact tab_row (k := k) (by omega) (by unfold rowB; rw [Bool.and_eq_false_iff]; first | exact .inl (by assumption) | exact .inr (by assumption)) | (obtain ⟨i, rfl⟩ := back1 (k := k) (by omega); simp only [pred1] at *; exact tab_step (k := i) (by omega) (by first | exact neq_n (by assumption) | exact step_n (.inl (by omega)) | exact step_n (.inr (.inl (by omega))))))), hS130.ext⟩
      ·skip
       rw [decide_eq_false hb141] at hA140
       refine c_false hA140 rfl ?_
       refine c_exit ?_
       refine then_exit ?_
       refine then_exit ?_
       refine blk_hit ?_
       refine then_n ?_
       refine c_seq ?_
       refine c_seq ?_
       have hA308 := hA140.as [(3, (bptr b4 0))] rfl; clear hA140
       refine c_region ?_
       refine st hA308 (op_assign rfl (evc _ _)) rfl rfl (by decide) fun a309 hA310 => ?_; clear hA308 a139
       refine wl_nil ?_
       refine then_n ?_
       refine c_block ?_
       have hA311 := hA310.as [(7, (Value.int .i64 0)), (3, (bptr b4 0))] rfl; clear hA310
       refine c_loop (G := Nat) (fun (k1 : Nat) a_ w_ => Fr 165 [] [(7, (Value.int .i64 (k1 : Int))), (3, (bptr b4 0))] a_ ∧ Sep NoB w w_ [(blk b4 46 [(Value.int .i64 t.frm), (Value.int .i64 t.dst), vr, vb, (Value.int .i64 t.err)]), (sl vr 2 t.rows.length (pairs t.rows)), (sl vb 1 t.brk.length (ints t.brk))] ∧ (k1 ≤ t.brk.length) ∧ (∀ i, i < k1 → 0 ≤ t.brk.getD i 0) ∧ (∀ i, i < k1 → brkB t i = true)) (fun k1 => t.brk.length - k1) 0 ⟨hA311.as _ rfl, hS130, by omega, (fun _ h => absurd h (Nat.not_lt_zero _)), (fun _ h => absurd h (Nat.not_lt_zero _))⟩ ?_
       clear hA311 hS130 a309
       rintro k1 a312 w314 ⟨hA313, hS315, hkk1, hbk0, hbk⟩
       refine c_seq ?_
       refine c_seq ?_
       refine c_region ?_
       refine st hA313 (op_move rfl (hA313.ev rfl)) rfl rfl (by decide) fun a316 hA317 => ?_; clear hA313 a312
       refine st hA317 (op_field rfl fd_46_3 (hA317.ev rfl)) rfl rfl (by decide) fun a318 hA319 => ?_; clear hA317 a316
       refine st hA319 (op_load1 rfl ty_44 (hA319.ev rfl) (hS315.bk 0 rfl) rfl) rfl rfl (by decide) fun a320 hA321 => ?_; clear hA319 a318
       refine st hA321 (op_lenS rfl un_44 (hA321.ev rfl) (hS315.sk 2 rfl)) rfl rfl (by decide) fun a322 hA323 => ?_; clear hA321 a320
       refine st hA323 (op_lss rfl (hA323.ev rfl) (hA323.ev rfl)) rfl rfl (by decide) fun a324 hA325 => ?_; clear hA323 a322
       refine wl_nil ?_
       refine then_n ?_
       by_cases hb326 : (k1 : Int) < (t.brk.length : Int)
       ·skip
        rw [decide_eq_true hb326] at hA325
        refine c_true hA325 rfl ?_
        refine c_skip ?_
        refine then_n ?_
        refine c_seq ?_
        refine c_block ?_
        refine c_seq ?_
        have hA327 := hA325.as [(7, (Value.int .i64 (k1 : Int))), (3, (bptr b4 0))] rfl; clear hA325
        rcases Bool.eq_false_or_eq_true ((inB (t.brk.getD k1 0) 0 ((t.rows.length : Int) - 2))) with hb329 | hb329
        ·skip
         have hA330 := hA327.as [(7, (Value.int .i64 (k1 : Int))), (3, (bptr b4 0))] rfl; clear hA327
         by_cases hb332 : 0 < (k1 : Int)
         ·skip
          have hA333 := hA330.as [(7, (Value.int .i64 (k1 : Int))), (3, (bptr b4 0))] rfl; clear hA330
          refine c_drawn mixed hA333 hS315 26 [[], [0], [], [1, 2], [3], [], [5], [6], [7], [4, 8], [9], [10], [11], [11, 12], [11, 13], [14], [14, 15], [14], [14, 16, 17], [14, 18], [14], [14, 20], [14], [14, 22], [14, 21, 23], [14, 24]] [(Yd.val (bptr b4 3)), (Yd.val vb), (Yd.val (Value.int .i64 (k1 : Int))), (Yd.val (eptr vb (k1 * 1))), (Yd.val (Value.int .i64 (t.brk.getD k1 0))), (Yd.val (bptr b4 2)), (Yd.val vr), (Yd.val (Value.int .i64 (t.rows.length : Int))), (Yd.val (Value.int .i64 ((t.rows.length : Int) - 2))), (Yd.val (Value.bool true)), (Yd.val (Value.bool (!true))), (Yd.val (Value.bool (!true))), (Yd.val (Value.int .i64 (k1 : Int))), (Yd.val (Value.bool true)), (Yd.val (Value.bool true)), (Yd.val (bptr b4 3)), (Yd.val vb), (Yd.val (Value.int .i64 (k1 : Int))), (Yd.val (eptr vb (k1 * 1))), (Yd.val (Value.int .i64 (t.brk.getD k1 0))), (Yd.val (bptr b4 3)), (Yd.val vb), (Yd.val (Value.int .i64 (k1 : Int))), (Yd.val (Value.int .i64 ((k1 : Int) - 1))), (Yd.val (eptr vb (((k1 : Int) - 1).toNat * 1))), (Yd.val (Value.int .i64 (t.brk.getD (((k1 : Int) - 1).toNat) 0)))] (by decide +kernel) rfl rfl ?_ ?_
          ·skip
           refine ⟨fun a w hA hS hd => by exact opG_of rfl (dv (op_field rfl fd_46_3 (hA.ev rfl)) hS rfl), ?_⟩
           refine ⟨fun a w hA hS hd => by have e0 := has_ev (hd 0 (by decide)) rfl (fun _ h => h); exact opG_of rfl (dv (op_load1 rfl ty_44 (tmp_ev e0) (hS.bk 0 rfl) rfl) hS rfl), ?_⟩
           refine ⟨fun a w hA hS hd => by exact opG_of rfl (dv (op_move rfl (hA.ev rfl)) hS rfl), ?_⟩
           refine ⟨fun a w hA hS hd => by have e1 := has_ev (hd 1 (by decide)) rfl (fun _ h => h); have e2 := has_ev (hd 2 (by decide)) rfl (fun _ h => h); exact opG_of rfl (dv (op_indexS rfl un_44 ty_3 (tmp_ev e1) (i := k1) (tmp_ev e2) (hS.sk 2 rfl) (by decide) (by omega)) hS rfl), ?_⟩
           refine ⟨fun a w hA hS hd => by have e3 := has_ev (hd 3 (by decide)) rfl (fun _ h => h); exact opG_of rfl (dv (op_load1E rfl ty_3 (tmp_ev e3) (hS.sk 2 rfl) (ints_at (by omega))) hS rfl), ?_⟩
           refine ⟨fun a w hA hS hd => by exact opG_of rfl (dv (op_field rfl fd_46_2 (hA.ev rfl)) hS rfl), ?_⟩
           refine ⟨fun a w hA hS hd => by have e5 := has_ev (hd 5 (by decide)) rfl (fun _ h => h); exact opG_of rfl (dv (op_load1 rfl ty_43 (tmp_ev e5) (hS.bk 0 rfl) rfl) hS rfl), ?_⟩
           refine ⟨fun a w hA hS hd => by have e6 := has_ev (hd 6 (by decide)) rfl (fun _ h => h); exact opG_of rfl (dv (op_lenS rfl un_43 (tmp_ev e6) (hS.sk 1 rfl)) hS rfl), ?_⟩
           refine ⟨fun a w hA hS hd => by have e7 := has_ev (hd 7 (by decide)) rfl (fun _ h => h); exact opG_of rfl (dv (op_sub rfl (tmp_ev e7) (evc _ _) (by omega) (by omega)) hS rfl), ?_⟩
           refine ⟨fun a w hA hS hd => by have e4 := has_ev (hd 4 (by decide)) rfl (fun _ h => h); have e8 := has_ev (hd 8 (by decide)) rfl (fun _ h => h); exact opG_of rfl (dv (op_call rfl en_22 (ev3 (tmp_ev e4) (evc _ _) (tmp_ev e8)) (In_ok _ _ _ _)) hS (by show Value.bool _ = _; simp only [hb329, decide_true, decide_false, Bool.not_true, Bool.not_false])), ?_⟩
           refine ⟨fun a w hA hS hd => by have e9 := has_ev (hd 9 (by decide)) rfl (fun _ h => h); exact opG_of rfl (dv (op_not rfl (tmp_ev e9)) hS rfl), ?_⟩
           refine ⟨fun a w hA hS hd => by have e10 := has_ev (hd 10 (by decide)) rfl (fun _ h => h); exact opG_of rfl (dv (op_move rfl (tmp_ev e10)) hS rfl), ?_⟩
           refine ⟨fun a w hA hS hd => by have e11 := has_ev (hd 11 (by decide)) rfl (fun _ h => h); exact opG_yes rfl rfl e11 (dv (op_move rfl (hA.ev rfl)) hS rfl), ?_⟩
           refine ⟨fun a w hA hS hd => by have e11 := has_ev (hd 11 (by decide)) rfl (fun _ h => h); have e12 := has_ev (hd 12 (by decide)) rfl (fun _ h => h); exact opG_yes rfl rfl e11 (dv (op_gtr rfl (tmp_ev e12) (evc _ _)) hS (by show Value.bool _ = _; simp only [decide_eq_true hb332, decide_true, decide_false, Bool.not_true, Bool.not_false])), ?_⟩
           refine ⟨fun a w hA hS hd => by have e11 := has_ev (hd 11 (by decide)) rfl (fun _ h => h); have e13 := has_ev (hd 13 (by decide)) rfl (fun _ h => h); exact opG_yes rfl rfl e11 (dv (op_move rfl (tmp_ev e13)) hS rfl), ?_⟩
           refine ⟨fun a w hA hS hd => by have e14 := has_ev (hd 14 (by decide)) rfl (fun _ h => h); exact opG_yes rfl rfl e14 (dv (op_field rfl fd_46_3 (hA.ev rfl)) hS rfl), ?_⟩
           refine ⟨fun a w hA hS hd => by have e14 := has_ev (hd 14 (by decide)) rfl (fun _ h => h); have e15 := has_ev (hd 15 (by decide)) rfl (fun _ h => h); exact opG_yes rfl rfl e14 (dv (op_load1 rfl ty_44 (tmp_ev e15) (hS.bk 0 rfl) rfl) hS rfl), ?_⟩
           refine ⟨fun a w hA hS hd => by have e14 := has_ev (hd 14 (by decide)) rfl (fun _ h => h); exact opG_yes rfl rfl e14 (dv (op_move rfl (hA.ev rfl)) hS rfl), ?_⟩
           refine ⟨fun a w hA hS hd => by have e14 := has_ev (hd 14 (by decide)) rfl (fun _ h => h); have e16 := has_ev (hd 16 (by decide)) rfl (fun _ h => h); have e17 := has_ev (hd 17 (by decide)) rfl (fun _ h => h); exact opG_yes rfl rfl e14 (dv (op_indexS rfl un_44 ty_3 (tmp_ev e16) (i := k1) (tmp_ev e17) (hS.sk 2 rfl) (by decide) (by omega)) hS rfl), ?_⟩
           refine ⟨fun a w hA hS hd => by have e14 := has_ev (hd 14 (by decide)) rfl (fun _ h => h); have e18 := has_ev (hd 18 (by decide)) rfl (fun _ h => h); exact opG_yes rfl rfl e14 (dv (op_load1E rfl ty_3 (tmp_ev e18) (hS.sk 2 rfl) (ints_at (by omega))) hS rfl), ?_⟩
           refine ⟨fun a w hA hS hd => by have e14 := has_ev (hd 14 (by decide)) rfl (fun _ h => h); exact opG_yes rfl rfl e14 (dv (op_field rfl fd_46_3 (hA.ev rfl)) hS rfl), ?_⟩
           refine ⟨fun a w hA hS hd => by have e14 := has_ev (hd 14 (by decide)) rfl (fun _ h => h); have e20 := has_ev (hd 20 (by decide)) rfl (fun _ h => h); exact opG_yes rfl rfl e14 (dv (op_load1 rfl ty_44 (tmp_ev e20) (hS.bk 0 rfl) rfl) hS rfl), ?_⟩
           refine ⟨fun a w hA hS hd => by have e14 := has_ev (hd 14 (by decide)) rfl (fun _ h => h); exact opG_yes rfl rfl e14 (dv (op_move rfl (hA.ev rfl)) hS rfl), ?_⟩
           refine ⟨fun a w hA hS hd => by have e14 := has_ev (hd 14 (by decide)) rfl (fun _ h => h); have e22 := has_ev (hd 22 (by decide)) rfl (fun _ h => h); exact opG_yes rfl rfl e14 (dv (op_sub rfl (tmp_ev e22) (evc _ _) (by omega) (by omega)) hS rfl), ?_⟩
           refine ⟨fun a w hA hS hd => by have e14 := has_ev (hd 14 (by decide)) rfl (fun _ h => h); have e21 := has_ev (hd 21 (by decide)) rfl (fun _ h => h); have e23 := has_ev (hd 23 (by decide)) rfl (fun _ h => h); exact opG_yes rfl rfl e14 (dv (op_indexS rfl un_44 ty_3 (tmp_ev e21) (i := ((k1 : Int) - 1).toNat) ((tmp_ev e23).trans (int_nat (by omega))) (hS.sk 2 rfl) (by decide) (by omega)) hS rfl), ?_⟩
           refine ⟨fun a w hA hS hd => by have e14 := has_ev (hd 14 (by decide)) rfl (fun _ h => h); have e24 := has_ev (hd 24 (by decide)) rfl (fun _ h => h); exact opG_yes rfl rfl e14 (dv (op_load1E rfl ty_3 (tmp_ev e24) (hS.sk 2 rfl) (ints_at (by omega))) hS rfl), ?_⟩
           trivial
          intro a335 w336 hA337 hS338 hH339; clear hA333 hS315
          have hA340 := hA337.add (has_ev (hH339 11 (by decide)) rfl (fun _ h => h)); clear hA337
          have hA341 := hA340.add (has_ev (hH339 14 (by decide)) rfl (fun _ h => h)); clear hA340
          have hA342 := hA341.add (has_ev (hH339 19 (by decide)) rfl (fun _ h => h)); clear hA341
          have hA343 := hA342.add (has_ev (hH339 25 (by decide)) rfl (fun _ h => h)); clear hA342
          clear hH339
          refine stg hA343 (op_leq rfl (hA343.ev rfl) (hA343.ev rfl)) rfl rfl rfl rfl (by decide) fun a344 hA345 => ?_; clear hA343 a335
          refine stg hA345 (op_pick_t rfl (hA345.ev rfl) (hA345.ev rfl)) rfl rfl rfl rfl (by decide) fun a346 hA347 => ?_; clear hA345 a344
          refine st hA347 (op_pick_f rfl (hA347.ev rfl) (hA347.ev rfl)) rfl rfl (by decide) fun a348 hA349 => ?_; clear hA347 a346
          refine wl_nil ?_
          refine then_n ?_
          by_cases hb350 : (t.brk.getD k1 0) ≤ (t.brk.getD (((k1 : Int) - 1).toNat) 0)
          ·skip
           rw [decide_eq_true hb350] at hA349
           refine c_true hA349 rfl ?_
           refine c_seq ?_
           have hA351 := hA349.as [] rfl; clear hA349
           refine c_region ?_
           refine st hA351 (op_assign rfl (evc _ _)) rfl rfl (by decide) fun a352 hA353 => ?_; clear hA351 a348
           refine wl_nil ?_
           refine then_n ?_
           refine c_ret ?_
           refine blk_ret ?_
           refine then_ret ?_
           refine then_ret ?_
           refine blk_ret ?_
           refine then_ret ?_
           refine fin_run hA353 (.inl rfl) (run_results1 hA353 rfl (.tmp rfl)) ?_
           exact ⟨congrArg Value.bool (Eq.symm (by first | exact tab_brk (k := k1) (by omega) (brk_n (fun j hj => hbk0 j hj) (by assumption)) | (obtain ⟨j, rfl⟩ := back1 (k := k1) (by omega); simp only [pred1] at *; exact tab_brk (k := j + 1) (by omega) (brk_n1 (by omega))))), hS338.ext⟩
          ·skip
           rw [decide_eq_false hb350] at hA349
           refine c_false hA349 rfl ?_
           refine c_skip ?_
           refine blk_n ?_
           refine then_n ?_
           have hA354 := hA349.as [(7, (Value.int .i64 (k1 : Int))), (3, (bptr b4 0))] rfl; clear hA349
           refine c_region ?_
           refine st hA354 (op_move rfl (hA354.ev rfl)) rfl rfl (by decide) fun a355 hA356 => ?_; clear hA354 a348
           refine st hA356 (op_add rfl (hA356.ev rfl) (evc _ _) (by omega) (by omega)) rfl rfl (by decide) fun a357 hA358 => ?_; clear hA356 a355
           refine st hA358 (op_assign rfl (hA358.ev rfl)) rfl rfl (by decide) fun a359 hA360 => ?_; clear hA358 a357
           refine wl_nil ?_
           exact then_n ⟨k1 + 1, ⟨hA360.as _ rfl, hS338, by omega, (fun i hi => by rcases Nat.lt_succ_iff_lt_or_eq.1 hi with h | h; exact hbk0 i h; subst h; (have hz_ := inB_iff.1 (by assumption : inB (t.brk.getD i 0) 0 ((t.rows.length : Int) - 2) = true); omega)), (fun i hi => by rcases Nat.lt_succ_iff_lt_or_eq.1 hi with h | h; exact hbk i h; subst h; (cases i with | zero => exact brk_y0 (by assumption) | succ j => have e5_ : ((((j + 1 : Nat) : Int)) - 1).toNat = j := (by omega); have e6_ : t.brk.getD (((j + 1 : Nat) : Int) - 1).toNat 0 = t.brk.getD j 0 := (by rw [e5_]); exact brk_y1 (by assumption) (by omega)))⟩, by omega⟩
         ·skip
          have hA361 := hA330.as [(7, (Value.int .i64 (k1 : Int))), (3, (bptr b4 0))] rfl; clear hA330
          refine c_drawn mixed hA361 hS315 26 [[], [0], [], [1, 2], [3], [], [5], [6], [7], [4, 8], [9], [10], [11], [11, 12], [11, 13], [14], [14, 15], [14], [14, 16, 17], [14, 18], [14], [14, 20], [14], [14, 22], [14, 21, 23], [14, 24]] [(Yd.val (bptr b4 3)), (Yd.val vb), (Yd.val (Value.int .i64 (k1 : Int))), (Yd.val (eptr vb (k1 * 1))), (Yd.val (Value.int .i64 (t.brk.getD k1 0))), (Yd.val (bptr b4 2)), (Yd.val vr), (Yd.val (Value.int .i64 (t.rows.length : Int))), (Yd.val (Value.int .i64 ((t.rows.length : Int) - 2))), (Yd.val (Value.bool true)), (Yd.val (Value.bool (!true))), (Yd.val (Value.bool (!true))), (Yd.val (Value.int .i64 (k1 : Int))), (Yd.val (Value.bool false)), (Yd.val (Value.bool false)), (Yd.val undef), (Yd.val undef), (Yd.val undef), (Yd.val undef), (Yd.val undef), (Yd.val undef), (Yd.val undef), (Yd.val undef), (Yd.val undef), (Yd.val undef), (Yd.val undef)] (by decide +kernel) rfl rfl ?_ ?_
          ·skip
           refine ⟨fun a w hA hS hd => by exact opG_of rfl (dv (op_field rfl fd_46_3 (hA.ev rfl)) hS rfl), ?_⟩
           refine ⟨fun a w hA hS hd => by have e0 := has_ev (hd 0 (by decide)) rfl (fun _ h => h); exact opG_of rfl (dv (op_load1 rfl ty_44 (tmp_ev e0) (hS.bk 0 rfl) rfl) hS rfl), ?_⟩
           refine ⟨fun a w hA hS hd => by exact opG_of rfl (dv (op_move rfl (hA.ev rfl)) hS rfl), ?_⟩
           refine ⟨fun a w hA hS hd => by have e1 := has_ev (hd 1 (by decide)) rfl (fun _ h => h); have e2 := has_ev (hd 2 (by decide)) rfl (fun _ h => h); exact opG_of rfl (dv (op_indexS rfl un_44 ty_3 (tmp_ev e1) (i := k1) (tmp_ev e2) (hS.sk 2 rfl) (by decide) (by omega)) hS rfl), ?_⟩
           refine ⟨fun a w hA hS hd => by have e3 := has_ev (hd 3 (by decide)) rfl (fun _ h => h); exact opG_of rfl (dv (op_load1E rfl ty_3 (tmp_ev e3) (hS.sk 2 rfl) (ints_at (by omega))) hS rfl), ?_⟩
           refine ⟨fun a w hA hS hd => by exact opG_of rfl (dv (op_field rfl fd_46_2 (hA.ev rfl)) hS rfl), ?_⟩
           refine ⟨fun a w hA hS hd => by have e5 := has_ev (hd 5 (by decide)) rfl (fun _ h => h); exact opG_of rfl (dv (op_load1 rfl ty_43 (tmp_ev e5) (hS.bk 0 rfl) rfl) hS rfl), ?_⟩
           refine ⟨fun a w hA hS hd => by have e6 := has_ev (hd 6 (by decide)) rfl (fun _ h => h); exact opG_of rfl (dv (op_lenS rfl un_43 (tmp_ev e6) (hS.sk 1 rfl)) hS rfl), ?_⟩
           refine ⟨fun a w hA hS hd => by have e7 := has_ev (hd 7 (by decide)) rfl (fun _ h => h); exact opG_of rfl (dv (op_sub rfl (tmp_ev e7) (evc _ _) (by omega) (by omega)) hS rfl), ?_⟩
           refine ⟨fun a w hA hS hd => by have e4 := has_ev (hd 4 (by decide)) rfl (fun _ h => h); have e8 := has_ev (hd 8 (by decide)) rfl (fun _ h => h); exact opG_of rfl (dv (op_call rfl en_22 (ev3 (tmp_ev e4) (evc _ _) (tmp_ev e8)) (In_ok _ _ _ _)) hS (by show Value.bool _ = _; simp only [hb329, decide_true, decide_false, Bool.not_true, Bool.not_false])), ?_⟩
           refine ⟨fun a w hA hS hd => by have e9 := has_ev (hd 9 (by decide)) rfl (fun _ h => h); exact opG_of rfl (dv (op_not rfl (tmp_ev e9)) hS rfl), ?_⟩
           refine ⟨fun a w hA hS hd => by have e10 := has_ev (hd 10 (by decide)) rfl (fun _ h => h); exact opG_of rfl (dv (op_move rfl (tmp_ev e10)) hS rfl), ?_⟩
           refine ⟨fun a w hA hS hd => by have e11 := has_ev (hd 11 (by decide)) rfl (fun _ h => h); exact opG_yes rfl rfl e11 (dv (op_move rfl (hA.ev rfl)) hS rfl), ?_⟩
           refine ⟨fun a w hA hS hd => by have e11 := has_ev (hd 11 (by decide)) rfl (fun _ h => h); have e12 := has_ev (hd 12 (by decide)) rfl (fun _ h => h); exact opG_yes rfl rfl e11 (dv (op_gtr rfl (tmp_ev e12) (evc _ _)) hS (by show Value.bool _ = _; simp only [decide_eq_false hb332, decide_true, decide_false, Bool.not_true, Bool.not_false])), ?_⟩
           refine ⟨fun a w hA hS hd => by have e11 := has_ev (hd 11 (by decide)) rfl (fun _ h => h); have e13 := has_ev (hd 13 (by decide)) rfl (fun _ h => h); exact opG_yes rfl rfl e11 (dv (op_move rfl (tmp_ev e13)) hS rfl), ?_⟩
           refine ⟨fun a w hA hS hd => by have e14 := has_ev (hd 14 (by decide)) rfl (fun _ h => h); exact opG_no rfl rfl e14 rfl (dskip hS rfl), ?_⟩
           refine ⟨fun a w hA hS hd => by have e14 := has_ev (hd 14 (by decide)) rfl (fun _ h => h); have e15 := has_ev (hd 15 (by decide)) rfl (fun _ h => h); exact opG_no rfl rfl e14 rfl (dskip hS rfl), ?_⟩
           refine ⟨fun a w hA hS hd => by have e14 := has_ev (hd 14 (by decide)) rfl (fun _ h => h); exact opG_no rfl rfl e14 rfl (dskip hS rfl), ?_⟩
           refine ⟨fun a w hA hS hd => by have e14 := has_ev (hd 14 (by decide)) rfl (fun _ h => h); have e16 := has_ev (hd 16 (by decide)) rfl (fun _ h => h); have e17 := has_ev (hd 17 (by decide)) rfl (fun _ h => h); exact opG_no rfl rfl e14 rfl (dskip hS rfl), ?_⟩
           refine ⟨fun a w hA hS hd => by have e14 := has_ev (hd 14 (by decide)) rfl (fun _ h => h); have e18 := has_ev (hd 18 (by decide)) rfl (fun _ h => h); exact opG_no rfl rfl e14 rfl (dskip hS rfl), ?_⟩
           refine ⟨fun a w hA hS hd => by have e14 := has_ev (hd 14 (by decide)) rfl (fun _ h => h); exact opG_no rfl rfl e14 rfl (dskip hS rfl), ?_⟩
           refine ⟨fun a w hA hS hd => by have e14 := has_ev (hd 14 (by decide)) rfl (fun _ h => h); have e20 := has_ev (hd 20 (by decide)) rfl (fun _ h => h); exact opG_no rfl rfl e14 rfl (dskip hS rfl), ?_⟩
           refine ⟨fun a w hA hS hd => by have e14 := has_ev (hd 14 (by decide)) rfl (fun _ h => h); exact opG_no rfl rfl e14 rfl (dskip hS rfl), ?_⟩
           refine ⟨fun a w hA hS hd => by have e14 := has_ev (hd 14 (by decide)) rfl (fun _ h => h); have e22 := has_ev (hd 22 (by decide)) rfl (fun _ h => h); exact opG_no rfl rfl e14 rfl (dskip hS rfl), ?_⟩
           refine ⟨fun a w hA hS hd => by have e14 := has_ev (hd 14 (by decide)) rfl (fun _ h => h); have e21 := has_ev (hd 21 (by decide)) rfl (fun _ h => h); have e23 := has_ev (hd 23 (by decide)) rfl (fun _ h => h); exact opG_no rfl rfl e14 rfl (dskip hS rfl), ?_⟩
           refine ⟨fun a w hA hS hd => by have e14 := has_ev (hd 14 (by decide)) rfl (fun _ h => h); have e24 := has_ev (hd 24 (by decide)) rfl (fun _ h => h); exact opG_no rfl rfl e14 rfl (dskip hS rfl), ?_⟩
           trivial
          intro a363 w364 hA365 hS366 hH367; clear hA361 hS315
          have hA368 := hA365.add (has_ev (hH367 11 (by decide)) rfl (fun _ h => h)); clear hA365
          have hA369 := hA368.add (has_ev (hH367 14 (by decide)) rfl (fun _ h => h)); clear hA368
          have hA370 := hA369.add (has_ev (hH367 19 (by decide)) rfl (fun _ h => h)); clear hA369
          have hA371 := hA370.add (has_ev (hH367 25 (by decide)) rfl (fun _ h => h)); clear hA370
          clear hH367
          refine skp hA371 rfl rfl rfl rfl rfl (by decide) fun a372 hA373 => ?_; clear hA371 a363
          refine stg hA373 (op_pick_f rfl (hA373.ev rfl) (evc _ _)) rfl rfl rfl rfl (by decide) fun a374 hA375 => ?_; clear hA373 a372
          refine st hA375 (op_pick_f rfl (hA375.ev rfl) (hA375.ev rfl)) rfl rfl (by decide) fun a376 hA377 => ?_; clear hA375 a374
          refine wl_nil ?_
          refine then_n ?_
          refine c_false hA377 rfl ?_
          refine c_skip ?_
          refine blk_n ?_
          refine then_n ?_
          have hA378 := hA377.as [(7, (Value.int .i64 (k1 : Int))), (3, (bptr b4 0))] rfl; clear hA377
          refine c_region ?_
          refine st hA378 (op_move rfl (hA378.ev rfl)) rfl rfl (by decide) fun a379 hA380 => ?_; clear hA378 a376
          refine st hA380 (op_add rfl (hA380.ev rfl) (evc _ _) (by omega) (by omega)) rfl rfl (by decide) fun a381 hA382 => ?_; clear hA380 a379
          refine st hA382 (op_assign rfl (hA382.ev rfl)) rfl rfl (by decide) fun a383 hA384 => ?_; clear hA382 a381
          refine wl_nil ?_
          exact then_n ⟨k1 + 1, ⟨hA384.as _ rfl, hS366, by omega, (fun i hi => by rcases Nat.lt_succ_iff_lt_or_eq.1 hi with h | h; exact hbk0 i h; subst h; (have hz_ := inB_iff.1 (by assumption : inB (t.brk.getD i 0) 0 ((t.rows.length : Int) - 2) = true); omega)), (fun i hi => by rcases Nat.lt_succ_iff_lt_or_eq.1 hi with h | h; exact hbk i h; subst h; (cases i with | zero => exact brk_y0 (by assumption) | succ j => have e5_ : ((((j + 1 : Nat) : Int)) - 1).toNat = j := (by omega); have e6_ : t.brk.getD (((j + 1 : Nat) : Int) - 1).toNat 0 = t.brk.getD j 0 := (by rw [e5_]); exact brk_y1 (by assumption) (by omega)))⟩, by omega⟩
        ·skip
         have hA385 := hA327.as [(7, (Value.int .i64 (k1 : Int))), (3, (bptr b4 0))] rfl; clear hA327
         refine c_drawn mixed hA385 hS315 26 [[], [0], [], [1, 2], [3], [], [5], [6], [7], [4, 8], [9], [10], [11], [11, 12], [11, 13], [14], [14, 15], [14], [14, 16, 17], [14, 18], [14], [14, 20], [14], [14, 22], [14, 21, 23], [14, 24]] [(Yd.val (bptr b4 3)), (Yd.val vb), (Yd.val (Value.int .i64 (k1 : Int))), (Yd.val (eptr vb (k1 * 1))), (Yd.val (Value.int .i64 (t.brk.getD k1 0))), (Yd.val (bptr b4 2)), (Yd.val vr), (Yd.val (Value.int .i64 (t.rows.length : Int))), (Yd.val (Value.int .i64 ((t.rows.length : Int) - 2))), (Yd.val (Value.bool false)), (Yd.val (Value.bool (!false))), (Yd.val (Value.bool (!false))), (Yd.val undef), (Yd.val undef), (Yd.val undef), (Yd.val undef), (Yd.val undef), (Yd.val undef), (Yd.val undef), (Yd.val undef), (Yd.val undef), (Yd.val undef), (Yd.val undef), (Yd.val undef), (Yd.val undef), (Yd.val undef)] (by decide +kernel) rfl rfl ?_ ?_
         ·skip
          refine ⟨fun a w hA hS hd => by exact opG_of rfl (dv (op_field rfl fd_46_3 (hA.ev rfl)) hS rfl), ?_⟩
          refine ⟨fun a w hA hS hd => by have e0 := has_ev (hd 0 (by decide)) rfl (fun _ h => h); exact opG_of rfl (dv (op_load1 rfl ty_44 (tmp_ev e0) (hS.bk 0 rfl) rfl) hS rfl), ?_⟩
          refine ⟨fun a w hA hS hd => by exact opG_of rfl (dv (op_move rfl (hA.ev rfl)) hS rfl), ?_⟩
          refine ⟨fun a w hA hS hd => by have e1 := has_ev (hd 1 (by decide)) rfl (fun _ h => h); have e2 := has_ev (hd 2 (by decide)) rfl (fun _ h => h); exact opG_of rfl (dv (op_indexS rfl un_44 ty_3 (tmp_ev e1) (i := k1) (tmp_ev e2) (hS.sk 2 rfl) (by decide) (by omega)) hS rfl), ?_⟩
          refine ⟨fun a w hA hS hd => by have e3 := has_ev (hd 3 (by decide)) rfl (fun _ h => h); exact opG_of rfl (dv (op_load1E rfl ty_3 (tmp_ev e3) (hS.sk 2 rfl) (ints_at (by omega))) hS rfl), ?_⟩
          refine ⟨fun a w hA hS hd => by exact opG_of rfl (dv (op_field rfl fd_46_2 (hA.ev rfl)) hS rfl), ?_⟩
          refine ⟨fun a w hA hS hd => by have e5 := has_ev (hd 5 (by decide)) rfl (fun _ h => h); exact opG_of rfl (dv (op_load1 rfl ty_43 (tmp_ev e5) (hS.bk 0 rfl) rfl) hS rfl), ?_⟩
          refine ⟨fun a w hA hS hd => by have e6 := has_ev (hd 6 (by decide)) rfl (fun _ h => h); exact opG_of rfl (dv (op_lenS rfl un_43 (tmp_ev e6) (hS.sk 1 rfl)) hS rfl), ?_⟩
          refine ⟨fun a w hA hS hd => by have e7 := has_ev (hd 7 (by decide)) rfl (fun _ h => h); exact opG_of rfl (dv (op_sub rfl (tmp_ev e7) (evc _ _) (by omega) (by omega)) hS rfl), ?_⟩
          refine ⟨fun a w hA hS hd => by have e4 := has_ev (hd 4 (by decide)) rfl (fun _ h => h); have e8 := has_ev (hd 8 (by decide)) rfl (fun _ h => h); exact opG_of rfl (dv (op_call rfl en_22 (ev3 (tmp_ev e4) (evc _ _) (tmp_ev e8)) (In_ok _ _ _ _)) hS (by show Value.bool _ = _; simp only [hb329, decide_true, decide_false, Bool.not_true, Bool.not_false])), ?_⟩
          refine ⟨fun a w hA hS hd => by have e9 := has_ev (hd 9 (by decide)) rfl (fun _ h => h); exact opG_of rfl (dv (op_not rfl (tmp_ev e9)) hS rfl), ?_⟩
          refine ⟨fun a w hA hS hd => by have e10 := has_ev (hd 10 (by decide)) rfl (fun _ h => h); exact opG_of rfl (dv (op_move rfl (tmp_ev e10)) hS rfl), ?_⟩
          refine ⟨fun a w hA hS hd => by have e11 := has_ev (hd 11 (by decide)) rfl (fun _ h => h); exact opG_no rfl rfl e11 rfl (dskip hS rfl), ?_⟩
          refine ⟨fun a w hA hS hd => by have e11 := has_ev (hd 11 (by decide)) rfl (fun _ h => h); have e12 := has_ev (hd 12 (by decide)) rfl (fun _ h => h); exact opG_no rfl rfl e11 rfl (dskip hS rfl), ?_⟩
          refine ⟨fun a w hA hS hd => by have e11 := has_ev (hd 11 (by decide)) rfl (fun _ h => h); have e13 := has_ev (hd 13 (by decide)) rfl (fun _ h => h); exact opG_no rfl rfl e11 rfl (dskip hS rfl), ?_⟩
          refine ⟨fun a w hA hS hd => by have e14 := has_ev (hd 14 (by decide)) rfl (fun _ h => h); exact opG_noU rfl rfl e14 (dskip hS rfl), ?_⟩
          refine ⟨fun a w hA hS hd => by have e14 := has_ev (hd 14 (by decide)) rfl (fun _ h => h); have e15 := has_ev (hd 15 (by decide)) rfl (fun _ h => h); exact opG_noU rfl rfl e14 (dskip hS rfl), ?_⟩
          refine ⟨fun a w hA hS hd => by have e14 := has_ev (hd 14 (by decide)) rfl (fun _ h => h); exact opG_noU rfl rfl e14 (dskip hS rfl), ?_⟩
          refine ⟨fun a w hA hS hd => by have e14 := has_ev (hd 14 (by decide)) rfl (fun _ h => h); have e16 := has_ev (hd 16 (by decide)) rfl (fun _ h => h); have e17 := has_ev (hd 17 (by decide)) rfl (fun _ h => h); exact opG_noU rfl rfl e14 (dskip hS rfl), ?_⟩
          refine ⟨fun a w hA hS hd => by have e14 := has_ev (hd 14 (by decide)) rfl (fun _ h => h); have e18 := has_ev (hd 18 (by decide)) rfl (fun _ h => h); exact opG_noU rfl rfl e14 (dskip hS rfl), ?_⟩
          refine ⟨fun a w hA hS hd => by have e14 := has_ev (hd 14 (by decide)) rfl (fun _ h => h); exact opG_noU rfl rfl e14 (dskip hS rfl), ?_⟩
          refine ⟨fun a w hA hS hd => by have e14 := has_ev (hd 14 (by decide)) rfl (fun _ h => h); have e20 := has_ev (hd 20 (by decide)) rfl (fun _ h => h); exact opG_noU rfl rfl e14 (dskip hS rfl), ?_⟩
          refine ⟨fun a w hA hS hd => by have e14 := has_ev (hd 14 (by decide)) rfl (fun _ h => h); exact opG_noU rfl rfl e14 (dskip hS rfl), ?_⟩
          refine ⟨fun a w hA hS hd => by have e14 := has_ev (hd 14 (by decide)) rfl (fun _ h => h); have e22 := has_ev (hd 22 (by decide)) rfl (fun _ h => h); exact opG_noU rfl rfl e14 (dskip hS rfl), ?_⟩
          refine ⟨fun a w hA hS hd => by have e14 := has_ev (hd 14 (by decide)) rfl (fun _ h => h); have e21 := has_ev (hd 21 (by decide)) rfl (fun _ h => h); have e23 := has_ev (hd 23 (by decide)) rfl (fun _ h => h); exact opG_noU rfl rfl e14 (dskip hS rfl), ?_⟩
          refine ⟨fun a w hA hS hd => by have e14 := has_ev (hd 14 (by decide)) rfl (fun _ h => h); have e24 := has_ev (hd 24 (by decide)) rfl (fun _ h => h); exact opG_noU rfl rfl e14 (dskip hS rfl), ?_⟩
          trivial
         intro a387 w388 hA389 hS390 hH391; clear hA385 hS315
         have hA392 := hA389.add (has_ev (hH391 11 (by decide)) rfl (fun _ h => h)); clear hA389
         have hA393 := hA392.add (has_ev (hH391 14 (by decide)) rfl (fun _ h => h)); clear hA392
         have hA394 := hA393.add (has_ev (hH391 19 (by decide)) rfl (fun _ h => h)); clear hA393
         have hA395 := hA394.add (has_ev (hH391 25 (by decide)) rfl (fun _ h => h)); clear hA394
         clear hH391
         refine skpU hA395 rfl rfl rfl rfl (by decide) fun a396 hA397 => ?_; clear hA395 a387
         refine skp hA397 rfl rfl rfl rfl rfl (by decide) fun a398 hA399 => ?_; clear hA397 a396
         refine st hA399 (op_pick_t rfl (hA399.ev rfl) (evc _ _)) rfl rfl (by decide) fun a400 hA401 => ?_; clear hA399 a398
         refine wl_nil ?_
         refine then_n ?_
         refine c_true hA401 rfl ?_
         refine c_seq ?_
         have hA402 := hA401.as [] rfl; clear hA401
         refine c_region ?_
         refine st hA402 (op_assign rfl (evc _ _)) rfl rfl (by decide) fun a403 hA404 => ?_; clear hA402 a400
         refine wl_nil ?_
         refine then_n ?_
         refine c_ret ?_
         refine blk_ret ?_
         refine then_ret ?_
         refine then_ret ?_
         refine blk_ret ?_
         refine then_ret ?_
         refine fin_run hA404 (.inl rfl) (run_results1 hA404 rfl (.tmp rfl)) ?_
         exact ⟨congrArg Value.bool (Eq.symm (by first | exact tab_brk (k := k1) (by omega) (brk_n (fun j hj => hbk0 j hj) (by assumption)) | (obtain ⟨j, rfl⟩ := back1 (k := k1) (by omega); simp only [pred1] at *; exact tab_brk (k := j + 1) (by omega) (brk_n1 (by omega))))), hS390.ext⟩
       ·skip
        rw [decide_eq_false hb326] at hA325
        refine c_false hA325 rfl ?_
        refine c_exit ?_
        refine then_exit ?_
        refine then_exit ?_
        refine blk_hit ?_
        refine then_n ?_
        refine c_seq ?_
        have hA405 := hA325.as [] rfl; clear hA325
        refine c_region ?_
        refine st hA405 (op_assign rfl (evc _ _)) rfl rfl (by decide) fun a406 hA407 => ?_; clear hA405 a324
        refine wl_nil ?_
        refine then_n ?_
        refine c_ret ?_
        refine fin_run hA407 (.inl rfl) (run_results1 hA407 rfl (.tmp rfl)) ?_
        exact ⟨congrArg Value.bool (Eq.symm (tabB_iff.2 ⟨by assumption, by assumption, by assumption, by assumption, by omega, fun i hi => hrw i (by omega), fun i hi => hst i (by omega), fun i hi => hbk i (by omega)⟩)), hS315.ext⟩
    ·skip
     rw [hb95] at hA94
     refine skp hA94 rfl rfl rfl rfl rfl (by decide) fun a408 hA409 => ?_; clear hA94 a93
     refine skp hA409 rfl rfl rfl rfl rfl (by decide) fun a410 hA411 => ?_; clear hA409 a408
     refine skp hA411 rfl rfl rfl rfl rfl (by decide) fun a412 hA413 => ?_; clear hA411 a410
     refine skp hA413 rfl rfl rfl rfl rfl (by decide) fun a414 hA415 => ?_; clear hA413 a412
     refine st hA415 (op_pick_t rfl (hA415.ev rfl) (evc _ _)) rfl rfl (by decide) fun a416 hA417 => ?_; clear hA415 a414
     refine wl_nil ?_
     refine then_n ?_
     refine c_true hA417 rfl ?_
     refine c_seq ?_
     have hA418 := hA417.as [] rfl; clear hA417
     refine c_region ?_
     refine st hA418 (op_assign rfl (evc _ _)) rfl rfl (by decide) fun a419 hA420 => ?_; clear hA418 a416
     refine wl_nil ?_
     refine then_n ?_
     refine c_ret ?_
     refine then_ret ?_
     refine fin_run hA420 (.inl rfl) (run_results1 hA420 rfl (.tmp rfl)) ?_
     exact ⟨congrArg Value.bool (Eq.symm (tab_head (by first | exact .inl (by assumption) | exact .inr (.inl (by assumption)) | exact .inr (.inr (.inl (by assumption))) | exact .inr (.inr (.inr (.inl (by assumption)))) | exact .inr (.inr (.inr (.inr (by omega))))))), hS5.ext⟩
  ·skip
   rw [hb41] at hA40
   refine skp hA40 rfl rfl rfl rfl rfl (by decide) fun a421 hA422 => ?_; clear hA40 a39
   refine skp hA422 rfl rfl rfl rfl rfl (by decide) fun a423 hA424 => ?_; clear hA422 a421
   refine skp hA424 rfl rfl rfl rfl rfl (by decide) fun a425 hA426 => ?_; clear hA424 a423
   refine skp hA426 rfl rfl rfl rfl rfl (by decide) fun a427 hA428 => ?_; clear hA426 a425
   refine skp hA428 rfl rfl rfl rfl rfl (by decide) fun a429 hA430 => ?_; clear hA428 a427
   refine st hA430 (op_pick_t rfl (hA430.ev rfl) (evc _ _)) rfl rfl (by decide) fun a431 hA432 => ?_; clear hA430 a429
   refine st hA432 (op_move rfl (hA432.ev rfl)) rfl rfl (by decide) fun a433 hA434 => ?_; clear hA432 a431
   refine skp hA434 rfl rfl rfl rfl rfl (by decide) fun a435 hA436 => ?_; clear hA434 a433
   refine skp hA436 rfl rfl rfl rfl rfl (by decide) fun a437 hA438 => ?_; clear hA436 a435
   refine skp hA438 rfl rfl rfl rfl rfl (by decide) fun a439 hA440 => ?_; clear hA438 a437
   refine skp hA440 rfl rfl rfl rfl rfl (by decide) fun a441 hA442 => ?_; clear hA440 a439
   refine st hA442 (op_pick_t rfl (hA442.ev rfl) (evc _ _)) rfl rfl (by decide) fun a443 hA444 => ?_; clear hA442 a441
   refine st hA444 (op_move rfl (hA444.ev rfl)) rfl rfl (by decide) fun a445 hA446 => ?_; clear hA444 a443
   refine skp hA446 rfl rfl rfl rfl rfl (by decide) fun a447 hA448 => ?_; clear hA446 a445
   refine skp hA448 rfl rfl rfl rfl rfl (by decide) fun a449 hA450 => ?_; clear hA448 a447
   refine skp hA450 rfl rfl rfl rfl rfl (by decide) fun a451 hA452 => ?_; clear hA450 a449
   refine skp hA452 rfl rfl rfl rfl rfl (by decide) fun a453 hA454 => ?_; clear hA452 a451
   refine st hA454 (op_pick_t rfl (hA454.ev rfl) (evc _ _)) rfl rfl (by decide) fun a455 hA456 => ?_; clear hA454 a453
   refine wl_nil ?_
   refine then_n ?_
   refine c_true hA456 rfl ?_
   refine c_seq ?_
   have hA457 := hA456.as [] rfl; clear hA456
   refine c_region ?_
   refine st hA457 (op_assign rfl (evc _ _)) rfl rfl (by decide) fun a458 hA459 => ?_; clear hA457 a455
   refine wl_nil ?_
   refine then_n ?_
   refine c_ret ?_
   refine then_ret ?_
   refine fin_run hA459 (.inl rfl) (run_results1 hA459 rfl (.tmp rfl)) ?_
   exact ⟨congrArg Value.bool (Eq.symm (tab_head (by first | exact .inl (by assumption) | exact .inr (.inl (by assumption)) | exact .inr (.inr (.inl (by assumption))) | exact .inr (.inr (.inr (.inl (by assumption)))) | exact .inr (.inr (.inr (.inr (by omega))))))), hS5.ext⟩
 ·skip
  rw [hb23] at hA22
  refine skp hA22 rfl rfl rfl rfl rfl (by decide) fun a460 hA461 => ?_; clear hA22 a21
  refine skp hA461 rfl rfl rfl rfl rfl (by decide) fun a462 hA463 => ?_; clear hA461 a460
  refine skp hA463 rfl rfl rfl rfl rfl (by decide) fun a464 hA465 => ?_; clear hA463 a462
  refine skp hA465 rfl rfl rfl rfl rfl (by decide) fun a466 hA467 => ?_; clear hA465 a464
  refine skp hA467 rfl rfl rfl rfl rfl (by decide) fun a468 hA469 => ?_; clear hA467 a466
  refine skp hA469 rfl rfl rfl rfl rfl (by decide) fun a470 hA471 => ?_; clear hA469 a468
  refine st hA471 (op_pick_t rfl (hA471.ev rfl) (evc _ _)) rfl rfl (by decide) fun a472 hA473 => ?_; clear hA471 a470
  refine st hA473 (op_move rfl (hA473.ev rfl)) rfl rfl (by decide) fun a474 hA475 => ?_; clear hA473 a472
  refine skp hA475 rfl rfl rfl rfl rfl (by decide) fun a476 hA477 => ?_; clear hA475 a474
  refine skp hA477 rfl rfl rfl rfl rfl (by decide) fun a478 hA479 => ?_; clear hA477 a476
  refine skp hA479 rfl rfl rfl rfl rfl (by decide) fun a480 hA481 => ?_; clear hA479 a478
  refine skp hA481 rfl rfl rfl rfl rfl (by decide) fun a482 hA483 => ?_; clear hA481 a480
  refine skp hA483 rfl rfl rfl rfl rfl (by decide) fun a484 hA485 => ?_; clear hA483 a482
  refine st hA485 (op_pick_t rfl (hA485.ev rfl) (evc _ _)) rfl rfl (by decide) fun a486 hA487 => ?_; clear hA485 a484
  refine st hA487 (op_move rfl (hA487.ev rfl)) rfl rfl (by decide) fun a488 hA489 => ?_; clear hA487 a486
  refine skp hA489 rfl rfl rfl rfl rfl (by decide) fun a490 hA491 => ?_; clear hA489 a488
  refine skp hA491 rfl rfl rfl rfl rfl (by decide) fun a492 hA493 => ?_; clear hA491 a490
  refine skp hA493 rfl rfl rfl rfl rfl (by decide) fun a494 hA495 => ?_; clear hA493 a492
  refine skp hA495 rfl rfl rfl rfl rfl (by decide) fun a496 hA497 => ?_; clear hA495 a494
  refine st hA497 (op_pick_t rfl (hA497.ev rfl) (evc _ _)) rfl rfl (by decide) fun a498 hA499 => ?_; clear hA497 a496
  refine st hA499 (op_move rfl (hA499.ev rfl)) rfl rfl (by decide) fun a500 hA501 => ?_; clear hA499 a498
  refine skp hA501 rfl rfl rfl rfl rfl (by decide) fun a502 hA503 => ?_; clear hA501 a500
  refine skp hA503 rfl rfl rfl rfl rfl (by decide) fun a504 hA505 => ?_; clear hA503 a502
  refine skp hA505 rfl rfl rfl rfl rfl (by decide) fun a506 hA507 => ?_; clear hA505 a504
  refine skp hA507 rfl rfl rfl rfl rfl (by decide) fun a508 hA509 => ?_; clear hA507 a506
  refine st hA509 (op_pick_t rfl (hA509.ev rfl) (evc _ _)) rfl rfl (by decide) fun a510 hA511 => ?_; clear hA509 a508
  refine wl_nil ?_
  refine then_n ?_
  refine c_true hA511 rfl ?_
  refine c_seq ?_
  have hA512 := hA511.as [] rfl; clear hA511
  refine c_region ?_
  refine st hA512 (op_assign rfl (evc _ _)) rfl rfl (by decide) fun a513 hA514 => ?_; clear hA512 a510
  refine wl_nil ?_
  refine then_n ?_
  refine c_ret ?_
  refine then_ret ?_
  refine fin_run hA514 (.inl rfl) (run_results1 hA514 rfl (.tmp rfl)) ?_
  exact ⟨congrArg Value.bool (Eq.symm (tab_head (by first | exact .inl (by assumption) | exact .inr (.inl (by assumption)) | exact .inr (.inr (.inl (by assumption))) | exact .inr (.inr (.inr (.inl (by assumption)))) | exact .inr (.inr (.inr (.inr (by omega))))))), hS5.ext⟩
end Go.Proofs.Ytohgladndklciaa

namespace Go.Hard
open Go.RowKit Go.Eng
theorem pairs_cutLo (xs : List (Int × Int)) : ((pairs xs).drop (1 * 2)).take ((xs.length - 1) * 2) = pairs (xs.drop 1) := by
  cases xs with
  | nil => rfl
  | cons x xs =>
    show ((pairs (x :: xs)).drop 2).take ((xs.length + 1 - 1) * 2) = pairs xs
    have : (pairs (x :: xs)).drop 2 = pairs xs := rfl
    rw [this, Nat.add_sub_cancel, List.take_of_length_le (by rw [pairs_length]; exact Nat.le_refl _)]
theorem drop_getD {xs : List (Int × Int)} {i : Nat} : (xs.drop 1).getD i (0, 0) = xs.getD (i + 1) (0, 0) := by
  simp [List.getD, Nat.add_comm]
theorem dropP_all {xs : List (Int × Int)} {i : Nat} (h : i < xs.length - 1) : ((pairs (xs.drop 1)).drop (i * 2)).take 2 = [.int .i64 (xs.getD (i + 1) (0, 0)).1, .int .i64 (xs.getD (i + 1) (0, 0)).2] := by
  rw [pairs_all (by rw [List.length_drop]; exact h), drop_getD]
def goodU (t : TabD) (k : Nat) : List Nat := (List.range k).filter fun i => !decide ((i : Int) ∈ t.brk)
def goodF (t : TabD) : List Nat := goodU t (t.rows.length - 1)
theorem good_no {t : TabD} {k : Nat} (h : (k : Int) ∈ t.brk) : goodU t (k + 1) = goodU t k := by
  unfold goodU; rw [List.range_succ, List.filter_append]; simp [h]
theorem good_yes {t : TabD} {k : Nat} (h : ¬ (k : Int) ∈ t.brk) : goodU t (k + 1) = goodU t k ++ [k] := by
  unfold goodU; rw [List.range_succ, List.filter_append]; simp [h]
theorem good_pre {t : TabD} {k m : Nat} (h : k ≤ m) : goodU t k <+: goodU t m := by
  obtain ⟨d, rfl⟩ := Nat.exists_eq_add_of_le h
  unfold goodU
  rw [List.range_add, List.filter_append]
  exact List.prefix_append _ _
theorem good_at {t : TabD} {k m : Nat} (hk : k < m) (h : ¬ (k : Int) ∈ t.brk) : (goodU t k).length < (goodU t m).length ∧ (goodU t m).getD (goodU t k).length 0 = k := by
  obtain ⟨r, e⟩ := good_pre (t := t) (show k + 1 ≤ m by omega)
  rw [good_yes h] at e
  rw [← e]
  constructor
  · simp only [List.length_append, List.length_singleton]; omega
  · simp [List.getD]
theorem good_mem {t : TabD} {m q : Nat} (h : q < (goodU t m).length) : (goodU t m).getD q 0 < m ∧ ¬ (((goodU t m).getD q 0 : Nat) : Int) ∈ t.brk := by
  have hm : (goodU t m).getD q 0 ∈ goodU t m := by
    simp only [List.getD, List.getElem?_eq_getElem h, Option.getD_some]; exact List.getElem_mem h
  generalize (goodU t m).getD q 0 = i at hm
  unfold goodU at hm
  rw [List.mem_filter, List.mem_range] at hm
  exact ⟨hm.1, by simpa using hm.2⟩
theorem good_sorted (t : TabD) (m : Nat) : (goodU t m).Pairwise (· < ·) := by
  unfold goodU
  exact List.Pairwise.filter _ List.pairwise_lt_range
theorem good_before {t : TabD} {m q i : Nat} (hq : q < (goodU t m).length) (hi : i < (goodU t m).getD q 0) (hb : ¬ (i : Int) ∈ t.brk) : ∃ j, j < q ∧ (goodU t m).getD j 0 = i := by
  have him : i ∈ goodU t m := by
    unfold goodU
    have := (good_mem hq).1
    rw [List.mem_filter, List.mem_range]
    exact ⟨by omega, by simpa using hb⟩
  obtain ⟨j, hj, e⟩ := List.getElem_of_mem him
  refine ⟨j, ?_, by simp only [List.getD, List.getElem?_eq_getElem hj, Option.getD_some]; exact e⟩
  rcases Nat.lt_or_ge j q with h | h
  · exact h
  · exfalso
    rcases Nat.lt_or_ge q j with h2 | h2
    · have := List.pairwise_iff_getElem.1 (good_sorted t m) q j hq hj h2
      simp only [List.getD, List.getElem?_eq_getElem hq, Option.getD_some] at hi
      omega
    · obtain rfl : q = j := by omega
      simp only [List.getD, List.getElem?_eq_getElem hq, Option.getD_some] at hi
      omega
theorem made_good {t : TabD} {v : Int} {q : Nat} (hn : ∀ i, i < t.rows.length → ¬ tx t i = v) (hq : q < (goodF t).length) (h : ∀ j, j < q → inPiece t v ((goodF t).getD j 0) = false) (e : inPiece t v ((goodF t).getD q 0) = true) : madeF t v = some (pieceR t v ((goodF t).getD q 0)) := by
  have hg := good_mem hq
  refine made_piece hn (by have := hg.1; unfold goodF; omega) (fun i hi => ?_) e
  by_cases hb : (i : Int) ∈ t.brk
  · exact piece_n (.inr (.inr hb))
  · obtain ⟨j, hj, rfl⟩ := good_before hq hi hb
    exact h j hj
theorem made_goodno {t : TabD} {v : Int} (hn : ∀ i, i < t.rows.length → ¬ tx t i = v) (h : ∀ j, j < (goodF t).length → inPiece t v ((goodF t).getD j 0) = false) : madeF t v = none := by
  refine made_no hn fun i hi => ?_
  by_cases hb : (i : Int) ∈ t.brk
  · exact piece_n (.inr (.inr hb))
  · have := good_at (t := t) (show i < t.rows.length - 1 by omega) hb
    have h2 := h _ this.1
    rw [show (goodF t).getD (goodU t i).length 0 = i from this.2] at h2
    exact h2
theorem good_piece {t : TabD} {v : Int} {q : Nat} (hq : q < (goodF t).length) (h1 : tx t ((goodF t).getD q 0) < v) (h2 : v < tx t ((goodF t).getD q 0 + 1)) : inPiece t v ((goodF t).getD q 0) = true := piece_y h1 h2 (good_mem hq).2
end Go.Hard

namespace Go.Proofs.Ytohgladndklciaa
open Go.RowKit Go.Shelf Go.Eng Go.Hard
theorem ze_107 : (Try.prog.info? 107).bind (·.zero) = some (Value.agg #[(Value.int .i64 0), (Value.int .i64 0)]) := by kernel_rfl
theorem en_122 : ∀ args w, (callFunc 122 args).run Try.prog w = .ok (.enter 122 args) w := enters_of Try.func122 (by kernel_rfl) rfl
theorem pieces_it (b1 : Nat) (t : TabD) (vr vb : Value) (hln : 2 ≤ t.rows.length) (hrl : t.rows.length ≤ 1000000) (hbl : t.brk.length ≤ 1000000) :
  IterG Try.prog 121 #[bptr b1 0] nilR [rob b1 106 [.int .i64 t.frm, .int .i64 t.dst, vr, vb, .int .i64 t.err], sl vr 2 t.rows.length (pairs t.rows), sl vb 1 t.brk.length (ints t.brk)] (goodF t).length (fun q => #[.agg #[.int .i64 (t.rows.getD ((goodF t).getD q 0) (0, 0)).1, .int .i64 (t.rows.getD ((goodF t).getD q 0) (0, 0)).2], .agg #[.int .i64 (t.rows.getD ((goodF t).getD q 0 + 1) (0, 0)).1, .int .i64 (t.rows.getD ((goodF t).getD q 0 + 1) (0, 0)).2]]) := by
 intro l J Jx W hJ hJx hD hDx h0 hy
 refine calls_enter Try.func121 rfl fun a0 hA0 => ?_
 replace hA0 : Fr 31 [] [(0, (Value.func (.yield l) #[] #[])), (1, (bptr b1 0))] a0 := hA0
 have hS1 : Sep nilR.S W W [nilR, (rob b1 106 [(Value.int .i64 t.frm), (Value.int .i64 t.dst), vr, vb, (Value.int .i64 t.err)]), (sl vr 2 t.rows.length (pairs t.rows)), (sl vb 1 t.brk.length (ints t.brk))] := (hD _ _ _ h0).2
 refine c_seq ?_
 refine c_region ?_
 refine st hA0 (op_field rfl fd_106_2 (hA0.ev rfl)) rfl rfl (by decide) fun a2 hA3 => ?_; clear hA0 a0
 refine st hA3 (op_load1 rfl ty_104 (hA3.ev rfl) (hS1.rk 1 rfl) rfl) rfl rfl (by decide) fun a4 hA5 => ?_; clear hA3 a2
 refine st hA5 (op_sliceLo rfl un_104 ty_107 (hA5.ev rfl) (l := 1) (show _ = Value.int .i64 ((1 : Nat) : Int) from (evc _ _)) (hS1.sk 2 rfl) (by omega)) rfl rfl (by decide) fun a6 hA7 => ?_; clear hA5 a4
 refine st hA7 (op_lenS rfl un_104 (hA7.ev rfl) (SlAt.say (n' := (t.rows.length - 1)) (cs' := (pairs (t.rows.drop 1))) (SlAt.cut (hS1.sk 2 rfl) (by omega) (Nat.le_refl _)) rfl (pairs_cutLo _))) rfl rfl (by decide) fun a8 hA9 => ?_; clear hA7 a6
 refine st hA9 (op_move rfl (evc _ _)) rfl rfl (by decide) fun a10 hA11 => ?_; clear hA9 a8
 refine wl_nil ?_
 refine then_n ?_
 refine c_block ?_
 have hA12 := hA11.as [(9, (Value.int .i64 0)), (8, (Value.int .i64 (((t.rows.length - 1) : Nat) : Int))), (7, (slcut vr 1 t.rows.length 2)), (0, (Value.func (.yield l) #[] #[])), (1, (bptr b1 0))] rfl; clear hA11
 refine c_loop (G := Nat) (fun (k : Nat) a_ w_ => Fr 31 [] [(9, (Value.int .i64 (k : Int))), (8, (Value.int .i64 (((t.rows.length - 1) : Nat) : Int))), (7, (slcut vr 1 t.rows.length 2)), (0, (Value.func (.yield l) #[] #[])), (1, (bptr b1 0))] a_ ∧ True ∧ (k ≤ t.rows.length - 1) ∧ (J (goodU t k).length nilR w_)) (fun k => t.rows.length - k) 0 ⟨hA12.as _ rfl, trivial, by omega, (hJ _ _ _ _ _ h0 (Sep.keep hS1 [0] (by decide) _ rfl rfl) rfl)⟩ ?_
 clear hA12 hS1 a10
 rintro k a13 w15 ⟨hA14, hS16, hk, hj⟩
 clear hS16
 have hS17 : Sep nilR.S w15 w15 [nilR, (rob b1 106 [(Value.int .i64 t.frm), (Value.int .i64 t.dst), vr, vb, (Value.int .i64 t.err)]), (sl vr 2 t.rows.length (pairs t.rows)), (sl vb 1 t.brk.length (ints t.brk))] := (hD _ _ _ hj).2
 refine c_seq ?_
 refine c_region ?_
 refine st hA14 (op_lss rfl (hA14.ev rfl) (hA14.ev rfl)) rfl rfl (by decide) fun a18 hA19 => ?_; clear hA14 a13
 refine wl_nil ?_
 refine then_n ?_
 refine c_seq ?_
 by_cases hb20 : (k : Int) < (((t.rows.length - 1) : Nat) : Int)
 ·skip
  rw [decide_eq_true hb20] at hA19
  refine c_true hA19 rfl ?_
  refine c_skip ?_
  refine then_n ?_
  refine c_seq ?_
  refine c_block ?_
  refine c_seq ?_
  refine c_region ?_
  refine st hA19 (op_move rfl (hA19.ev rfl)) rfl rfl (by decide) fun a21 hA22 => ?_; clear hA19 a18
  refine st hA22 (op_indexS rfl un_104 ty_107 (hA22.ev rfl) (i := k) (hA22.ev rfl) (SlAt.say (n' := (t.rows.length - 1)) (cs' := (pairs (t.rows.drop 1))) (SlAt.cut (hS17.sk 2 rfl) (by omega) (Nat.le_refl _)) rfl (pairs_cutLo _)) (by decide) (by omega)) rfl rfl (by decide) fun a23 hA24 => ?_; clear hA22 a21
  refine st hA24 (op_loadAE rfl ty_107 (hA24.ev rfl) (SlAt.say (n' := (t.rows.length - 1)) (cs' := (pairs (t.rows.drop 1))) (SlAt.cut (hS17.sk 2 rfl) (by omega) (Nat.le_refl _)) rfl (pairs_cutLo _)) (dropP_all (by omega)) rfl (by decide)) rfl rfl (by decide) fun a25 hA26 => ?_; clear hA24 a23
  refine stw hA26 (op_alloc hS17 rfl ze_107 (cs := [(Value.int .i64 0), (Value.int .i64 0)]) rfl) rfl rfl (by decide) ?_
  rintro a27 _ w29 ⟨b30, rfl, hS31⟩ hA28; clear hA26 hS17 a25
  refine st hA28 (op_assign rfl (hA28.ev rfl)) rfl rfl (by decide) fun a32 hA33 => ?_; clear hA28 a27
  refine sts hA33 (op_store hS31 rfl ty_107 (hA33.ev rfl) (hA33.ev rfl) (i := 0) rfl (vs := [(Value.int .i64 ((t.rows.getD (k + 1) (0, 0)).1)), (Value.int .i64 ((t.rows.getD (k + 1) (0, 0)).2))]) rfl rfl rfl (Nat.le_of_ble_eq_true rfl)) rfl rfl ?_
  intro _ w34 hS35 hA36; clear hA33
  have hS37 : Sep nilR.S w15 w34 [(blk b30 107 [(Value.int .i64 ((t.rows.getD (k + 1) (0, 0)).1)), (Value.int .i64 ((t.rows.getD (k + 1) (0, 0)).2))]), nilR, (rob b1 106 [(Value.int .i64 t.frm), (Value.int .i64 t.dst), vr, vb, (Value.int .i64 t.err)]), (sl vr 2 t.rows.length (pairs t.rows)), (sl vb 1 t.brk.length (ints t.brk))] := hS35; clear hS35 hS31
  refine wl_nil ?_
  refine then_n ?_
  refine c_seq ?_
  have hA38 := hA36.as [(3, (Value.int .i64 (k : Int))), (4, (bptr b30 0)), (9, (Value.int .i64 (k : Int))), (8, (Value.int .i64 (((t.rows.length - 1) : Nat) : Int))), (7, (slcut vr 1 t.rows.length 2)), (0, (Value.func (.yield l) #[] #[])), (1, (bptr b1 0))] rfl; clear hA36
  by_cases hb39 : (k : Int) ∈ t.brk
  ·skip
   have hA40 := hA38.as [(3, (Value.int .i64 (k : Int))), (4, (bptr b30 0)), (9, (Value.int .i64 (k : Int))), (8, (Value.int .i64 (((t.rows.length - 1) : Nat) : Int))), (7, (slcut vr 1 t.rows.length 2)), (0, (Value.func (.yield l) #[] #[])), (1, (bptr b1 0))] rfl; clear hA38
   refine c_drawn mixed hA40 hS37 13 [[], [0], [], [1, 2], [3], [4], [5], [5], [5, 7], [5], [5, 8, 9], [5, 10], [5]] [(Yd.val (bptr b1 3)), (Yd.val vb), (Yd.val (Value.int .i64 (k : Int))), (Yd.val (Value.bool true)), (Yd.val (Value.bool (!true))), (Yd.val (Value.bool (!true))), (Yd.val undef), (Yd.val undef), (Yd.val undef), (Yd.val undef), (Yd.val undef), (Yd.val undef), (Yd.val undef)] (by decide +kernel) rfl rfl ?_ ?_
   ·skip
    refine ⟨fun a w hA hS hd => ?_, ?_⟩
    ·skip
     exact opG_of rfl (dv (op_field rfl fd_106_3 (hA.ev rfl)) hS rfl)
    refine ⟨fun a w hA hS hd => ?_, ?_⟩
    ·skip
     have e0 := has_ev (hd 0 (by decide)) rfl (fun _ h => h)
     exact opG_of rfl (dv (op_load1 rfl ty_44 (tmp_ev e0) (hS.rk 2 rfl) rfl) hS rfl)
    refine ⟨fun a w hA hS hd => ?_, ?_⟩
    ·skip
     exact opG_of rfl (dv (op_move rfl (hA.ev rfl)) hS rfl)
    refine ⟨fun a w hA hS hd => ?_, ?_⟩
    ·skip
     have e1 := has_ev (hd 1 (by decide)) rfl (fun _ h => h)
     have e2 := has_ev (hd 2 (by decide)) rfl (fun _ h => h)
     exact opG_of rfl (dx (op_call rfl en_122 (ev2 (tmp_ev e1) (tmp_ev e2)) (contains_ok t.brk (k : Int) _ _ (hS.sk 4 rfl) (by omega))) hS (fun _ => (by show Value.bool _ = _; simp [hb39])))
    refine ⟨fun a w hA hS hd => ?_, ?_⟩
    ·skip
     have e3 := has_ev (hd 3 (by decide)) rfl (fun _ h => h)
     exact opG_of rfl (dv (op_not rfl (tmp_ev e3)) hS rfl)
    refine ⟨fun a w hA hS hd => ?_, ?_⟩
    ·skip
     have e4 := has_ev (hd 4 (by decide)) rfl (fun _ h => h)
     exact opG_of rfl (dv (op_move rfl (tmp_ev e4)) hS rfl)
    refine ⟨fun a w hA hS hd => ?_, ?_⟩
    ·skip
     have e5 := has_ev (hd 5 (by decide)) rfl (fun _ h => h)
     exact opG_no rfl rfl e5 rfl (dskip hS rfl)
    refine ⟨fun a w hA hS hd => ?_, ?_⟩
    ·skip
     have e5 := has_ev (hd 5 (by decide)) rfl (fun _ h => h)
     exact opG_no rfl rfl e5 rfl (dskip hS rfl)
    refine ⟨fun a w hA hS hd => ?_, ?_⟩
    ·skip
     have e5 := has_ev (hd 5 (by decide)) rfl (fun _ h => h)
     have e7 := has_ev (hd 7 (by decide)) rfl (fun _ h => h)
     exact opG_no rfl rfl e5 rfl (dskip hS rfl)
    refine ⟨fun a w hA hS hd => ?_, ?_⟩
    ·skip
     have e5 := has_ev (hd 5 (by decide)) rfl (fun _ h => h)
     exact opG_no rfl rfl e5 rfl (dskip hS rfl)
    refine ⟨fun a w hA hS hd => ?_, ?_⟩
    ·skip
     have e5 := has_ev (hd 5 (by decide)) rfl (fun _ h => h)
     have e8 := has_ev (hd 8 (by decide)) rfl (fun _ h => h)
     have e9 := has_ev (hd 9 (by decide)) rfl (fun _ h => h)
     exact opG_no rfl rfl e5 rfl (dskip hS rfl)
    refine ⟨fun a w hA hS hd => ?_, ?_⟩
    ·skip
     have e5 := has_ev (hd 5 (by decide)) rfl (fun _ h => h)
     have e10 := has_ev (hd 10 (by decide)) rfl (fun _ h => h)
     exact opG_no rfl rfl e5 rfl (dskip hS rfl)
    refine ⟨fun a w hA hS hd => ?_, ?_⟩
    ·skip
     have e5 := has_ev (hd 5 (by decide)) rfl (fun _ h => h)
     exact opG_no rfl rfl e5 rfl (dskip hS rfl)
    trivial
   intro a41 w42 hA43 hS44 hH45; clear hA40 hS37
   have hA47 := hA43.add (has_ev (hH45 5 (by decide)) rfl (fun _ h => h)); clear hA43
   have hA48 := hA47.add (has_ev (hH45 6 (by decide)) rfl (fun _ h => h)); clear hA47
   have hA49 := hA48.add (has_ev (hH45 11 (by decide)) rfl (fun _ h => h)); clear hA48
   have hA50 := hA49.add (has_ev (hH45 12 (by decide)) rfl (fun _ h => h)); clear hA49
   clear hH45
   refine skp hA50 rfl rfl rfl rfl rfl (by decide) fun a51 hA52 => ?_; clear hA50 a41
   refine skp hA52 rfl rfl rfl rfl rfl (by decide) fun a53 hA54 => ?_; clear hA52 a51
   refine st hA54 (op_pick_f rfl (hA54.ev rfl) (evc _ _)) rfl rfl (by decide) fun a55 hA56 => ?_; clear hA54 a53
   refine wl_nil ?_
   refine then_n ?_
   refine c_false hA56 rfl ?_
   refine c_skip ?_
   refine blk_n ?_
   refine then_n ?_
   have hA57 := hA56.as [(9, (Value.int .i64 (k : Int))), (8, (Value.int .i64 (((t.rows.length - 1) : Nat) : Int))), (7, (slcut vr 1 t.rows.length 2)), (0, (Value.func (.yield l) #[] #[])), (1, (bptr b1 0))] rfl; clear hA56
   refine c_region ?_
   refine st hA57 (op_add rfl (hA57.ev rfl) (evc _ _) (by omega) (by omega)) rfl rfl (by decide) fun a58 hA59 => ?_; clear hA57 a55
   refine st hA59 (op_move rfl (hA59.ev rfl)) rfl rfl (by decide) fun a60 hA61 => ?_; clear hA59 a58
   refine wl_nil ?_
   exact then_n ⟨k + 1, ⟨hA61.as _ rfl, trivial, by omega, (by rw [good_no (by assumption)]; exact (hJ _ _ _ _ _ hj (Sep.keep hS44 [1] (by decide) _ rfl rfl) rfl))⟩, by omega⟩
  ·skip
   have hA62 := hA38.as [(3, (Value.int .i64 (k : Int))), (4, (bptr b30 0)), (9, (Value.int .i64 (k : Int))), (8, (Value.int .i64 (((t.rows.length - 1) : Nat) : Int))), (7, (slcut vr 1 t.rows.length 2)), (0, (Value.func (.yield l) #[] #[])), (1, (bptr b1 0))] rfl; clear hA38
   refine c_drawn mixed hA62 hS37 13 [[], [0], [], [1, 2], [3], [4], [5], [5], [5, 7], [5], [5, 8, 9], [5, 10], [5]] [(Yd.val (bptr b1 3)), (Yd.val vb), (Yd.val (Value.int .i64 (k : Int))), (Yd.val (Value.bool false)), (Yd.val (Value.bool (!false))), (Yd.val (Value.bool (!false))), (Yd.val (Value.func (.yield l) #[] #[])), (Yd.val (bptr b1 2)), (Yd.val vr), (Yd.val (Value.int .i64 (k : Int))), (Yd.val (eptr vr (k * 2))), (Yd.val (Value.agg #[(Value.int .i64 ((t.rows.getD k (0, 0)).1)), (Value.int .i64 ((t.rows.getD k (0, 0)).2))])), (Yd.val (Value.agg #[(Value.int .i64 ((t.rows.getD (k + 1) (0, 0)).1)), (Value.int .i64 ((t.rows.getD (k + 1) (0, 0)).2))]))] (by decide +kernel) rfl rfl ?_ ?_
   ·skip
    refine ⟨fun a w hA hS hd => ?_, ?_⟩
    ·skip
     exact opG_of rfl (dv (op_field rfl fd_106_3 (hA.ev rfl)) hS rfl)
    refine ⟨fun a w hA hS hd => ?_, ?_⟩
    ·skip
     have e0 := has_ev (hd 0 (by decide)) rfl (fun _ h => h)
     exact opG_of rfl (dv (op_load1 rfl ty_44 (tmp_ev e0) (hS.rk 2 rfl) rfl) hS rfl)
    refine ⟨fun a w hA hS hd => ?_, ?_⟩
    ·skip
     exact opG_of rfl (dv (op_move rfl (hA.ev rfl)) hS rfl)
    refine ⟨fun a w hA hS hd => ?_, ?_⟩
    ·skip
     have e1 := has_ev (hd 1 (by decide)) rfl (fun _ h => h)
     have e2 := has_ev (hd 2 (by decide)) rfl (fun _ h => h)
     exact opG_of rfl (dx (op_call rfl en_122 (ev2 (tmp_ev e1) (tmp_ev e2)) (contains_ok t.brk (k : Int) _ _ (hS.sk 4 rfl) (by omega))) hS (fun _ => (by show Value.bool _ = _; simp [hb39])))
    refine ⟨fun a w hA hS hd => ?_, ?_⟩
    ·skip
     have e3 := has_ev (hd 3 (by decide)) rfl (fun _ h => h)
     exact opG_of rfl (dv (op_not rfl (tmp_ev e3)) hS rfl)
    refine ⟨fun a w hA hS hd => ?_, ?_⟩
    ·skip
     have e4 := has_ev (hd 4 (by decide)) rfl (fun _ h => h)
     exact opG_of rfl (dv (op_move rfl (tmp_ev e4)) hS rfl)
    refine ⟨fun a w hA hS hd => ?_, ?_⟩
    ·skip
     have e5 := has_ev (hd 5 (by decide)) rfl (fun _ h => h)
     exact opG_yes rfl rfl e5 (dv (op_move rfl (hA.ev rfl)) hS rfl)
    refine ⟨fun a w hA hS hd => ?_, ?_⟩
    ·skip
     have e5 := has_ev (hd 5 (by decide)) rfl (fun _ h => h)
     exact opG_yes rfl rfl e5 (dv (op_field rfl fd_106_2 (hA.ev rfl)) hS rfl)
    refine ⟨fun a w hA hS hd => ?_, ?_⟩
    ·skip
     have e5 := has_ev (hd 5 (by decide)) rfl (fun _ h => h)
     have e7 := has_ev (hd 7 (by decide)) rfl (fun _ h => h)
     exact opG_yes rfl rfl e5 (dv (op_load1 rfl ty_104 (tmp_ev e7) (hS.rk 2 rfl) rfl) hS rfl)
    refine ⟨fun a w hA hS hd => ?_, ?_⟩
    ·skip
     have e5 := has_ev (hd 5 (by decide)) rfl (fun _ h => h)
     exact opG_yes rfl rfl e5 (dv (op_move rfl (hA.ev rfl)) hS rfl)
    refine ⟨fun a w hA hS hd => ?_, ?_⟩
    ·skip
     have e5 := has_ev (hd 5 (by decide)) rfl (fun _ h => h)
     have e8 := has_ev (hd 8 (by decide)) rfl (fun _ h => h)
     have e9 := has_ev (hd 9 (by decide)) rfl (fun _ h => h)
     exact opG_yes rfl rfl e5 (dv (op_indexS rfl un_104 ty_107 (tmp_ev e8) (i := k) (tmp_ev e9) (hS.sk 3 rfl) (by decide) (by omega)) hS rfl)
    refine ⟨fun a w hA hS hd => ?_, ?_⟩
    ·skip
     have e5 := has_ev (hd 5 (by decide)) rfl (fun _ h => h)
     have e10 := has_ev (hd 10 (by decide)) rfl (fun _ h => h)
     exact opG_yes rfl rfl e5 (dv (op_loadAE rfl ty_107 (tmp_ev e10) (hS.sk 3 rfl) (pairs_all (by omega)) rfl (by decide)) hS rfl)
    refine ⟨fun a w hA hS hd => ?_, ?_⟩
    ·skip
     have e5 := has_ev (hd 5 (by decide)) rfl (fun _ h => h)
     exact opG_yes rfl rfl e5 (dv (op_loadA rfl ty_107 (hA.ev rfl) (hS.bk 0 rfl) (l := [(Value.int .i64 ((t.rows.getD (k + 1) (0, 0)).1)), (Value.int .i64 ((t.rows.getD (k + 1) (0, 0)).2))]) rfl rfl) hS rfl)
    trivial
   intro a63 w64 hA65 hS66 hH67; clear hA62 hS37
   have hA69 := hA65.add (has_ev (hH67 5 (by decide)) rfl (fun _ h => h)); clear hA65
   have hA70 := hA69.add (has_ev (hH67 6 (by decide)) rfl (fun _ h => h)); clear hA69
   have hA71 := hA70.add (has_ev (hH67 11 (by decide)) rfl (fun _ h => h)); clear hA70
   have hA72 := hA71.add (has_ev (hH67 12 (by decide)) rfl (fun _ h => h)); clear hA71
   clear hH67
   have he79 := good_at (t := t) (m := t.rows.length - 1) (k := k) (by omega) (by assumption)
   refine stwg hA72 (op_yield rfl (hA72.ev rfl) (ev2 (hA72.ev rfl) (hA72.ev rfl)) (by have hz := hy (goodU t k).length he79.1 _ _ (hJ _ _ _ _ _ hj (Sep.keep hS66 [1] (by decide) _ rfl rfl) rfl); dsimp only at hz; rw [show (goodF t).getD (goodU t k).length 0 = k from he79.2] at hz; exact hz)) rfl rfl rfl rfl (by decide) ?_
   rintro a73 v78 w75 hv76 hA74; clear hA72 hS66 a63
   rcases hv76 with ⟨rfl, hj77⟩ | ⟨rfl, hj77⟩
   ·skip
    refine stg hA74 (op_not rfl (hA74.ev rfl)) rfl rfl rfl rfl (by decide) fun a80 hA81 => ?_; clear hA74 a73
    refine st hA81 (op_pick_t rfl (hA81.ev rfl) (hA81.ev rfl)) rfl rfl (by decide) fun a82 hA83 => ?_; clear hA81 a80
    refine wl_nil ?_
    refine then_n ?_
    refine c_false hA83 rfl ?_
    refine c_skip ?_
    refine blk_n ?_
    refine then_n ?_
    have hA84 := hA83.as [(9, (Value.int .i64 (k : Int))), (8, (Value.int .i64 (((t.rows.length - 1) : Nat) : Int))), (7, (slcut vr 1 t.rows.length 2)), (0, (Value.func (.yield l) #[] #[])), (1, (bptr b1 0))] rfl; clear hA83
    refine c_region ?_
    refine st hA84 (op_add rfl (hA84.ev rfl) (evc _ _) (by omega) (by omega)) rfl rfl (by decide) fun a85 hA86 => ?_; clear hA84 a82
    refine st hA86 (op_move rfl (hA86.ev rfl)) rfl rfl (by decide) fun a87 hA88 => ?_; clear hA86 a85
    refine wl_nil ?_
    exact then_n ⟨k + 1, ⟨hA88.as _ rfl, trivial, by omega, (by rw [good_yes (by assumption), List.length_append, List.length_singleton]; exact hj77)⟩, by omega⟩
   ·skip
    refine stg hA74 (op_not rfl (hA74.ev rfl)) rfl rfl rfl rfl (by decide) fun a89 hA90 => ?_; clear hA74 a73
    refine st hA90 (op_pick_t rfl (hA90.ev rfl) (hA90.ev rfl)) rfl rfl (by decide) fun a91 hA92 => ?_; clear hA90 a89
    refine wl_nil ?_
    refine then_n ?_
    refine c_true hA92 rfl ?_
    refine c_ret ?_
    refine blk_ret ?_
    refine then_ret ?_
    refine then_ret ?_
    refine blk_ret ?_
    refine fin_run hA92 (.inl rfl) (run_results0 rfl _) ?_
    exact .inr ⟨_, hj77⟩
 ·skip
  rw [decide_eq_false hb20] at hA19
  refine c_false hA19 rfl ?_
  refine c_exit ?_
  refine then_exit ?_
  refine then_exit ?_
  refine blk_hit ?_
  refine fin_run hA19 (.inr rfl) (run_results0 rfl _) ?_
  exact .inl (by have hz := (hJ _ _ _ _ _ hj (Sep.keep hS17 [0] (by decide) _ rfl rfl) rfl); rw [show k = t.rows.length - 1 by omega] at hz; exact hz)
theorem pieces_ok (t : TabD) (vr vb : Value) (w : World) (h1_ : vr.oneCell' = true) (h2_ : vb.oneCell' = true) :
  Calls Try.prog 116 #[(Value.agg #[(Value.int .i64 t.frm), (Value.int .i64 t.dst), vr, vb, (Value.int .i64 t.err)])] w (Ret fun v w' => ∃ b1, v = .func (.func 121) #[] #[bptr b1 0] ∧ Sep NoB w w' [blk b1 106 [.int .i64 t.frm, .int .i64 t.dst, vr, vb, .int .i64 t.err]]) := by
 refine calls_enter Try.func116 rfl fun a0 hA0 => ?_
 replace hA0 : Fr 4 [] [(0, (Value.agg #[(Value.int .i64 t.frm), (Value.int .i64 t.dst), vr, vb, (Value.int .i64 t.err)]))] a0 := hA0
 have hS0 : Sep NoB w w [] := Sep.start _ _
 refine c_seq ?_
 refine c_region ?_
 refine stw hA0 (op_box hS0 rfl (hA0.ev rfl) (cs := [(Value.int .i64 t.frm), (Value.int .i64 t.dst), vr, vb, (Value.int .i64 t.err)]) rfl) rfl rfl (by decide) ?_
 rintro a1 _ w3 ⟨b4, rfl, hS5⟩ hA2; clear hA0 hS0 a0
 refine st hA2 (op_assign rfl (evc _ _)) rfl rfl (by decide) fun a6 hA7 => ?_; clear hA2 a1
 refine wl_nil ?_
 refine then_n ?_
 refine c_seq ?_
 refine c_region ?_
 refine st hA7 (op_makeFunc rfl ev0 (ev1 (hA7.ev rfl))) rfl rfl (by decide) fun a8 hA9 => ?_; clear hA7 a6
 refine st hA9 (op_assign rfl (hA9.ev rfl)) rfl rfl (by decide) fun a10 hA11 => ?_; clear hA9 a8
 refine wl_nil ?_
 refine then_n ?_
 refine c_ret ?_
 refine fin_run hA11 (.inl rfl) (run_results1 hA11 rfl (.tmp rfl)) ?_
 exact ⟨_, rfl, hS5⟩
end Go.Proofs.Ytohgladndklciaa
