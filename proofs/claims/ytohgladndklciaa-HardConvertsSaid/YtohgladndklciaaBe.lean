/-
  The chapter's book and what it shows; decided by the kernel.
-/
import Derived.Test.YtohgladndklciaaBd
set_option linter.unusedSimpArgs false
set_option linter.unusedVariables false
namespace Go.Proofs.Ytohgladndklciaa
open Go.RowKit Go.Shelf Go.Eng Go.Hard
theorem ze_37 : (Try.prog.info? 37).bind (·.zero) = some (Value.agg #[(Value.int .i64 0), (Value.slice none 0 0), (Value.slice none 0 0)]) := by kernel_rfl
theorem bd_37_0i (x0_0 : Int) (w : World) : (Instr.build 37 #[(0, (.int .i64 x0_0))]).run Try.prog w = .ok (.agg #[(.int .i64 x0_0), (Value.slice none 0 0), (Value.slice none 0 0)]) w := by kernel_rfl
theorem ze_46 : (Try.prog.info? 46).bind (·.zero) = some (Value.agg #[(Value.int .i64 0), (Value.int .i64 0), (Value.slice none 0 0), (Value.slice none 0 0), (Value.int .i64 0)]) := by kernel_rfl
theorem bd_106_0i_1i_3s_4i (x0_0 : Int) (x1_0 : Int) (x2_0 : Value) (hx2_0 : IsSl x2_0) (x3_0 : Int) (w : World) : (Instr.build 106 #[(0, (.int .i64 x0_0)), (1, (.int .i64 x1_0)), (3, x2_0), (4, (.int .i64 x3_0))]).run Try.prog w = .ok (.agg #[(.int .i64 x0_0), (.int .i64 x1_0), (Value.slice none 0 0), x2_0, (.int .i64 x3_0)]) w := by obtain ⟨Ax2_0, Bx2_0, Cx2_0, rfl⟩ := hx2_0; kernel_rfl
theorem en_40 : ∀ args w, (callFunc 40 args).run Try.prog w = .ok (.enter 40 args) w := enters_of Try.func40 (by kernel_rfl) rfl
theorem bd_107_0i_1i (x0_0 : Int) (x1_0 : Int) (w : World) : (Instr.build 107 #[(0, (.int .i64 x0_0)), (1, (.int .i64 x1_0))]).run Try.prog w = .ok (.agg #[(.int .i64 x0_0), (.int .i64 x1_0)]) w := by kernel_rfl
theorem bs_107_1_0iia (x0_0 : Int) (x0_1 : Int) : Instr.fill (fun i => some (i * 2, 2)) ((Array.range (1 * 2)).map ((Value.agg #[(Value.int .i64 0), (Value.int .i64 0)]).cells[· % (Value.agg #[(Value.int .i64 0), (Value.int .i64 0)]).cells.size]!)) [(0, .agg #[(.int .i64 x0_0), (.int .i64 x0_1)])] = some (([(.int .i64 x0_0), (.int .i64 x0_1)] : List Value).toArray) := by kernel_rfl
theorem el_107 : elK Try.prog 107 = some ((Value.agg #[(Value.int .i64 0), (Value.int .i64 0)]), 2, 16) := by kernel_rfl
theorem bd_103_0i (x0_0 : Int) (w : World) : (Instr.build 103 #[(0, (.int .i64 x0_0))]).run Try.prog w = .ok (.agg #[(.int .i64 x0_0), (Value.slice none 0 0)]) w := by kernel_rfl
theorem bd_100_0iia_1i (x0_0 : Int) (x0_1 : Int) (x1_0 : Int) (w : World) : (Instr.build 100 #[(0, .agg #[(.int .i64 x0_0), (.int .i64 x0_1)]), (1, (.int .i64 x1_0))]).run Try.prog w = .ok (.agg #[(.int .i64 x0_0), (.int .i64 x0_1), (.int .i64 x1_0)]) w := by kernel_rfl
theorem en_20 : ∀ args w, (callFunc 20 args).run Try.prog w = .ok (.enter 20 args) w := enters_of Try.func20 (by kernel_rfl) rfl
theorem bs_100_1_0iiia (x0_0 : Int) (x0_1 : Int) (x0_2 : Int) : Instr.fill (fun i => some (i * 3, 3)) ((Array.range (1 * 3)).map ((Value.agg #[(Value.int .i64 0), (Value.int .i64 0), (Value.int .i64 0)]).cells[· % (Value.agg #[(Value.int .i64 0), (Value.int .i64 0), (Value.int .i64 0)]).cells.size]!)) [(0, .agg #[(.int .i64 x0_0), (.int .i64 x0_1), (.int .i64 x0_2)])] = some (([(.int .i64 x0_0), (.int .i64 x0_1), (.int .i64 x0_2)] : List Value).toArray) := by kernel_rfl
theorem el_100 : elK Try.prog 100 = some ((Value.agg #[(Value.int .i64 0), (Value.int .i64 0), (Value.int .i64 0)]), 3, 24) := by kernel_rfl
theorem bs_103_1_0iva (x0_0 : Int) (x0_1 : Value) : Instr.fill (fun i => some (i * 2, 2)) ((Array.range (1 * 2)).map ((Value.agg #[(Value.int .i64 0), (Value.slice none 0 0)]).cells[· % (Value.agg #[(Value.int .i64 0), (Value.slice none 0 0)]).cells.size]!)) [(0, .agg #[(.int .i64 x0_0), x0_1])] = some (([(.int .i64 x0_0), x0_1] : List Value).toArray) := by kernel_rfl
theorem el_103 : elK Try.prog 103 = some ((Value.agg #[(Value.int .i64 0), (Value.slice none 0 0)]), 2, 32) := by kernel_rfl
set_option maxHeartbeats 4000000 in
theorem Book_ok (b : BookD) (vt vm : Value) (lr lb lk : Nat → Value) (w : World) (hT : TabsAt w vt lr lb b.tabs) (hM : MacsAt w vm lk b.macs) (hth : ThinB b) :
  Calls Try.prog 19 #[(Value.agg #[(Value.int .i64 b.scales), vt, vm])] w (Ret fun v w' => ∃ vt' vm' lr' lb' lk', v = .agg #[.int .i64 b.scales, vt', vm'] ∧ Sep NoB w w' [tabsR true vt' lr' lb' b.tabs, macsR true vm' lk' b.macs]) := by
 refine calls_enter Try.func19 rfl fun a0 hA0 => ?_
 replace hA0 : Fr 116 [] [(0, (Value.agg #[(Value.int .i64 b.scales), vt, vm]))] a0 := hA0
 have htl9 := hth.tl; have hml9 := hth.ml
 have hS0 : Sep NoB w w [(tabsR false vt lr lb b.tabs), (macsR false vm lk b.macs)] := sep_ro ⟨rfl, hT, rfl, hM, trivial⟩
 refine m2 ?_
 refine s2 hA0 (op_box hS0 rfl (hA0.ev rfl) (cs := [(Value.int .i64 b.scales), vt, vm]) rfl) ?_
 rintro a1 _ w3 ⟨b4, rfl, hS5⟩ hA2; clear hA0 hS0 a0
 refine s2 hA2 (op_alloc hS5 rfl ze_37 (cs := [(Value.int .i64 0), (Value.slice none 0 0), (Value.slice none 0 0)]) rfl) ?_
 rintro a6 _ w8 ⟨b9, rfl, hS10⟩ hA7; clear hA2 hS5 a1
 refine n4 ?_
 refine s1 hA7 (op_field rfl fd_25_0 (hA7.ev rfl)) fun a11 hA12 => ?_; clear hA7 a6
 refine s1 hA12 (op_load1 rfl ty_3 (hA12.ev rfl) (hS10.bk 1 rfl) rfl) fun a13 hA14 => ?_; clear hA12 a11
 refine s1 hA14 (op_build rfl (pv1 (hA14.ev rfl)) (bd_37_0i _)) fun a15 hA16 => ?_; clear hA14 a13
 refine s2 hA16 (op_alloc hS10 rfl ze_37 (cs := [(Value.int .i64 0), (Value.slice none 0 0), (Value.slice none 0 0)]) rfl) ?_
 rintro a17 _ w19 ⟨b20, rfl, hS21⟩ hA18; clear hA16 hS10 a15
 refine s7 hA18 (op_store hS21 rfl ty_37 (hA18.ev rfl) (hA18.ev rfl) (i := 0) rfl (vs := [(Value.int .i64 b.scales), (Value.slice none 0 0), (Value.slice none 0 0)]) rfl rfl (all_c rfl (all_c rfl (all_c rfl all_n))) (Nat.le_of_ble_eq_true rfl)) ?_
 intro _ w22 hS23 hA24; clear hA18
 have hS25 : Sep NoB w w22 [(blk b20 37 [(Value.int .i64 b.scales), (Value.slice none 0 0), (Value.slice none 0 0)]), (blk b9 37 [(Value.int .i64 0), (Value.slice none 0 0), (Value.slice none 0 0)]), (blk b4 25 [(Value.int .i64 b.scales), vt, vm]), (tabsR false vt lr lb b.tabs), (macsR false vm lk b.macs)] := hS23; clear hS23 hS21
 refine n2 ?_
 refine m2 ?_
 refine s1 hA24 (op_assign rfl (evc _ _)) fun a26 hA27 => ?_; clear hA24 a17
 refine n1 ?_
 refine c_block ?_
 have hS28 := sep_sls_nil (sep_sls_nil (hS25.nil_row 106 5) (fun _ => Value.slice none 0 0) 1 (brkN (b.tabs.take 0)) (brkC (b.tabs.take 0))) (fun _ => Value.slice none 0 0) 2 (rowsN (b.tabs.take 0)) (rowsC (b.tabs.take 0)); clear hS25
 have hA29 := hA27.as [(4, (Value.int .i64 0)), (3, (bptr b20 0)), (2, (bptr b9 0)), (1, (bptr b4 0))] rfl; clear hA27
 refine c_loop (G := Nat) (fun (k : Nat) a_ w_ => ∃ vt_ : Value, ∃ lr_ : Nat → Value, ∃ lb_ : Nat → Value, Fr 116 [] [(4, (Value.int .i64 (k : Int))), (3, (bptr b20 0)), (2, (bptr b9 0)), (1, (bptr b4 0))] a_ ∧ Sep NoB w w_ [(slsR true ((b.tabs.take k).length) lr_ 2 (rowsN (b.tabs.take k)) (rowsC (b.tabs.take k))), (slsR true ((b.tabs.take k).length) lb_ 1 (brkN (b.tabs.take k)) (brkC (b.tabs.take k))), (row vt_ 106 5 ((b.tabs.take k).length) (tabsC lr_ lb_ (b.tabs.take k))), (blk b20 37 [(Value.int .i64 b.scales), vt_, (Value.slice none 0 0)]), (blk b9 37 [(Value.int .i64 0), (Value.slice none 0 0), (Value.slice none 0 0)]), (blk b4 25 [(Value.int .i64 b.scales), vt, vm]), (tabsR false vt lr lb b.tabs), (macsR false vm lk b.macs)] ∧ (k ≤ b.tabs.length)) (fun k => b.tabs.length - k) 0 ⟨(Value.slice none 0 0), (fun _ => Value.slice none 0 0), (fun _ => Value.slice none 0 0), hA29.as _ rfl, (hS28.row_say (i := 2) rfl (by rfl) (by rfl)), by omega⟩ ?_
 clear hA29 hS28 a26
 rintro k a30 w32 ⟨vt_, lr_, lb_, hA31, hS33, hk⟩
 have htk : (b.tabs.take k).length = k := by rw [List.length_take]; omega
 refine c_seq ?_
 refine m2 ?_
 refine s1 hA31 (op_move rfl (hA31.ev rfl)) fun a34 hA35 => ?_; clear hA31 a30
 refine s1 hA35 (op_field rfl fd_25_1 (hA35.ev rfl)) fun a36 hA37 => ?_; clear hA35 a34
 refine s1 hA37 (op_load1 rfl ty_22 (hA37.ev rfl) (hS33.bk 5 rfl) rfl) fun a38 hA39 => ?_; clear hA37 a36
 refine s1 hA39 (op_lenS rfl un_22 (hA39.ev rfl) (tabs_at (hS33.ok 6 _ rfl)).tabs) fun a40 hA41 => ?_; clear hA39 a38
 refine s1 hA41 (op_lss rfl (hA41.ev rfl) (hA41.ev rfl)) fun a42 hA43 => ?_; clear hA41 a40
 refine n1 ?_
 by_cases hb44 : (k : Int) < (b.tabs.length : Int)
 ·skip
  rw [decide_eq_true hb44] at hA43
  have htkk := hth.tab k
  refine c_true hA43 rfl ?_
  refine c_skip ?_
  refine then_n ?_
  refine c_seq ?_
  refine c_block ?_
  refine m2 ?_
  refine s1 hA43 (op_field rfl fd_25_1 (hA43.ev rfl)) fun a45 hA46 => ?_; clear hA43 a42
  refine s1 hA46 (op_load1 rfl ty_22 (hA46.ev rfl) (hS33.bk 5 rfl) rfl) fun a47 hA48 => ?_; clear hA46 a45
  refine s1 hA48 (op_move rfl (hA48.ev rfl)) fun a49 hA50 => ?_; clear hA48 a47
  refine s1 hA50 (op_indexS rfl un_22 ty_46 (hA50.ev rfl) (i := k) (hA50.ev rfl) (tabs_at (hS33.ok 6 _ rfl)).tabs (by decide) (by omega)) fun a51 hA52 => ?_; clear hA50 a49
  refine s1 hA52 (op_loadAE rfl ty_46 (hA52.ev rfl) (tabs_at (hS33.ok 6 _ rfl)).tabs (tabs_all (by omega)) rfl (by decide)) fun a53 hA54 => ?_; clear hA52 a51
  refine s2 hA54 (op_alloc hS33 rfl ze_46 (cs := [(Value.int .i64 0), (Value.int .i64 0), (Value.slice none 0 0), (Value.slice none 0 0), (Value.int .i64 0)]) rfl) ?_
  rintro a55 _ w57 ⟨b58, rfl, hS59⟩ hA56; clear hA54 hS33 a53
  refine s7 hA56 (op_store hS59 rfl ty_46 (hA56.ev rfl) (hA56.ev rfl) (i := 0) rfl (vs := [(Value.int .i64 ((b.tabs.getD k tab0).frm)), (Value.int .i64 ((b.tabs.getD k tab0).dst)), (lr k), (lb k), (Value.int .i64 ((b.tabs.getD k tab0).err))]) rfl rfl (all_c rfl (all_c rfl (all_c (SlAt.one ((tabs_at (hS59.ok 7 _ rfl)).row (i := k) (by omega))) (all_c (SlAt.one ((tabs_at (hS59.ok 7 _ rfl)).brk (i := k) (by omega))) (all_c rfl all_n))))) (Nat.le_of_ble_eq_true rfl)) ?_
  intro _ w60 hS61 hA62; clear hA56
  have hS63 : Sep NoB w w60 [(blk b58 46 [(Value.int .i64 ((b.tabs.getD k tab0).frm)), (Value.int .i64 ((b.tabs.getD k tab0).dst)), (lr k), (lb k), (Value.int .i64 ((b.tabs.getD k tab0).err))]), (slsR true ((b.tabs.take k).length) lr_ 2 (rowsN (b.tabs.take k)) (rowsC (b.tabs.take k))), (slsR true ((b.tabs.take k).length) lb_ 1 (brkN (b.tabs.take k)) (brkC (b.tabs.take k))), (row vt_ 106 5 ((b.tabs.take k).length) (tabsC lr_ lb_ (b.tabs.take k))), (blk b20 37 [(Value.int .i64 b.scales), vt_, (Value.slice none 0 0)]), (blk b9 37 [(Value.int .i64 0), (Value.slice none 0 0), (Value.slice none 0 0)]), (blk b4 25 [(Value.int .i64 b.scales), vt, vm]), (tabsR false vt lr lb b.tabs), (macsR false vm lk b.macs)] := hS61; clear hS61 hS59
  refine n2 ?_
  have hA64 := hA62.as [(5, (bptr b58 0)), (4, (Value.int .i64 (k : Int))), (3, (bptr b20 0)), (2, (bptr b9 0)), (1, (bptr b4 0))] rfl; clear hA62
  have hA65 := hA64.as [(5, (bptr b58 0)), (4, (Value.int .i64 (k : Int))), (3, (bptr b20 0)), (2, (bptr b9 0)), (1, (bptr b4 0))] rfl; clear hA64
  refine c_drawV mixed hA65 hS63 11 [[], [0], [], [2], [], [4], [5], [], [7], [1, 3, 6, 8], []] [(fun (vs66 : Nat → Value) (v_ : Value) (rs_ : List Res) => v_ = (bptr b58 0) ∧ rs_ = []), (fun (vs66 : Nat → Value) (v_ : Value) (rs_ : List Res) => v_ = (Value.int .i64 ((b.tabs.getD k tab0).frm)) ∧ rs_ = []), (fun (vs66 : Nat → Value) (v_ : Value) (rs_ : List Res) => v_ = (bptr b58 1) ∧ rs_ = []), (fun (vs66 : Nat → Value) (v_ : Value) (rs_ : List Res) => v_ = (Value.int .i64 ((b.tabs.getD k tab0).dst)) ∧ rs_ = []), (fun (vs66 : Nat → Value) (v_ : Value) (rs_ : List Res) => v_ = (bptr b58 3) ∧ rs_ = []), (fun (vs66 : Nat → Value) (v_ : Value) (rs_ : List Res) => v_ = (lb k) ∧ rs_ = []), (fun (vs66 : Nat → Value) (v_ : Value) (rs_ : List Res) => True ∧ rs_ = [(row v_ 3 1 ((b.tabs.getD k tab0).brk.length) (ints ((b.tabs.getD k tab0).brk)))]), (fun (vs66 : Nat → Value) (v_ : Value) (rs_ : List Res) => v_ = (bptr b58 4) ∧ rs_ = []), (fun (vs66 : Nat → Value) (v_ : Value) (rs_ : List Res) => v_ = (Value.int .i64 ((b.tabs.getD k tab0).err)) ∧ rs_ = []), (fun (vs66 : Nat → Value) (v_ : Value) (rs_ : List Res) => v_ = (Value.agg #[(Value.int .i64 ((b.tabs.getD k tab0).frm)), (Value.int .i64 ((b.tabs.getD k tab0).dst)), (Value.slice none 0 0), (vs66 6), (Value.int .i64 ((b.tabs.getD k tab0).err))]) ∧ rs_ = []), (fun (vs66 : Nat → Value) (v_ : Value) (rs_ : List Res) => ∃ (b10_ : Nat), v_ = (bptr b10_ 0) ∧ rs_ = [(blk b10_ 106 [(Value.int .i64 0), (Value.int .i64 0), (Value.slice none 0 0), (Value.slice none 0 0), (Value.int .i64 0)])])] (by decide +kernel) (by decide +kernel) rfl rfl ⟨(fun _ _ _ _ _ h_ => h_), (fun _ _ _ _ _ h_ => h_), (fun _ _ _ _ _ h_ => h_), (fun _ _ _ _ _ h_ => h_), (fun _ _ _ _ _ h_ => h_), (fun _ _ _ _ _ h_ => h_), (fun _ _ _ _ _ h_ => h_), (fun _ _ _ _ _ h_ => h_), (fun _ _ _ _ _ h_ => h_), (fun _ _ _ _ he_ h_ => by dsimp only at h_ ⊢; rw [← he_ 6 (by decide)]; exact h_), (fun _ _ _ _ _ h_ => h_), trivial⟩ ?_ ?_
  ·skip
   refine ⟨fun a w vs66 hA hS hd => ?_, ?_⟩
   ·skip
    exact opG_of rfl (vv (op_field rfl fd_46_0 (hA.ev rfl)) (And.intro rfl rfl))
   refine ⟨fun a w vs66 hA hS hd => ?_, ?_⟩
   ·skip
    obtain ⟨e0, rs0, hy0, hp0⟩ := hd 0 (by decide)
    obtain ⟨hv0, hr0⟩ := hy0; subst hr0
    rw [hv0] at e0
    exact opG_of rfl (vv (op_load1 rfl ty_3 (tmp_ev (slot_ev e0 rfl)) (hS.bk 0 rfl) rfl) (And.intro rfl rfl))
   refine ⟨fun a w vs66 hA hS hd => ?_, ?_⟩
   ·skip
    exact opG_of rfl (vv (op_field rfl fd_46_1 (hA.ev rfl)) (And.intro rfl rfl))
   refine ⟨fun a w vs66 hA hS hd => ?_, ?_⟩
   ·skip
    obtain ⟨e2, rs2, hy2, hp2⟩ := hd 2 (by decide)
    obtain ⟨hv2, hr2⟩ := hy2; subst hr2
    rw [hv2] at e2
    exact opG_of rfl (vv (op_load1 rfl ty_3 (tmp_ev (slot_ev e2 rfl)) (hS.bk 0 rfl) rfl) (And.intro rfl rfl))
   refine ⟨fun a w vs66 hA hS hd => ?_, ?_⟩
   ·skip
    exact opG_of rfl (vv (op_field rfl fd_46_3 (hA.ev rfl)) (And.intro rfl rfl))
   refine ⟨fun a w vs66 hA hS hd => ?_, ?_⟩
   ·skip
    obtain ⟨e4, rs4, hy4, hp4⟩ := hd 4 (by decide)
    obtain ⟨hv4, hr4⟩ := hy4; subst hr4
    rw [hv4] at e4
    exact opG_of rfl (vv (op_load1 rfl ty_44 (tmp_ev (slot_ev e4 rfl)) (hS.bk 0 rfl) rfl) (And.intro rfl rfl))
   refine ⟨fun a w vs66 hA hS hd => ?_, ?_⟩
   ·skip
    obtain ⟨e5, rs5, hy5, hp5⟩ := hd 5 (by decide)
    obtain ⟨hv5, hr5⟩ := hy5; subst hr5
    rw [hv5] at e5
    exact opG_of rfl (vn (op_call rfl en_40 (ev1 (tmp_ev (slot_ev e5 rfl))) (list_ok ((b.tabs.getD k tab0).brk) _ _ ((tabs_at (hS.ok 7 _ rfl)).brk (i := k) (by omega)) (hth.bl _))) (fun v w' h => ⟨_, And.intro trivial rfl, (Sep.start NoB _).new_row h.1 h.2, rfl⟩))
   refine ⟨fun a w vs66 hA hS hd => ?_, ?_⟩
   ·skip
    exact opG_of rfl (vv (op_field rfl fd_46_4 (hA.ev rfl)) (And.intro rfl rfl))
   refine ⟨fun a w vs66 hA hS hd => ?_, ?_⟩
   ·skip
    obtain ⟨e7, rs7, hy7, hp7⟩ := hd 7 (by decide)
    obtain ⟨hv7, hr7⟩ := hy7; subst hr7
    rw [hv7] at e7
    exact opG_of rfl (vv (op_load1 rfl ty_3 (tmp_ev (slot_ev e7 rfl)) (hS.bk 0 rfl) rfl) (And.intro rfl rfl))
   refine ⟨fun a w vs66 hA hS hd => ?_, ?_⟩
   ·skip
    obtain ⟨e1, rs1, hy1, hp1⟩ := hd 1 (by decide)
    obtain ⟨hv1, hr1⟩ := hy1; subst hr1
    rw [hv1] at e1
    obtain ⟨e3, rs3, hy3, hp3⟩ := hd 3 (by decide)
    obtain ⟨hv3, hr3⟩ := hy3; subst hr3
    rw [hv3] at e3
    obtain ⟨e6, rs6, hy6, hp6⟩ := hd 6 (by decide)
    obtain ⟨hv6, hr6⟩ := hy6; subst hr6
    have hp6_0 := hp6 _ (List.mem_of_getElem? (i := 0) rfl)
    obtain ⟨e8, rs8, hy8, hp8⟩ := hd 8 (by decide)
    obtain ⟨hv8, hr8⟩ := hy8; subst hr8
    rw [hv8] at e8
    exact opG_of rfl (vv (op_build rfl (pv4 (tmp_ev (slot_ev e1 rfl)) (tmp_ev (slot_ev e3 rfl)) (tmp_ev (slot_ev e6 rfl)) (tmp_ev (slot_ev e8 rfl))) (bd_106_0i_1i_3s_4i _ _ _ (SlAt.isSl (SlAt.of_row hp6_0)) _)) (And.intro rfl rfl))
   refine ⟨fun a w vs66 hA hS hd => ?_, ?_⟩
   ·skip
    exact opG_of rfl (valloc rfl ze_106 (cs := [(Value.int .i64 0), (Value.int .i64 0), (Value.slice none 0 0), (Value.slice none 0 0), (Value.int .i64 0)]) rfl (fun b_ => ⟨b_, rfl, rfl⟩))
   trivial
  intro a67 w68 vs66 rsf72 hA69 hH71 hS70; clear hA65 hS63
  obtain ⟨hs_0, hy_0⟩ := hH71 0 (by decide)
  obtain ⟨hv_0, hr_0⟩ := hy_0
  obtain ⟨hs_1, hy_1⟩ := hH71 1 (by decide)
  obtain ⟨hv_1, hr_1⟩ := hy_1
  obtain ⟨hs_2, hy_2⟩ := hH71 2 (by decide)
  obtain ⟨hv_2, hr_2⟩ := hy_2
  obtain ⟨hs_3, hy_3⟩ := hH71 3 (by decide)
  obtain ⟨hv_3, hr_3⟩ := hy_3
  obtain ⟨hs_4, hy_4⟩ := hH71 4 (by decide)
  obtain ⟨hv_4, hr_4⟩ := hy_4
  obtain ⟨hs_5, hy_5⟩ := hH71 5 (by decide)
  obtain ⟨hv_5, hr_5⟩ := hy_5
  obtain ⟨hs_6, hy_6⟩ := hH71 6 (by decide)
  obtain ⟨hv_6, hr_6⟩ := hy_6
  obtain ⟨hs_7, hy_7⟩ := hH71 7 (by decide)
  obtain ⟨hv_7, hr_7⟩ := hy_7
  obtain ⟨hs_8, hy_8⟩ := hH71 8 (by decide)
  obtain ⟨hv_8, hr_8⟩ := hy_8
  obtain ⟨hs_9, hy_9⟩ := hH71 9 (by decide)
  obtain ⟨hv_9, hr_9⟩ := hy_9
  obtain ⟨hs_10, hy_10⟩ := hH71 10 (by decide)
  obtain ⟨b10_, hv_10, hr_10⟩ := hy_10
  have hS73 : Sep NoB w w68 [(row (vs66 6) 3 1 ((b.tabs.getD k tab0).brk.length) (ints ((b.tabs.getD k tab0).brk))), (blk b10_ 106 [(Value.int .i64 0), (Value.int .i64 0), (Value.slice none 0 0), (Value.slice none 0 0), (Value.int .i64 0)]), (blk b58 46 [(Value.int .i64 ((b.tabs.getD k tab0).frm)), (Value.int .i64 ((b.tabs.getD k tab0).dst)), (lr k), (lb k), (Value.int .i64 ((b.tabs.getD k tab0).err))]), (slsR true ((b.tabs.take k).length) lr_ 2 (rowsN (b.tabs.take k)) (rowsC (b.tabs.take k))), (slsR true ((b.tabs.take k).length) lb_ 1 (brkN (b.tabs.take k)) (brkC (b.tabs.take k))), (row vt_ 106 5 ((b.tabs.take k).length) (tabsC lr_ lb_ (b.tabs.take k))), (blk b20 37 [(Value.int .i64 b.scales), vt_, (Value.slice none 0 0)]), (blk b9 37 [(Value.int .i64 0), (Value.slice none 0 0), (Value.slice none 0 0)]), (blk b4 25 [(Value.int .i64 b.scales), vt, vm]), (tabsR false vt lr lb b.tabs), (macsR false vm lk b.macs)] := by rw [show catR rsf72 0 11 = ([(row (vs66 6) 3 1 ((b.tabs.getD k tab0).brk.length) (ints ((b.tabs.getD k tab0).brk))), (blk b10_ 106 [(Value.int .i64 0), (Value.int .i64 0), (Value.slice none 0 0), (Value.slice none 0 0), (Value.int .i64 0)])] : List Res) by (try simp only [catR, hr_0, hr_1, hr_2, hr_3, hr_4, hr_5, hr_6, hr_7, hr_8, hr_9, hr_10]); (try rfl)] at hS70; exact hS70
  rw [hv_9] at hs_9
  have hA74 : Fr 116 [] [(36, (Value.agg #[(Value.int .i64 ((b.tabs.getD k tab0).frm)), (Value.int .i64 ((b.tabs.getD k tab0).dst)), (Value.slice none 0 0), (vs66 6), (Value.int .i64 ((b.tabs.getD k tab0).err))])), (5, (bptr b58 0)), (4, (Value.int .i64 (k : Int))), (3, (bptr b20 0)), (2, (bptr b9 0)), (1, (bptr b4 0))] a67 := hA69.add (slot_ev hs_9 rfl); clear hA69
  rw [hv_10] at hs_10
  have hA75 : Fr 116 [] [(6, (bptr b10_ 0)), (36, (Value.agg #[(Value.int .i64 ((b.tabs.getD k tab0).frm)), (Value.int .i64 ((b.tabs.getD k tab0).dst)), (Value.slice none 0 0), (vs66 6), (Value.int .i64 ((b.tabs.getD k tab0).err))])), (5, (bptr b58 0)), (4, (Value.int .i64 (k : Int))), (3, (bptr b20 0)), (2, (bptr b9 0)), (1, (bptr b4 0))] a67 := hA74.add (slot_ev hs_10 rfl); clear hA74
  clear hH71 hS70 hs_0 hs_1 hs_2 hs_3 hs_4 hs_5 hs_6 hs_7 hs_8 hs_9 hs_10
  clear hr_0
  clear hv_0
  clear hr_1
  clear hv_1
  clear hr_2
  clear hv_2
  clear hr_3
  clear hv_3
  clear hr_4
  clear hv_4
  clear hr_5
  clear hv_5
  clear hr_6
  clear hv_6
  clear hr_7
  clear hv_7
  clear hr_8
  clear hv_8
  clear hr_9
  clear hv_9
  clear hr_10
  clear hv_10
  refine s7 hA75 (op_store hS73 rfl ty_106 (hA75.ev rfl) (hA75.ev rfl) (i := 1) rfl (vs := [(Value.int .i64 ((b.tabs.getD k tab0).frm)), (Value.int .i64 ((b.tabs.getD k tab0).dst)), (Value.slice none 0 0), (vs66 6), (Value.int .i64 ((b.tabs.getD k tab0).err))]) rfl rfl (all_c rfl (all_c rfl (all_c rfl (all_c (SlAt.one (SlAt.of_row (hS73.ok_row 0 rfl))) (all_c rfl all_n))))) (Nat.le_of_ble_eq_true rfl)) ?_
  intro _ w76 hS77 hA78; clear hA75
  have hS79 : Sep NoB w w76 [(row (vs66 6) 3 1 ((b.tabs.getD k tab0).brk.length) (ints ((b.tabs.getD k tab0).brk))), (blk b10_ 106 [(Value.int .i64 ((b.tabs.getD k tab0).frm)), (Value.int .i64 ((b.tabs.getD k tab0).dst)), (Value.slice none 0 0), (vs66 6), (Value.int .i64 ((b.tabs.getD k tab0).err))]), (blk b58 46 [(Value.int .i64 ((b.tabs.getD k tab0).frm)), (Value.int .i64 ((b.tabs.getD k tab0).dst)), (lr k), (lb k), (Value.int .i64 ((b.tabs.getD k tab0).err))]), (slsR true ((b.tabs.take k).length) lr_ 2 (rowsN (b.tabs.take k)) (rowsC (b.tabs.take k))), (slsR true ((b.tabs.take k).length) lb_ 1 (brkN (b.tabs.take k)) (brkC (b.tabs.take k))), (row vt_ 106 5 ((b.tabs.take k).length) (tabsC lr_ lb_ (b.tabs.take k))), (blk b20 37 [(Value.int .i64 b.scales), vt_, (Value.slice none 0 0)]), (blk b9 37 [(Value.int .i64 0), (Value.slice none 0 0), (Value.slice none 0 0)]), (blk b4 25 [(Value.int .i64 b.scales), vt, vm]), (tabsR false vt lr lb b.tabs), (macsR false vm lk b.macs)] := hS77; clear hS77 hS73
  refine n2 ?_
  refine m2 ?_
  refine s1 hA78 (op_assign rfl (evc _ _)) fun a80 hA81 => ?_; clear hA78 a67
  refine n1 ?_
  refine c_block ?_
  have hS82 := hS79.nil_row 107 2; clear hS79
  have hA83 := hA81.as [(7, (Value.int .i64 0)), (6, (bptr b10_ 0)), (5, (bptr b58 0)), (4, (Value.int .i64 (k : Int))), (3, (bptr b20 0)), (2, (bptr b9 0)), (1, (bptr b4 0))] rfl; clear hA81
  refine c_loop (G := Nat) (fun (j : Nat) a_ w_ => ∃ vr_ : Value, Fr 116 [] [(7, (Value.int .i64 (j : Int))), (6, (bptr b10_ 0)), (5, (bptr b58 0)), (4, (Value.int .i64 (k : Int))), (3, (bptr b20 0)), (2, (bptr b9 0)), (1, (bptr b4 0))] a_ ∧ Sep NoB w w_ [(row vr_ 107 2 (((b.tabs.getD k tab0).rows.take j).length) (pairs ((b.tabs.getD k tab0).rows.take j))), (row (vs66 6) 3 1 ((b.tabs.getD k tab0).brk.length) (ints ((b.tabs.getD k tab0).brk))), (blk b10_ 106 [(Value.int .i64 ((b.tabs.getD k tab0).frm)), (Value.int .i64 ((b.tabs.getD k tab0).dst)), vr_, (vs66 6), (Value.int .i64 ((b.tabs.getD k tab0).err))]), (blk b58 46 [(Value.int .i64 ((b.tabs.getD k tab0).frm)), (Value.int .i64 ((b.tabs.getD k tab0).dst)), (lr k), (lb k), (Value.int .i64 ((b.tabs.getD k tab0).err))]), (slsR true ((b.tabs.take k).length) lr_ 2 (rowsN (b.tabs.take k)) (rowsC (b.tabs.take k))), (slsR true ((b.tabs.take k).length) lb_ 1 (brkN (b.tabs.take k)) (brkC (b.tabs.take k))), (row vt_ 106 5 ((b.tabs.take k).length) (tabsC lr_ lb_ (b.tabs.take k))), (blk b20 37 [(Value.int .i64 b.scales), vt_, (Value.slice none 0 0)]), (blk b9 37 [(Value.int .i64 0), (Value.slice none 0 0), (Value.slice none 0 0)]), (blk b4 25 [(Value.int .i64 b.scales), vt, vm]), (tabsR false vt lr lb b.tabs), (macsR false vm lk b.macs)] ∧ (j ≤ (b.tabs.getD k tab0).rows.length)) (fun j => (b.tabs.getD k tab0).rows.length - j) 0 ⟨(Value.slice none 0 0), hA83.as _ rfl, (hS82.row_say (i := 0) rfl (by rfl) (by rfl)), (Nat.zero_le _)⟩ ?_
  clear hA83 hS82 a80
  rintro j a84 w86 ⟨vr_, hA85, hS87, hkj⟩
  have hlt_j : ((b.tabs.getD k tab0).rows.take j).length ≤ 12 := by simp only [List.length_take]; omega
  refine c_seq ?_
  refine m2 ?_
  refine s1 hA85 (op_move rfl (hA85.ev rfl)) fun a88 hA89 => ?_; clear hA85 a84
  refine s1 hA89 (op_field rfl fd_46_2 (hA89.ev rfl)) fun a90 hA91 => ?_; clear hA89 a88
  refine s1 hA91 (op_load1 rfl ty_43 (hA91.ev rfl) (hS87.bk 3 rfl) rfl) fun a92 hA93 => ?_; clear hA91 a90
  refine s1 hA93 (op_lenS rfl un_43 (hA93.ev rfl) ((tabs_at (hS87.ok 10 _ rfl)).row (i := k) (by omega))) fun a94 hA95 => ?_; clear hA93 a92
  refine s1 hA95 (op_lss rfl (hA95.ev rfl) (hA95.ev rfl)) fun a96 hA97 => ?_; clear hA95 a94
  refine n1 ?_
  by_cases hb98 : (j : Int) < ((b.tabs.getD k tab0).rows.length : Int)
  ·skip
   rw [decide_eq_true hb98] at hA97
   refine c_true hA97 rfl ?_
   refine c_skip ?_
   refine then_n ?_
   refine c_seq ?_
   refine c_block ?_
   have hA99 := hA97.as [(7, (Value.int .i64 (j : Int))), (6, (bptr b10_ 0)), (5, (bptr b58 0)), (4, (Value.int .i64 (k : Int))), (3, (bptr b20 0)), (2, (bptr b9 0)), (1, (bptr b4 0))] rfl; clear hA97
   refine c_drawV mixed hA99 hS87 16 [[], [0], [], [2], [], [3, 4], [5], [6], [], [8], [], [9, 10], [11], [12], [7, 13], [14]] [(fun (vs100 : Nat → Value) (v_ : Value) (rs_ : List Res) => v_ = (bptr b10_ 2) ∧ rs_ = []), (fun (vs100 : Nat → Value) (v_ : Value) (rs_ : List Res) => v_ = vr_ ∧ rs_ = []), (fun (vs100 : Nat → Value) (v_ : Value) (rs_ : List Res) => v_ = (bptr b58 2) ∧ rs_ = []), (fun (vs100 : Nat → Value) (v_ : Value) (rs_ : List Res) => v_ = (lr k) ∧ rs_ = []), (fun (vs100 : Nat → Value) (v_ : Value) (rs_ : List Res) => v_ = (Value.int .i64 (j : Int)) ∧ rs_ = []), (fun (vs100 : Nat → Value) (v_ : Value) (rs_ : List Res) => v_ = (eptr (lr k) (j * 2)) ∧ rs_ = []), (fun (vs100 : Nat → Value) (v_ : Value) (rs_ : List Res) => v_ = (eptr (lr k) (j * 2 + 0)) ∧ rs_ = []), (fun (vs100 : Nat → Value) (v_ : Value) (rs_ : List Res) => v_ = (Value.int .i64 ((((b.tabs.getD k tab0).rows).getD j (0, 0)).1)) ∧ rs_ = []), (fun (vs100 : Nat → Value) (v_ : Value) (rs_ : List Res) => v_ = (bptr b58 2) ∧ rs_ = []), (fun (vs100 : Nat → Value) (v_ : Value) (rs_ : List Res) => v_ = (lr k) ∧ rs_ = []), (fun (vs100 : Nat → Value) (v_ : Value) (rs_ : List Res) => v_ = (Value.int .i64 (j : Int)) ∧ rs_ = []), (fun (vs100 : Nat → Value) (v_ : Value) (rs_ : List Res) => v_ = (eptr (lr k) (j * 2)) ∧ rs_ = []), (fun (vs100 : Nat → Value) (v_ : Value) (rs_ : List Res) => v_ = (eptr (lr k) (j * 2 + 1)) ∧ rs_ = []), (fun (vs100 : Nat → Value) (v_ : Value) (rs_ : List Res) => v_ = (Value.int .i64 ((((b.tabs.getD k tab0).rows).getD j (0, 0)).2)) ∧ rs_ = []), (fun (vs100 : Nat → Value) (v_ : Value) (rs_ : List Res) => v_ = (Value.agg #[(Value.int .i64 ((((b.tabs.getD k tab0).rows).getD j (0, 0)).1)), (Value.int .i64 ((((b.tabs.getD k tab0).rows).getD j (0, 0)).2))]) ∧ rs_ = []), (fun (vs100 : Nat → Value) (v_ : Value) (rs_ : List Res) => True ∧ rs_ = [(row v_ 107 2 1 [(Value.int .i64 ((((b.tabs.getD k tab0).rows).getD j (0, 0)).1)), (Value.int .i64 ((((b.tabs.getD k tab0).rows).getD j (0, 0)).2))])])] (by decide +kernel) (by decide +kernel) rfl rfl ⟨(fun _ _ _ _ _ h_ => h_), (fun _ _ _ _ _ h_ => h_), (fun _ _ _ _ _ h_ => h_), (fun _ _ _ _ _ h_ => h_), (fun _ _ _ _ _ h_ => h_), (fun _ _ _ _ _ h_ => h_), (fun _ _ _ _ _ h_ => h_), (fun _ _ _ _ _ h_ => h_), (fun _ _ _ _ _ h_ => h_), (fun _ _ _ _ _ h_ => h_), (fun _ _ _ _ _ h_ => h_), (fun _ _ _ _ _ h_ => h_), (fun _ _ _ _ _ h_ => h_), (fun _ _ _ _ _ h_ => h_), (fun _ _ _ _ _ h_ => h_), (fun _ _ _ _ _ h_ => h_), trivial⟩ ?_ ?_
   ·skip
    refine ⟨fun a w vs100 hA hS hd => ?_, ?_⟩
    ·skip
     exact opG_of rfl (vv (op_field rfl fd_106_2 (hA.ev rfl)) (And.intro rfl rfl))
    refine ⟨fun a w vs100 hA hS hd => ?_, ?_⟩
    ·skip
     obtain ⟨e0, rs0, hy0, hp0⟩ := hd 0 (by decide)
     obtain ⟨hv0, hr0⟩ := hy0; subst hr0
     rw [hv0] at e0
     exact opG_of rfl (vv (op_load1 rfl ty_104 (tmp_ev (slot_ev e0 rfl)) (hS.bk 2 rfl) rfl) (And.intro rfl rfl))
    refine ⟨fun a w vs100 hA hS hd => ?_, ?_⟩
    ·skip
     exact opG_of rfl (vv (op_field rfl fd_46_2 (hA.ev rfl)) (And.intro rfl rfl))
    refine ⟨fun a w vs100 hA hS hd => ?_, ?_⟩
    ·skip
     obtain ⟨e2, rs2, hy2, hp2⟩ := hd 2 (by decide)
     obtain ⟨hv2, hr2⟩ := hy2; subst hr2
     rw [hv2] at e2
     exact opG_of rfl (vv (op_load1 rfl ty_43 (tmp_ev (slot_ev e2 rfl)) (hS.bk 3 rfl) rfl) (And.intro rfl rfl))
    refine ⟨fun a w vs100 hA hS hd => ?_, ?_⟩
    ·skip
     exact opG_of rfl (vv (op_move rfl (hA.ev rfl)) (And.intro rfl rfl))
    refine ⟨fun a w vs100 hA hS hd => ?_, ?_⟩
    ·skip
     obtain ⟨e3, rs3, hy3, hp3⟩ := hd 3 (by decide)
     obtain ⟨hv3, hr3⟩ := hy3; subst hr3
     rw [hv3] at e3
     obtain ⟨e4, rs4, hy4, hp4⟩ := hd 4 (by decide)
     obtain ⟨hv4, hr4⟩ := hy4; subst hr4
     rw [hv4] at e4
     exact opG_of rfl (vv (op_indexS rfl un_43 ty_75 (tmp_ev (slot_ev e3 rfl)) (i := j) (tmp_ev (slot_ev e4 rfl)) ((tabs_at (hS.ok 10 _ rfl)).row (i := k) (by omega)) (by decide) (by omega)) (And.intro rfl rfl))
    refine ⟨fun a w vs100 hA hS hd => ?_, ?_⟩
    ·skip
     obtain ⟨e5, rs5, hy5, hp5⟩ := hd 5 (by decide)
     obtain ⟨hv5, hr5⟩ := hy5; subst hr5
     rw [hv5] at e5
     exact opG_of rfl (vv (op_fieldS rfl fd_75_0 (tmp_ev (slot_ev e5 rfl)) ((tabs_at (hS.ok 10 _ rfl)).row (i := k) (by omega)) (by rw [(((tabs_at (hS.ok 10 _ rfl)).row (i := k) (by omega))).1]; omega)) (And.intro rfl rfl))
    refine ⟨fun a w vs100 hA hS hd => ?_, ?_⟩
    ·skip
     obtain ⟨e6, rs6, hy6, hp6⟩ := hd 6 (by decide)
     obtain ⟨hv6, hr6⟩ := hy6; subst hr6
     rw [hv6] at e6
     exact opG_of rfl (vv (op_load1E rfl ty_3 (tmp_ev (slot_ev e6 rfl)) ((tabs_at (hS.ok 10 _ rfl)).row (i := k) (by omega)) (pairs_at0 (by omega))) (And.intro rfl rfl))
    refine ⟨fun a w vs100 hA hS hd => ?_, ?_⟩
    ·skip
     exact opG_of rfl (vv (op_field rfl fd_46_2 (hA.ev rfl)) (And.intro rfl rfl))
    refine ⟨fun a w vs100 hA hS hd => ?_, ?_⟩
    ·skip
     obtain ⟨e8, rs8, hy8, hp8⟩ := hd 8 (by decide)
     obtain ⟨hv8, hr8⟩ := hy8; subst hr8
     rw [hv8] at e8
     exact opG_of rfl (vv (op_load1 rfl ty_43 (tmp_ev (slot_ev e8 rfl)) (hS.bk 3 rfl) rfl) (And.intro rfl rfl))
    refine ⟨fun a w vs100 hA hS hd => ?_, ?_⟩
    ·skip
     exact opG_of rfl (vv (op_move rfl (hA.ev rfl)) (And.intro rfl rfl))
    refine ⟨fun a w vs100 hA hS hd => ?_, ?_⟩
    ·skip
     obtain ⟨e9, rs9, hy9, hp9⟩ := hd 9 (by decide)
     obtain ⟨hv9, hr9⟩ := hy9; subst hr9
     rw [hv9] at e9
     obtain ⟨e10, rs10, hy10, hp10⟩ := hd 10 (by decide)
     obtain ⟨hv10, hr10⟩ := hy10; subst hr10
     rw [hv10] at e10
     exact opG_of rfl (vv (op_indexS rfl un_43 ty_75 (tmp_ev (slot_ev e9 rfl)) (i := j) (tmp_ev (slot_ev e10 rfl)) ((tabs_at (hS.ok 10 _ rfl)).row (i := k) (by omega)) (by decide) (by omega)) (And.intro rfl rfl))
    refine ⟨fun a w vs100 hA hS hd => ?_, ?_⟩
    ·skip
     obtain ⟨e11, rs11, hy11, hp11⟩ := hd 11 (by decide)
     obtain ⟨hv11, hr11⟩ := hy11; subst hr11
     rw [hv11] at e11
     exact opG_of rfl (vv (op_fieldS rfl fd_75_1 (tmp_ev (slot_ev e11 rfl)) ((tabs_at (hS.ok 10 _ rfl)).row (i := k) (by omega)) (by rw [(((tabs_at (hS.ok 10 _ rfl)).row (i := k) (by omega))).1]; omega)) (And.intro rfl rfl))
    refine ⟨fun a w vs100 hA hS hd => ?_, ?_⟩
    ·skip
     obtain ⟨e12, rs12, hy12, hp12⟩ := hd 12 (by decide)
     obtain ⟨hv12, hr12⟩ := hy12; subst hr12
     rw [hv12] at e12
     exact opG_of rfl (vv (op_load1E rfl ty_3 (tmp_ev (slot_ev e12 rfl)) ((tabs_at (hS.ok 10 _ rfl)).row (i := k) (by omega)) (pairs_at1 (by omega))) (And.intro rfl rfl))
    refine ⟨fun a w vs100 hA hS hd => ?_, ?_⟩
    ·skip
     obtain ⟨e7, rs7, hy7, hp7⟩ := hd 7 (by decide)
     obtain ⟨hv7, hr7⟩ := hy7; subst hr7
     rw [hv7] at e7
     obtain ⟨e13, rs13, hy13, hp13⟩ := hd 13 (by decide)
     obtain ⟨hv13, hr13⟩ := hy13; subst hr13
     rw [hv13] at e13
     exact opG_of rfl (vv (op_build rfl (pv2 (tmp_ev (slot_ev e7 rfl)) (tmp_ev (slot_ev e13 rfl))) (bd_107_0i_1i _ _)) (And.intro rfl rfl))
    refine ⟨fun a w vs100 hA hS hd => ?_, ?_⟩
    ·skip
     obtain ⟨e14, rs14, hy14, hp14⟩ := hd 14 (by decide)
     obtain ⟨hv14, hr14⟩ := hy14; subst hr14
     rw [hv14] at e14
     exact opG_of rfl (vblt rfl (pv1 (tmp_ev (slot_ev e14 rfl))) un_104 ty_107 ze_107 (by decide) (cs := [(Value.int .i64 ((((b.tabs.getD k tab0).rows).getD j (0, 0)).1)), (Value.int .i64 ((((b.tabs.getD k tab0).rows).getD j (0, 0)).2))]) (bs_107_1_0iia _ _) rfl (by decide) (fun _ => And.intro trivial rfl))
    trivial
   intro a101 w102 vs100 rsf106 hA103 hH105 hS104; clear hA99 hS87
   obtain ⟨hs_0, hy_0⟩ := hH105 0 (by decide)
   obtain ⟨hv_0, hr_0⟩ := hy_0
   obtain ⟨hs_1, hy_1⟩ := hH105 1 (by decide)
   obtain ⟨hv_1, hr_1⟩ := hy_1
   obtain ⟨hs_2, hy_2⟩ := hH105 2 (by decide)
   obtain ⟨hv_2, hr_2⟩ := hy_2
   obtain ⟨hs_3, hy_3⟩ := hH105 3 (by decide)
   obtain ⟨hv_3, hr_3⟩ := hy_3
   obtain ⟨hs_4, hy_4⟩ := hH105 4 (by decide)
   obtain ⟨hv_4, hr_4⟩ := hy_4
   obtain ⟨hs_5, hy_5⟩ := hH105 5 (by decide)
   obtain ⟨hv_5, hr_5⟩ := hy_5
   obtain ⟨hs_6, hy_6⟩ := hH105 6 (by decide)
   obtain ⟨hv_6, hr_6⟩ := hy_6
   obtain ⟨hs_7, hy_7⟩ := hH105 7 (by decide)
   obtain ⟨hv_7, hr_7⟩ := hy_7
   obtain ⟨hs_8, hy_8⟩ := hH105 8 (by decide)
   obtain ⟨hv_8, hr_8⟩ := hy_8
   obtain ⟨hs_9, hy_9⟩ := hH105 9 (by decide)
   obtain ⟨hv_9, hr_9⟩ := hy_9
   obtain ⟨hs_10, hy_10⟩ := hH105 10 (by decide)
   obtain ⟨hv_10, hr_10⟩ := hy_10
   obtain ⟨hs_11, hy_11⟩ := hH105 11 (by decide)
   obtain ⟨hv_11, hr_11⟩ := hy_11
   obtain ⟨hs_12, hy_12⟩ := hH105 12 (by decide)
   obtain ⟨hv_12, hr_12⟩ := hy_12
   obtain ⟨hs_13, hy_13⟩ := hH105 13 (by decide)
   obtain ⟨hv_13, hr_13⟩ := hy_13
   obtain ⟨hs_14, hy_14⟩ := hH105 14 (by decide)
   obtain ⟨hv_14, hr_14⟩ := hy_14
   obtain ⟨hs_15, hy_15⟩ := hH105 15 (by decide)
   obtain ⟨hv_15, hr_15⟩ := hy_15
   have hS107 : Sep NoB w w102 [(row (vs100 15) 107 2 1 [(Value.int .i64 ((((b.tabs.getD k tab0).rows).getD j (0, 0)).1)), (Value.int .i64 ((((b.tabs.getD k tab0).rows).getD j (0, 0)).2))]), (row vr_ 107 2 (((b.tabs.getD k tab0).rows.take j).length) (pairs ((b.tabs.getD k tab0).rows.take j))), (row (vs66 6) 3 1 ((b.tabs.getD k tab0).brk.length) (ints ((b.tabs.getD k tab0).brk))), (blk b10_ 106 [(Value.int .i64 ((b.tabs.getD k tab0).frm)), (Value.int .i64 ((b.tabs.getD k tab0).dst)), vr_, (vs66 6), (Value.int .i64 ((b.tabs.getD k tab0).err))]), (blk b58 46 [(Value.int .i64 ((b.tabs.getD k tab0).frm)), (Value.int .i64 ((b.tabs.getD k tab0).dst)), (lr k), (lb k), (Value.int .i64 ((b.tabs.getD k tab0).err))]), (slsR true ((b.tabs.take k).length) lr_ 2 (rowsN (b.tabs.take k)) (rowsC (b.tabs.take k))), (slsR true ((b.tabs.take k).length) lb_ 1 (brkN (b.tabs.take k)) (brkC (b.tabs.take k))), (row vt_ 106 5 ((b.tabs.take k).length) (tabsC lr_ lb_ (b.tabs.take k))), (blk b20 37 [(Value.int .i64 b.scales), vt_, (Value.slice none 0 0)]), (blk b9 37 [(Value.int .i64 0), (Value.slice none 0 0), (Value.slice none 0 0)]), (blk b4 25 [(Value.int .i64 b.scales), vt, vm]), (tabsR false vt lr lb b.tabs), (macsR false vm lk b.macs)] := by rw [show catR rsf106 0 16 = ([(row (vs100 15) 107 2 1 [(Value.int .i64 ((((b.tabs.getD k tab0).rows).getD j (0, 0)).1)), (Value.int .i64 ((((b.tabs.getD k tab0).rows).getD j (0, 0)).2))])] : List Res) by (try simp only [catR, hr_0, hr_1, hr_2, hr_3, hr_4, hr_5, hr_6, hr_7, hr_8, hr_9, hr_10, hr_11, hr_12, hr_13, hr_14, hr_15]); (try rfl)] at hS104; exact hS104
   rw [hv_1] at hs_1
   have hA108 : Fr 116 [] [(45, vr_), (7, (Value.int .i64 (j : Int))), (6, (bptr b10_ 0)), (5, (bptr b58 0)), (4, (Value.int .i64 (k : Int))), (3, (bptr b20 0)), (2, (bptr b9 0)), (1, (bptr b4 0))] a101 := hA103.add (slot_ev hs_1 rfl); clear hA103
   have hA109 : Fr 116 [] [(59, (vs100 15)), (45, vr_), (7, (Value.int .i64 (j : Int))), (6, (bptr b10_ 0)), (5, (bptr b58 0)), (4, (Value.int .i64 (k : Int))), (3, (bptr b20 0)), (2, (bptr b9 0)), (1, (bptr b4 0))] a101 := hA108.add (slot_ev hs_15 rfl); clear hA108
   clear hH105 hS104 hs_0 hs_1 hs_2 hs_3 hs_4 hs_5 hs_6 hs_7 hs_8 hs_9 hs_10 hs_11 hs_12 hs_13 hs_14 hs_15
   clear hr_0
   clear hv_0
   clear hr_1
   clear hv_1
   clear hr_2
   clear hv_2
   clear hr_3
   clear hv_3
   clear hr_4
   clear hv_4
   clear hr_5
   clear hv_5
   clear hr_6
   clear hv_6
   clear hr_7
   clear hv_7
   clear hr_8
   clear hv_8
   clear hr_9
   clear hv_9
   clear hr_10
   clear hv_10
   clear hr_11
   clear hv_11
   clear hr_12
   clear hv_12
   clear hr_13
   clear hv_13
   clear hr_14
   clear hv_14
   clear hr_15
   clear hv_15
   refine s2 hA109 (op_append hS107 rfl un_104 el_107 (hA109.ev rfl) (hA109.ev rfl) (i := 1) rfl (SlAt.of_row (hS107.ok_row 0 rfl)) rfl (by simp only [maxLen]; omega) (by omega)) ?_
   intro a110 v113 w112 hS114 hA111
   have hS115 := hS114.row_say (i := 1) rfl (n' := (((b.tabs.getD k tab0).rows.take j) ++ [(b.tabs.getD k tab0).rows.getD j (0, 0)]).length) (xs' := (pairs (((b.tabs.getD k tab0).rows.take j) ++ [(b.tabs.getD k tab0).rows.getD j (0, 0)]))) (by simp) (by simp [pairs]); clear hS114 hA109 hS107 a101
   refine s1 hA111 (op_field rfl fd_106_2 (hA111.ev rfl)) fun a116 hA117 => ?_; clear hA111 a110
   refine s7 hA117 (op_store hS115 rfl ty_104 (hA117.ev rfl) (hA117.ev rfl) (i := 3) rfl (vs := [v113]) (isSl_cells (SlAt.isSl (SlAt.of_row (hS115.ok_row 1 rfl)))) rfl (all_c (SlAt.one (SlAt.of_row (hS115.ok_row 1 rfl))) all_n) (Nat.le_of_ble_eq_true rfl)) ?_
   intro _ w118 hS119 hA120; clear hA117
   have hS121 : Sep NoB w w118 [(row (vs100 15) 107 2 1 [(Value.int .i64 ((((b.tabs.getD k tab0).rows).getD j (0, 0)).1)), (Value.int .i64 ((((b.tabs.getD k tab0).rows).getD j (0, 0)).2))]), (row v113 107 2 ((((b.tabs.getD k tab0).rows.take j) ++ [(b.tabs.getD k tab0).rows.getD j (0, 0)]).length) (pairs (((b.tabs.getD k tab0).rows.take j) ++ [(b.tabs.getD k tab0).rows.getD j (0, 0)]))), (row (vs66 6) 3 1 ((b.tabs.getD k tab0).brk.length) (ints ((b.tabs.getD k tab0).brk))), (blk b10_ 106 [(Value.int .i64 ((b.tabs.getD k tab0).frm)), (Value.int .i64 ((b.tabs.getD k tab0).dst)), v113, (vs66 6), (Value.int .i64 ((b.tabs.getD k tab0).err))]), (blk b58 46 [(Value.int .i64 ((b.tabs.getD k tab0).frm)), (Value.int .i64 ((b.tabs.getD k tab0).dst)), (lr k), (lb k), (Value.int .i64 ((b.tabs.getD k tab0).err))]), (slsR true ((b.tabs.take k).length) lr_ 2 (rowsN (b.tabs.take k)) (rowsC (b.tabs.take k))), (slsR true ((b.tabs.take k).length) lb_ 1 (brkN (b.tabs.take k)) (brkC (b.tabs.take k))), (row vt_ 106 5 ((b.tabs.take k).length) (tabsC lr_ lb_ (b.tabs.take k))), (blk b20 37 [(Value.int .i64 b.scales), vt_, (Value.slice none 0 0)]), (blk b9 37 [(Value.int .i64 0), (Value.slice none 0 0), (Value.slice none 0 0)]), (blk b4 25 [(Value.int .i64 b.scales), vt, vm]), (tabsR false vt lr lb b.tabs), (macsR false vm lk b.macs)] := hS119; clear hS119 hS115
   refine wl_nil ?_
   refine blk_n ?_
   refine then_n ?_
   refine c_region ?_
   refine s1 hA120 (op_move rfl (hA120.ev rfl)) fun a122 hA123 => ?_; clear hA120 a116
   refine s1 hA123 (op_add rfl (hA123.ev rfl) (evc _ _) (by omega) (by omega)) fun a124 hA125 => ?_; clear hA123 a122
   refine s1 hA125 (op_assign rfl (hA125.ev rfl)) fun a126 hA127 => ?_; clear hA125 a124
   refine wl_nil ?_
   have hS128 : Sep NoB w w118 [(row v113 107 2 ((((b.tabs.getD k tab0).rows.take j) ++ [(b.tabs.getD k tab0).rows.getD j (0, 0)]).length) (pairs (((b.tabs.getD k tab0).rows.take j) ++ [(b.tabs.getD k tab0).rows.getD j (0, 0)]))), (row (vs66 6) 3 1 ((b.tabs.getD k tab0).brk.length) (ints ((b.tabs.getD k tab0).brk))), (blk b10_ 106 [(Value.int .i64 ((b.tabs.getD k tab0).frm)), (Value.int .i64 ((b.tabs.getD k tab0).dst)), v113, (vs66 6), (Value.int .i64 ((b.tabs.getD k tab0).err))]), (blk b58 46 [(Value.int .i64 ((b.tabs.getD k tab0).frm)), (Value.int .i64 ((b.tabs.getD k tab0).dst)), (lr k), (lb k), (Value.int .i64 ((b.tabs.getD k tab0).err))]), (slsR true ((b.tabs.take k).length) lr_ 2 (rowsN (b.tabs.take k)) (rowsC (b.tabs.take k))), (slsR true ((b.tabs.take k).length) lb_ 1 (brkN (b.tabs.take k)) (brkC (b.tabs.take k))), (row vt_ 106 5 ((b.tabs.take k).length) (tabsC lr_ lb_ (b.tabs.take k))), (blk b20 37 [(Value.int .i64 b.scales), vt_, (Value.slice none 0 0)]), (blk b9 37 [(Value.int .i64 0), (Value.slice none 0 0), (Value.slice none 0 0)]), (blk b4 25 [(Value.int .i64 b.scales), vt, vm]), (tabsR false vt lr lb b.tabs), (macsR false vm lk b.macs)] := hS121.keep [1, 2, 3, 4, 5, 6, 7, 8, 9, 10, 11, 12] (by decide) _ rfl rfl; clear hS121
   exact then_n ⟨j + 1, ⟨v113, hA127.as _ rfl, (hS128.row_say (i := 0) rfl (by rw [take_tab (by omega)]) (by rw [take_tab (by omega)])), by omega⟩, by omega⟩
  ·skip
   rw [decide_eq_false hb98] at hA97
   refine c_false hA97 rfl ?_
   refine c_exit ?_
   refine then_exit ?_
   refine then_exit ?_
   refine blk_hit ?_
   refine then_n ?_
   have hA129 := hA97.as [(6, (bptr b10_ 0)), (4, (Value.int .i64 (k : Int))), (3, (bptr b20 0)), (2, (bptr b9 0)), (1, (bptr b4 0))] rfl; clear hA97
   refine c_region ?_
   refine s1 hA129 (op_field rfl fd_37_1 (hA129.ev rfl)) fun a130 hA131 => ?_; clear hA129 a96
   refine s1 hA131 (op_load1 rfl ty_34 (hA131.ev rfl) (hS87.bk 7 rfl) rfl) fun a132 hA133 => ?_; clear hA131 a130
   refine s1 hA133 (op_loadA rfl ty_106 (hA133.ev rfl) (hS87.bk 2 rfl) (l := [(Value.int .i64 ((b.tabs.getD k tab0).frm)), (Value.int .i64 ((b.tabs.getD k tab0).dst)), vr_, (vs66 6), (Value.int .i64 ((b.tabs.getD k tab0).err))]) rfl rfl) fun a134 hA135 => ?_; clear hA133 a132
   refine s2 hA135 (op_buildSlice hS87 rfl (pv1 (hA135.ev rfl)) un_34 ty_106 ze_106 (by decide) (cs := [(Value.int .i64 ((b.tabs.getD k tab0).frm)), (Value.int .i64 ((b.tabs.getD k tab0).dst)), vr_, (vs66 6), (Value.int .i64 ((b.tabs.getD k tab0).err))]) (bs_106_1_0iivvia _ _ _ _ _)) ?_
   rintro a136 _ w138 ⟨b139, rfl, hS140⟩ hA137; clear hA135 hS87 a134
   refine s2 hA137 (op_append hS140 rfl un_34 el_106 (hA137.ev rfl) (hA137.ev rfl) (i := 7) rfl (SlAt.of_blk (hS140.bk 0 rfl) rfl (Nat.le_of_ble_eq_true rfl)) (all_c rfl (all_c rfl (all_c (SlAt.one (SlAt.of_row (hS140.ok_row 1 rfl))) (all_c (SlAt.one (SlAt.of_row (hS140.ok_row 2 rfl))) (all_c rfl all_n))))) (by simp only [maxLen]; omega) (by omega)) ?_
   intro a141 v144 w143 hS145 hA142
   have hS146 := hS145.row_say (i := 7) rfl (n' := ((b.tabs.take k) ++ [(b.tabs.getD k tab0)]).length) (xs' := (tabsC (putV (b.tabs.take k).length lr_ vr_) (putV (b.tabs.take k).length lb_ (vs66 6)) ((b.tabs.take k) ++ [(b.tabs.getD k tab0)]))) (by simp) (tabs_snoc (b.tabs.getD k tab0) vr_ (vs66 6)); clear hS145 hA137 hS140 a136
   refine s1 hA142 (op_field rfl fd_37_1 (hA142.ev rfl)) fun a147 hA148 => ?_; clear hA142 a141
   refine s7 hA148 (op_store hS146 rfl ty_34 (hA148.ev rfl) (hA148.ev rfl) (i := 8) rfl (vs := [v144]) (isSl_cells (SlAt.isSl (SlAt.of_row (hS146.ok_row 7 rfl)))) rfl (all_c (SlAt.one (SlAt.of_row (hS146.ok_row 7 rfl))) all_n) (Nat.le_of_ble_eq_true rfl)) ?_
   intro _ w149 hS150 hA151; clear hA148
   have hS152 : Sep NoB w w149 [(blk b139 106 [(Value.int .i64 ((b.tabs.getD k tab0).frm)), (Value.int .i64 ((b.tabs.getD k tab0).dst)), vr_, (vs66 6), (Value.int .i64 ((b.tabs.getD k tab0).err))]), (row vr_ 107 2 (((b.tabs.getD k tab0).rows.take j).length) (pairs ((b.tabs.getD k tab0).rows.take j))), (row (vs66 6) 3 1 ((b.tabs.getD k tab0).brk.length) (ints ((b.tabs.getD k tab0).brk))), (blk b10_ 106 [(Value.int .i64 ((b.tabs.getD k tab0).frm)), (Value.int .i64 ((b.tabs.getD k tab0).dst)), vr_, (vs66 6), (Value.int .i64 ((b.tabs.getD k tab0).err))]), (blk b58 46 [(Value.int .i64 ((b.tabs.getD k tab0).frm)), (Value.int .i64 ((b.tabs.getD k tab0).dst)), (lr k), (lb k), (Value.int .i64 ((b.tabs.getD k tab0).err))]), (slsR true ((b.tabs.take k).length) lr_ 2 (rowsN (b.tabs.take k)) (rowsC (b.tabs.take k))), (slsR true ((b.tabs.take k).length) lb_ 1 (brkN (b.tabs.take k)) (brkC (b.tabs.take k))), (row v144 106 5 (((b.tabs.take k) ++ [(b.tabs.getD k tab0)]).length) (tabsC (putV (b.tabs.take k).length lr_ vr_) (putV (b.tabs.take k).length lb_ (vs66 6)) ((b.tabs.take k) ++ [(b.tabs.getD k tab0)]))), (blk b20 37 [(Value.int .i64 b.scales), v144, (Value.slice none 0 0)]), (blk b9 37 [(Value.int .i64 0), (Value.slice none 0 0), (Value.slice none 0 0)]), (blk b4 25 [(Value.int .i64 b.scales), vt, vm]), (tabsR false vt lr lb b.tabs), (macsR false vm lk b.macs)] := hS150; clear hS150 hS146
   refine wl_nil ?_
   refine blk_n ?_
   refine then_n ?_
   have hA153 := hA151.as [(4, (Value.int .i64 (k : Int))), (3, (bptr b20 0)), (2, (bptr b9 0)), (1, (bptr b4 0))] rfl; clear hA151
   refine c_region ?_
   refine s1 hA153 (op_move rfl (hA153.ev rfl)) fun a154 hA155 => ?_; clear hA153 a147
   refine s1 hA155 (op_add rfl (hA155.ev rfl) (evc _ _) (by omega) (by omega)) fun a156 hA157 => ?_; clear hA155 a154
   refine s1 hA157 (op_assign rfl (hA157.ev rfl)) fun a158 hA159 => ?_; clear hA157 a156
   refine wl_nil ?_
   have hS160 := hS152.row_say (i := 1) rfl (n' := (b.tabs.getD k tab0).rows.length) (xs' := pairs (b.tabs.getD k tab0).rows) (by rw [List.take_of_length_le (by omega)]) (by rw [List.take_of_length_le (by omega)]); clear hS152
   have hS161 : Sep NoB w w149 [(row vr_ 107 2 ((b.tabs.getD k tab0).rows.length) (pairs ((b.tabs.getD k tab0).rows))), (slsR true ((b.tabs.take k).length) lr_ 2 (rowsN (b.tabs.take k)) (rowsC (b.tabs.take k))), (blk b139 106 [(Value.int .i64 ((b.tabs.getD k tab0).frm)), (Value.int .i64 ((b.tabs.getD k tab0).dst)), vr_, (vs66 6), (Value.int .i64 ((b.tabs.getD k tab0).err))]), (row (vs66 6) 3 1 ((b.tabs.getD k tab0).brk.length) (ints ((b.tabs.getD k tab0).brk))), (blk b10_ 106 [(Value.int .i64 ((b.tabs.getD k tab0).frm)), (Value.int .i64 ((b.tabs.getD k tab0).dst)), vr_, (vs66 6), (Value.int .i64 ((b.tabs.getD k tab0).err))]), (blk b58 46 [(Value.int .i64 ((b.tabs.getD k tab0).frm)), (Value.int .i64 ((b.tabs.getD k tab0).dst)), (lr k), (lb k), (Value.int .i64 ((b.tabs.getD k tab0).err))]), (slsR true ((b.tabs.take k).length) lb_ 1 (brkN (b.tabs.take k)) (brkC (b.tabs.take k))), (row v144 106 5 (((b.tabs.take k) ++ [(b.tabs.getD k tab0)]).length) (tabsC (putV (b.tabs.take k).length lr_ vr_) (putV (b.tabs.take k).length lb_ (vs66 6)) ((b.tabs.take k) ++ [(b.tabs.getD k tab0)]))), (blk b20 37 [(Value.int .i64 b.scales), v144, (Value.slice none 0 0)]), (blk b9 37 [(Value.int .i64 0), (Value.slice none 0 0), (Value.slice none 0 0)]), (blk b4 25 [(Value.int .i64 b.scales), vt, vm]), (tabsR false vt lr lb b.tabs), (macsR false vm lk b.macs)] := hS160.keep [1, 5, 0, 2, 3, 4, 6, 7, 8, 9, 10, 11, 12] (by decide) _ rfl rfl; clear hS160
   have hS162 := sep_sls_snoc (k' := rowsN (b.tabs.take (k + 1))) (c' := rowsC (b.tabs.take (k + 1))) hS161 (rowsN_new (by omega)).1 (rowsN_new (by omega)).2.1 (fun i hi => (rowsN_old i hi).1); clear hS161
   have hS163 := sep_sls_say (i := 0) (n' := (b.tabs.take (k + 1)).length) (v' := (putV (b.tabs.take k).length lr_ vr_)) (k' := rowsN (b.tabs.take (k + 1))) (c' := rowsC (b.tabs.take (k + 1))) hS162 rfl (take_len1 (by omega)) (fun _ _ => ⟨rfl, rfl, rfl⟩); clear hS162
   have hS165 : Sep NoB w w149 [(row (vs66 6) 3 1 ((b.tabs.getD k tab0).brk.length) (ints ((b.tabs.getD k tab0).brk))), (slsR true ((b.tabs.take k).length) lb_ 1 (brkN (b.tabs.take k)) (brkC (b.tabs.take k))), (slsR true ((b.tabs.take (k + 1)).length) (putV (b.tabs.take k).length lr_ vr_) 2 (rowsN (b.tabs.take (k + 1))) (rowsC (b.tabs.take (k + 1)))), (blk b139 106 [(Value.int .i64 ((b.tabs.getD k tab0).frm)), (Value.int .i64 ((b.tabs.getD k tab0).dst)), vr_, (vs66 6), (Value.int .i64 ((b.tabs.getD k tab0).err))]), (blk b10_ 106 [(Value.int .i64 ((b.tabs.getD k tab0).frm)), (Value.int .i64 ((b.tabs.getD k tab0).dst)), vr_, (vs66 6), (Value.int .i64 ((b.tabs.getD k tab0).err))]), (blk b58 46 [(Value.int .i64 ((b.tabs.getD k tab0).frm)), (Value.int .i64 ((b.tabs.getD k tab0).dst)), (lr k), (lb k), (Value.int .i64 ((b.tabs.getD k tab0).err))]), (row v144 106 5 (((b.tabs.take k) ++ [(b.tabs.getD k tab0)]).length) (tabsC (putV (b.tabs.take k).length lr_ vr_) (putV (b.tabs.take k).length lb_ (vs66 6)) ((b.tabs.take k) ++ [(b.tabs.getD k tab0)]))), (blk b20 37 [(Value.int .i64 b.scales), v144, (Value.slice none 0 0)]), (blk b9 37 [(Value.int .i64 0), (Value.slice none 0 0), (Value.slice none 0 0)]), (blk b4 25 [(Value.int .i64 b.scales), vt, vm]), (tabsR false vt lr lb b.tabs), (macsR false vm lk b.macs)] := hS163.keep [2, 5, 0, 1, 3, 4, 6, 7, 8, 9, 10, 11] (by decide) _ rfl rfl; clear hS163
   have hS166 := sep_sls_snoc (k' := brkN (b.tabs.take (k + 1))) (c' := brkC (b.tabs.take (k + 1))) hS165 (rowsN_new (by omega)).2.2.1 (rowsN_new (by omega)).2.2.2 (fun i hi => (rowsN_old i hi).2); clear hS165
   have hS167 := sep_sls_say (i := 0) (n' := (b.tabs.take (k + 1)).length) (v' := (putV (b.tabs.take k).length lb_ (vs66 6))) (k' := brkN (b.tabs.take (k + 1))) (c' := brkC (b.tabs.take (k + 1))) hS166 rfl (take_len1 (by omega)) (fun _ _ => ⟨rfl, rfl, rfl⟩); clear hS166
   have hS168 : Sep NoB w w149 [(slsR true ((b.tabs.take (k + 1)).length) (putV (b.tabs.take k).length lr_ vr_) 2 (rowsN (b.tabs.take (k + 1))) (rowsC (b.tabs.take (k + 1)))), (slsR true ((b.tabs.take (k + 1)).length) (putV (b.tabs.take k).length lb_ (vs66 6)) 1 (brkN (b.tabs.take (k + 1))) (brkC (b.tabs.take (k + 1)))), (row v144 106 5 (((b.tabs.take k) ++ [(b.tabs.getD k tab0)]).length) (tabsC (putV (b.tabs.take k).length lr_ vr_) (putV (b.tabs.take k).length lb_ (vs66 6)) ((b.tabs.take k) ++ [(b.tabs.getD k tab0)]))), (blk b20 37 [(Value.int .i64 b.scales), v144, (Value.slice none 0 0)]), (blk b9 37 [(Value.int .i64 0), (Value.slice none 0 0), (Value.slice none 0 0)]), (blk b4 25 [(Value.int .i64 b.scales), vt, vm]), (tabsR false vt lr lb b.tabs), (macsR false vm lk b.macs)] := hS167.keep [1, 0, 5, 6, 7, 8, 9, 10] (by decide) _ rfl rfl; clear hS167
   exact then_n ⟨k + 1, ⟨v144, (putV (b.tabs.take k).length lr_ vr_), (putV (b.tabs.take k).length lb_ (vs66 6)), hA159.as _ rfl, (hS168.row_say (i := 2) rfl (by rw [take_tab (by omega)]) (by rw [take_tab (by omega)])), by omega⟩, by omega⟩
 ·skip
  rw [decide_eq_false hb44] at hA43
  refine c_false hA43 rfl ?_
  refine c_exit ?_
  refine then_exit ?_
  refine then_exit ?_
  refine blk_hit ?_
  refine then_n ?_
  refine c_seq ?_
  refine c_seq ?_
  have hA169 := hA43.as [(3, (bptr b20 0)), (2, (bptr b9 0)), (1, (bptr b4 0))] rfl; clear hA43
  refine c_region ?_
  refine s1 hA169 (op_assign rfl (evc _ _)) fun a170 hA171 => ?_; clear hA169 a42
  refine n1 ?_
  refine c_block ?_
  have hkt : k = b.tabs.length := by omega
  have hS172 : Sep NoB w w32 [(row vt_ 106 5 ((b.tabs.take k).length) (tabsC lr_ lb_ (b.tabs.take k))), (slsR true ((b.tabs.take k).length) lr_ 2 (rowsN (b.tabs.take k)) (rowsC (b.tabs.take k))), (slsR true ((b.tabs.take k).length) lb_ 1 (brkN (b.tabs.take k)) (brkC (b.tabs.take k))), (blk b20 37 [(Value.int .i64 b.scales), vt_, (Value.slice none 0 0)]), (blk b9 37 [(Value.int .i64 0), (Value.slice none 0 0), (Value.slice none 0 0)]), (blk b4 25 [(Value.int .i64 b.scales), vt, vm]), (tabsR false vt lr lb b.tabs), (macsR false vm lk b.macs)] := hS33.keep [2, 0, 1, 3, 4, 5, 6, 7] (by decide) _ rfl rfl; clear hS33
  rw [hkt, List.take_length] at hS172
  have hS173 := sep_tabs_join hS172; clear hS172
  have hS174 := sep_sls_nil (hS173.nil_row 103 2) (fun _ => Value.slice none 0 0) 3 (blkN (b.macs.take 0)) (blkC (b.macs.take 0)); clear hS173
  have hA175 := hA171.as [(8, (Value.int .i64 0)), (3, (bptr b20 0)), (2, (bptr b9 0)), (1, (bptr b4 0))] rfl; clear hA171
  refine c_loop (G := Nat) (fun (m : Nat) a_ w_ => ∃ vm_ : Value, ∃ lk_ : Nat → Value, Fr 116 [] [(8, (Value.int .i64 (m : Int))), (3, (bptr b20 0)), (2, (bptr b9 0)), (1, (bptr b4 0))] a_ ∧ Sep NoB w w_ [(slsR true ((b.macs.take m).length) lk_ 3 (blkN (b.macs.take m)) (blkC (b.macs.take m))), (row vm_ 103 2 ((b.macs.take m).length) (macsC lk_ (b.macs.take m))), (tabsR true vt_ lr_ lb_ b.tabs), (blk b20 37 [(Value.int .i64 b.scales), vt_, vm_]), (blk b9 37 [(Value.int .i64 0), (Value.slice none 0 0), (Value.slice none 0 0)]), (blk b4 25 [(Value.int .i64 b.scales), vt, vm]), (tabsR false vt lr lb b.tabs), (macsR false vm lk b.macs)] ∧ (m ≤ b.macs.length)) (fun m => b.macs.length - m) 0 ⟨(Value.slice none 0 0), (fun _ => Value.slice none 0 0), hA175.as _ rfl, (hS174.row_say (i := 1) rfl (by rfl) (by rfl)), (Nat.zero_le _)⟩ ?_
  clear hA175 hS174 a170
  rintro m a176 w178 ⟨vm_, lk_, hA177, hS179, hkm⟩
  have hmtk : (b.macs.take m).length = m := by rw [List.length_take]; omega
  refine c_seq ?_
  refine m2 ?_
  refine s1 hA177 (op_move rfl (hA177.ev rfl)) fun a180 hA181 => ?_; clear hA177 a176
  refine s1 hA181 (op_field rfl fd_25_2 (hA181.ev rfl)) fun a182 hA183 => ?_; clear hA181 a180
  refine s1 hA183 (op_load1 rfl ty_23 (hA183.ev rfl) (hS179.bk 5 rfl) rfl) fun a184 hA185 => ?_; clear hA183 a182
  refine s1 hA185 (op_lenS rfl un_23 (hA185.ev rfl) (macs_at (hS179.ok 7 _ rfl)).macs) fun a186 hA187 => ?_; clear hA185 a184
  refine s1 hA187 (op_lss rfl (hA187.ev rfl) (hA187.ev rfl)) fun a188 hA189 => ?_; clear hA187 a186
  refine n1 ?_
  by_cases hb190 : (m : Int) < (b.macs.length : Int)
  ·skip
   rw [decide_eq_true hb190] at hA189
   have hmkk := hth.mac m
   refine c_true hA189 rfl ?_
   refine c_skip ?_
   refine then_n ?_
   refine c_seq ?_
   refine c_block ?_
   refine m2 ?_
   refine s1 hA189 (op_field rfl fd_25_2 (hA189.ev rfl)) fun a191 hA192 => ?_; clear hA189 a188
   refine s1 hA192 (op_load1 rfl ty_23 (hA192.ev rfl) (hS179.bk 5 rfl) rfl) fun a193 hA194 => ?_; clear hA192 a191
   refine s1 hA194 (op_move rfl (hA194.ev rfl)) fun a195 hA196 => ?_; clear hA194 a193
   refine s1 hA196 (op_indexS rfl un_23 ty_61 (hA196.ev rfl) (i := m) (hA196.ev rfl) (macs_at (hS179.ok 7 _ rfl)).macs (by decide) (by omega)) fun a197 hA198 => ?_; clear hA196 a195
   refine s1 hA198 (op_loadAE rfl ty_61 (hA198.ev rfl) (macs_at (hS179.ok 7 _ rfl)).macs (macs_all (by omega)) rfl (by decide)) fun a199 hA200 => ?_; clear hA198 a197
   refine s2 hA200 (op_alloc hS179 rfl ze_61 (cs := [(Value.int .i64 0), (Value.slice none 0 0)]) rfl) ?_
   rintro a201 _ w203 ⟨b204, rfl, hS205⟩ hA202; clear hA200 hS179 a199
   refine s7 hA202 (op_store hS205 rfl ty_61 (hA202.ev rfl) (hA202.ev rfl) (i := 0) rfl (vs := [(Value.int .i64 ((b.macs.getD m mac0).scale)), (lk m)]) rfl rfl (all_c rfl (all_c (SlAt.one ((macs_at (hS205.ok 8 _ rfl)).blk (i := m) (by omega))) all_n)) (Nat.le_of_ble_eq_true rfl)) ?_
   intro _ w206 hS207 hA208; clear hA202
   have hS209 : Sep NoB w w206 [(blk b204 61 [(Value.int .i64 ((b.macs.getD m mac0).scale)), (lk m)]), (slsR true ((b.macs.take m).length) lk_ 3 (blkN (b.macs.take m)) (blkC (b.macs.take m))), (row vm_ 103 2 ((b.macs.take m).length) (macsC lk_ (b.macs.take m))), (tabsR true vt_ lr_ lb_ b.tabs), (blk b20 37 [(Value.int .i64 b.scales), vt_, vm_]), (blk b9 37 [(Value.int .i64 0), (Value.slice none 0 0), (Value.slice none 0 0)]), (blk b4 25 [(Value.int .i64 b.scales), vt, vm]), (tabsR false vt lr lb b.tabs), (macsR false vm lk b.macs)] := hS207; clear hS207 hS205
   refine n2 ?_
   have hA210 := hA208.as [(9, (bptr b204 0)), (8, (Value.int .i64 (m : Int))), (3, (bptr b20 0)), (2, (bptr b9 0)), (1, (bptr b4 0))] rfl; clear hA208
   refine c_region ?_
   refine s1 hA210 (op_field rfl fd_61_0 (hA210.ev rfl)) fun a211 hA212 => ?_; clear hA210 a201
   refine s1 hA212 (op_load1 rfl ty_3 (hA212.ev rfl) (hS209.bk 0 rfl) rfl) fun a213 hA214 => ?_; clear hA212 a211
   refine s1 hA214 (op_build rfl (pv1 (hA214.ev rfl)) (bd_103_0i _)) fun a215 hA216 => ?_; clear hA214 a213
   refine s2 hA216 (op_alloc hS209 rfl ze_103 (cs := [(Value.int .i64 0), (Value.slice none 0 0)]) rfl) ?_
   rintro a217 _ w219 ⟨b220, rfl, hS221⟩ hA218; clear hA216 hS209 a215
   refine s7 hA218 (op_store hS221 rfl ty_103 (hA218.ev rfl) (hA218.ev rfl) (i := 0) rfl (vs := [(Value.int .i64 ((b.macs.getD m mac0).scale)), (Value.slice none 0 0)]) rfl rfl (all_c rfl (all_c rfl all_n)) (Nat.le_of_ble_eq_true rfl)) ?_
   intro _ w222 hS223 hA224; clear hA218
   have hS225 : Sep NoB w w222 [(blk b220 103 [(Value.int .i64 ((b.macs.getD m mac0).scale)), (Value.slice none 0 0)]), (blk b204 61 [(Value.int .i64 ((b.macs.getD m mac0).scale)), (lk m)]), (slsR true ((b.macs.take m).length) lk_ 3 (blkN (b.macs.take m)) (blkC (b.macs.take m))), (row vm_ 103 2 ((b.macs.take m).length) (macsC lk_ (b.macs.take m))), (tabsR true vt_ lr_ lb_ b.tabs), (blk b20 37 [(Value.int .i64 b.scales), vt_, vm_]), (blk b9 37 [(Value.int .i64 0), (Value.slice none 0 0), (Value.slice none 0 0)]), (blk b4 25 [(Value.int .i64 b.scales), vt, vm]), (tabsR false vt lr lb b.tabs), (macsR false vm lk b.macs)] := hS223; clear hS223 hS221
   refine n2 ?_
   refine m2 ?_
   refine s1 hA224 (op_assign rfl (evc _ _)) fun a226 hA227 => ?_; clear hA224 a217
   refine n1 ?_
   refine c_block ?_
   have hS228 := hS225.nil_row 100 3; clear hS225
   have hA229 := hA227.as [(11, (Value.int .i64 0)), (10, (bptr b220 0)), (9, (bptr b204 0)), (8, (Value.int .i64 (m : Int))), (3, (bptr b20 0)), (2, (bptr b9 0)), (1, (bptr b4 0))] rfl; clear hA227
   refine c_loop (G := Nat) (fun (q : Nat) a_ w_ => ∃ vk_ : Value, Fr 116 [] [(11, (Value.int .i64 (q : Int))), (10, (bptr b220 0)), (9, (bptr b204 0)), (8, (Value.int .i64 (m : Int))), (3, (bptr b20 0)), (2, (bptr b9 0)), (1, (bptr b4 0))] a_ ∧ Sep NoB w w_ [(row vk_ 100 3 (((b.macs.getD m mac0).blocks.take q).length) (trips ((b.macs.getD m mac0).blocks.take q))), (blk b220 103 [(Value.int .i64 ((b.macs.getD m mac0).scale)), vk_]), (blk b204 61 [(Value.int .i64 ((b.macs.getD m mac0).scale)), (lk m)]), (slsR true ((b.macs.take m).length) lk_ 3 (blkN (b.macs.take m)) (blkC (b.macs.take m))), (row vm_ 103 2 ((b.macs.take m).length) (macsC lk_ (b.macs.take m))), (tabsR true vt_ lr_ lb_ b.tabs), (blk b20 37 [(Value.int .i64 b.scales), vt_, vm_]), (blk b9 37 [(Value.int .i64 0), (Value.slice none 0 0), (Value.slice none 0 0)]), (blk b4 25 [(Value.int .i64 b.scales), vt, vm]), (tabsR false vt lr lb b.tabs), (macsR false vm lk b.macs)] ∧ (q ≤ (b.macs.getD m mac0).blocks.length)) (fun q => (b.macs.getD m mac0).blocks.length - q) 0 ⟨(Value.slice none 0 0), hA229.as _ rfl, (hS228.row_say (i := 0) rfl (by rfl) (by rfl)), (Nat.zero_le _)⟩ ?_
   clear hA229 hS228 a226
   rintro q a230 w232 ⟨vk_, hA231, hS233, hkq⟩
   have hlt_q : ((b.macs.getD m mac0).blocks.take q).length ≤ 12 := by simp only [List.length_take]; omega
   refine c_seq ?_
   refine m2 ?_
   refine s1 hA231 (op_move rfl (hA231.ev rfl)) fun a234 hA235 => ?_; clear hA231 a230
   refine s1 hA235 (op_field rfl fd_61_1 (hA235.ev rfl)) fun a236 hA237 => ?_; clear hA235 a234
   refine s1 hA237 (op_load1 rfl ty_59 (hA237.ev rfl) (hS233.bk 2 rfl) rfl) fun a238 hA239 => ?_; clear hA237 a236
   refine s1 hA239 (op_lenS rfl un_59 (hA239.ev rfl) ((macs_at (hS233.ok 10 _ rfl)).blk (i := m) (by omega))) fun a240 hA241 => ?_; clear hA239 a238
   refine s1 hA241 (op_lss rfl (hA241.ev rfl) (hA241.ev rfl)) fun a242 hA243 => ?_; clear hA241 a240
   refine n1 ?_
   by_cases hb244 : (q : Int) < ((b.macs.getD m mac0).blocks.length : Int)
   ·skip
    rw [decide_eq_true hb244] at hA243
    refine c_true hA243 rfl ?_
    refine c_skip ?_
    refine then_n ?_
    refine c_seq ?_
    refine c_block ?_
    have hA245 := hA243.as [(11, (Value.int .i64 (q : Int))), (10, (bptr b220 0)), (9, (bptr b204 0)), (8, (Value.int .i64 (m : Int))), (3, (bptr b20 0)), (2, (bptr b9 0)), (1, (bptr b4 0))] rfl; clear hA243
    refine c_drawV mixed hA245 hS233 17 [[], [0], [], [2], [], [3, 4], [5], [6], [7], [], [9], [], [10, 11], [12], [13], [8, 14], [15]] [(fun (vs246 : Nat → Value) (v_ : Value) (rs_ : List Res) => v_ = (bptr b220 1) ∧ rs_ = []), (fun (vs246 : Nat → Value) (v_ : Value) (rs_ : List Res) => v_ = vk_ ∧ rs_ = []), (fun (vs246 : Nat → Value) (v_ : Value) (rs_ : List Res) => v_ = (bptr b204 1) ∧ rs_ = []), (fun (vs246 : Nat → Value) (v_ : Value) (rs_ : List Res) => v_ = (lk m) ∧ rs_ = []), (fun (vs246 : Nat → Value) (v_ : Value) (rs_ : List Res) => v_ = (Value.int .i64 (q : Int)) ∧ rs_ = []), (fun (vs246 : Nat → Value) (v_ : Value) (rs_ : List Res) => v_ = (eptr (lk m) (q * 3)) ∧ rs_ = []), (fun (vs246 : Nat → Value) (v_ : Value) (rs_ : List Res) => v_ = (eptr (lk m) (q * 3 + 0)) ∧ rs_ = []), (fun (vs246 : Nat → Value) (v_ : Value) (rs_ : List Res) => v_ = (Value.agg #[(Value.int .i64 ((((b.macs.getD m mac0).blocks).getD q (0, 0, 0)).1)), (Value.int .i64 ((((b.macs.getD m mac0).blocks).getD q (0, 0, 0)).2.1))]) ∧ rs_ = []), (fun (vs246 : Nat → Value) (v_ : Value) (rs_ : List Res) => v_ = (Value.agg #[(Value.int .i64 ((((b.macs.getD m mac0).blocks).getD q (0, 0, 0)).1)), (Value.int .i64 ((((b.macs.getD m mac0).blocks).getD q (0, 0, 0)).2.1))]) ∧ rs_ = []), (fun (vs246 : Nat → Value) (v_ : Value) (rs_ : List Res) => v_ = (bptr b204 1) ∧ rs_ = []), (fun (vs246 : Nat → Value) (v_ : Value) (rs_ : List Res) => v_ = (lk m) ∧ rs_ = []), (fun (vs246 : Nat → Value) (v_ : Value) (rs_ : List Res) => v_ = (Value.int .i64 (q : Int)) ∧ rs_ = []), (fun (vs246 : Nat → Value) (v_ : Value) (rs_ : List Res) => v_ = (eptr (lk m) (q * 3)) ∧ rs_ = []), (fun (vs246 : Nat → Value) (v_ : Value) (rs_ : List Res) => v_ = (eptr (lk m) (q * 3 + 2)) ∧ rs_ = []), (fun (vs246 : Nat → Value) (v_ : Value) (rs_ : List Res) => v_ = (Value.int .i64 ((((b.macs.getD m mac0).blocks).getD q (0, 0, 0)).2.2)) ∧ rs_ = []), (fun (vs246 : Nat → Value) (v_ : Value) (rs_ : List Res) => v_ = (Value.agg #[(Value.int .i64 ((((b.macs.getD m mac0).blocks).getD q (0, 0, 0)).1)), (Value.int .i64 ((((b.macs.getD m mac0).blocks).getD q (0, 0, 0)).2.1)), (Value.int .i64 ((((b.macs.getD m mac0).blocks).getD q (0, 0, 0)).2.2))]) ∧ rs_ = []), (fun (vs246 : Nat → Value) (v_ : Value) (rs_ : List Res) => True ∧ rs_ = [(row v_ 100 3 1 [(Value.int .i64 ((((b.macs.getD m mac0).blocks).getD q (0, 0, 0)).1)), (Value.int .i64 ((((b.macs.getD m mac0).blocks).getD q (0, 0, 0)).2.1)), (Value.int .i64 ((((b.macs.getD m mac0).blocks).getD q (0, 0, 0)).2.2))])])] (by decide +kernel) (by decide +kernel) rfl rfl ⟨(fun _ _ _ _ _ h_ => h_), (fun _ _ _ _ _ h_ => h_), (fun _ _ _ _ _ h_ => h_), (fun _ _ _ _ _ h_ => h_), (fun _ _ _ _ _ h_ => h_), (fun _ _ _ _ _ h_ => h_), (fun _ _ _ _ _ h_ => h_), (fun _ _ _ _ _ h_ => h_), (fun _ _ _ _ _ h_ => h_), (fun _ _ _ _ _ h_ => h_), (fun _ _ _ _ _ h_ => h_), (fun _ _ _ _ _ h_ => h_), (fun _ _ _ _ _ h_ => h_), (fun _ _ _ _ _ h_ => h_), (fun _ _ _ _ _ h_ => h_), (fun _ _ _ _ _ h_ => h_), (fun _ _ _ _ _ h_ => h_), trivial⟩ ?_ ?_
    ·skip
     refine ⟨fun a w vs246 hA hS hd => ?_, ?_⟩
     ·skip
      exact opG_of rfl (vv (op_field rfl fd_103_1 (hA.ev rfl)) (And.intro rfl rfl))
     refine ⟨fun a w vs246 hA hS hd => ?_, ?_⟩
     ·skip
      obtain ⟨e0, rs0, hy0, hp0⟩ := hd 0 (by decide)
      obtain ⟨hv0, hr0⟩ := hy0; subst hr0
      rw [hv0] at e0
      exact opG_of rfl (vv (op_load1 rfl ty_101 (tmp_ev (slot_ev e0 rfl)) (hS.bk 1 rfl) rfl) (And.intro rfl rfl))
     refine ⟨fun a w vs246 hA hS hd => ?_, ?_⟩
     ·skip
      exact opG_of rfl (vv (op_field rfl fd_61_1 (hA.ev rfl)) (And.intro rfl rfl))
     refine ⟨fun a w vs246 hA hS hd => ?_, ?_⟩
     ·skip
      obtain ⟨e2, rs2, hy2, hp2⟩ := hd 2 (by decide)
      obtain ⟨hv2, hr2⟩ := hy2; subst hr2
      rw [hv2] at e2
      exact opG_of rfl (vv (op_load1 rfl ty_59 (tmp_ev (slot_ev e2 rfl)) (hS.bk 2 rfl) rfl) (And.intro rfl rfl))
     refine ⟨fun a w vs246 hA hS hd => ?_, ?_⟩
     ·skip
      exact opG_of rfl (vv (op_move rfl (hA.ev rfl)) (And.intro rfl rfl))
     refine ⟨fun a w vs246 hA hS hd => ?_, ?_⟩
     ·skip
      obtain ⟨e3, rs3, hy3, hp3⟩ := hd 3 (by decide)
      obtain ⟨hv3, hr3⟩ := hy3; subst hr3
      rw [hv3] at e3
      obtain ⟨e4, rs4, hy4, hp4⟩ := hd 4 (by decide)
      obtain ⟨hv4, hr4⟩ := hy4; subst hr4
      rw [hv4] at e4
      exact opG_of rfl (vv (op_indexS rfl un_59 ty_63 (tmp_ev (slot_ev e3 rfl)) (i := q) (tmp_ev (slot_ev e4 rfl)) ((macs_at (hS.ok 10 _ rfl)).blk (i := m) (by omega)) (by decide) (by omega)) (And.intro rfl rfl))
     refine ⟨fun a w vs246 hA hS hd => ?_, ?_⟩
     ·skip
      obtain ⟨e5, rs5, hy5, hp5⟩ := hd 5 (by decide)
      obtain ⟨hv5, hr5⟩ := hy5; subst hr5
      rw [hv5] at e5
      exact opG_of rfl (vv (op_fieldS rfl fd_63_0 (tmp_ev (slot_ev e5 rfl)) ((macs_at (hS.ok 10 _ rfl)).blk (i := m) (by omega)) (by rw [(((macs_at (hS.ok 10 _ rfl)).blk (i := m) (by omega))).1]; omega)) (And.intro rfl rfl))
     refine ⟨fun a w vs246 hA hS hd => ?_, ?_⟩
     ·skip
      obtain ⟨e6, rs6, hy6, hp6⟩ := hd 6 (by decide)
      obtain ⟨hv6, hr6⟩ := hy6; subst hr6
      rw [hv6] at e6
      exact opG_of rfl (vv (op_loadAE rfl ty_27 (tmp_ev (slot_ev e6 rfl)) ((macs_at (hS.ok 10 _ rfl)).blk (i := m) (by omega)) (trips_sub0 (by omega)) rfl (by decide)) (And.intro rfl rfl))
     refine ⟨fun a w vs246 hA hS hd => ?_, ?_⟩
     ·skip
      obtain ⟨e7, rs7, hy7, hp7⟩ := hd 7 (by decide)
      obtain ⟨hv7, hr7⟩ := hy7; subst hr7
      rw [hv7] at e7
      exact opG_of rfl (vx (op_call rfl en_20 (ev1 (tmp_ev (slot_ev e7 rfl))) (to_ok _ _ _)) (And.intro rfl rfl))
     refine ⟨fun a w vs246 hA hS hd => ?_, ?_⟩
     ·skip
      exact opG_of rfl (vv (op_field rfl fd_61_1 (hA.ev rfl)) (And.intro rfl rfl))
     refine ⟨fun a w vs246 hA hS hd => ?_, ?_⟩
     ·skip
      obtain ⟨e9, rs9, hy9, hp9⟩ := hd 9 (by decide)
      obtain ⟨hv9, hr9⟩ := hy9; subst hr9
      rw [hv9] at e9
      exact opG_of rfl (vv (op_load1 rfl ty_59 (tmp_ev (slot_ev e9 rfl)) (hS.bk 2 rfl) rfl) (And.intro rfl rfl))
     refine ⟨fun a w vs246 hA hS hd => ?_, ?_⟩
     ·skip
      exact opG_of rfl (vv (op_move rfl (hA.ev rfl)) (And.intro rfl rfl))
     refine ⟨fun a w vs246 hA hS hd => ?_, ?_⟩
     ·skip
      obtain ⟨e10, rs10, hy10, hp10⟩ := hd 10 (by decide)
      obtain ⟨hv10, hr10⟩ := hy10; subst hr10
      rw [hv10] at e10
      obtain ⟨e11, rs11, hy11, hp11⟩ := hd 11 (by decide)
      obtain ⟨hv11, hr11⟩ := hy11; subst hr11
      rw [hv11] at e11
      exact opG_of rfl (vv (op_indexS rfl un_59 ty_63 (tmp_ev (slot_ev e10 rfl)) (i := q) (tmp_ev (slot_ev e11 rfl)) ((macs_at (hS.ok 10 _ rfl)).blk (i := m) (by omega)) (by decide) (by omega)) (And.intro rfl rfl))
     refine ⟨fun a w vs246 hA hS hd => ?_, ?_⟩
     ·skip
      obtain ⟨e12, rs12, hy12, hp12⟩ := hd 12 (by decide)
      obtain ⟨hv12, hr12⟩ := hy12; subst hr12
      rw [hv12] at e12
      exact opG_of rfl (vv (op_fieldS rfl fd_63_1 (tmp_ev (slot_ev e12 rfl)) ((macs_at (hS.ok 10 _ rfl)).blk (i := m) (by omega)) (by rw [(((macs_at (hS.ok 10 _ rfl)).blk (i := m) (by omega))).1]; omega)) (And.intro rfl rfl))
     refine ⟨fun a w vs246 hA hS hd => ?_, ?_⟩
     ·skip
      obtain ⟨e13, rs13, hy13, hp13⟩ := hd 13 (by decide)
      obtain ⟨hv13, hr13⟩ := hy13; subst hr13
      rw [hv13] at e13
      exact opG_of rfl (vv (op_load1E rfl ty_3 (tmp_ev (slot_ev e13 rfl)) ((macs_at (hS.ok 10 _ rfl)).blk (i := m) (by omega)) (trips_at2 (by omega))) (And.intro rfl rfl))
     refine ⟨fun a w vs246 hA hS hd => ?_, ?_⟩
     ·skip
      obtain ⟨e8, rs8, hy8, hp8⟩ := hd 8 (by decide)
      obtain ⟨hv8, hr8⟩ := hy8; subst hr8
      rw [hv8] at e8
      obtain ⟨e14, rs14, hy14, hp14⟩ := hd 14 (by decide)
      obtain ⟨hv14, hr14⟩ := hy14; subst hr14
      rw [hv14] at e14
      exact opG_of rfl (vv (op_build rfl (pv2 (tmp_ev (slot_ev e8 rfl)) (tmp_ev (slot_ev e14 rfl))) (bd_100_0iia_1i _ _ _)) (And.intro rfl rfl))
     refine ⟨fun a w vs246 hA hS hd => ?_, ?_⟩
     ·skip
      obtain ⟨e15, rs15, hy15, hp15⟩ := hd 15 (by decide)
      obtain ⟨hv15, hr15⟩ := hy15; subst hr15
      rw [hv15] at e15
      exact opG_of rfl (vblt rfl (pv1 (tmp_ev (slot_ev e15 rfl))) un_101 ty_100 ze_100 (by decide) (cs := [(Value.int .i64 ((((b.macs.getD m mac0).blocks).getD q (0, 0, 0)).1)), (Value.int .i64 ((((b.macs.getD m mac0).blocks).getD q (0, 0, 0)).2.1)), (Value.int .i64 ((((b.macs.getD m mac0).blocks).getD q (0, 0, 0)).2.2))]) (bs_100_1_0iiia _ _ _) rfl (by decide) (fun _ => And.intro trivial rfl))
     trivial
    intro a247 w248 vs246 rsf252 hA249 hH251 hS250; clear hA245 hS233
    obtain ⟨hs_0, hy_0⟩ := hH251 0 (by decide)
    obtain ⟨hv_0, hr_0⟩ := hy_0
    obtain ⟨hs_1, hy_1⟩ := hH251 1 (by decide)
    obtain ⟨hv_1, hr_1⟩ := hy_1
    obtain ⟨hs_2, hy_2⟩ := hH251 2 (by decide)
    obtain ⟨hv_2, hr_2⟩ := hy_2
    obtain ⟨hs_3, hy_3⟩ := hH251 3 (by decide)
    obtain ⟨hv_3, hr_3⟩ := hy_3
    obtain ⟨hs_4, hy_4⟩ := hH251 4 (by decide)
    obtain ⟨hv_4, hr_4⟩ := hy_4
    obtain ⟨hs_5, hy_5⟩ := hH251 5 (by decide)
    obtain ⟨hv_5, hr_5⟩ := hy_5
    obtain ⟨hs_6, hy_6⟩ := hH251 6 (by decide)
    obtain ⟨hv_6, hr_6⟩ := hy_6
    obtain ⟨hs_7, hy_7⟩ := hH251 7 (by decide)
    obtain ⟨hv_7, hr_7⟩ := hy_7
    obtain ⟨hs_8, hy_8⟩ := hH251 8 (by decide)
    obtain ⟨hv_8, hr_8⟩ := hy_8
    obtain ⟨hs_9, hy_9⟩ := hH251 9 (by decide)
    obtain ⟨hv_9, hr_9⟩ := hy_9
    obtain ⟨hs_10, hy_10⟩ := hH251 10 (by decide)
    obtain ⟨hv_10, hr_10⟩ := hy_10
    obtain ⟨hs_11, hy_11⟩ := hH251 11 (by decide)
    obtain ⟨hv_11, hr_11⟩ := hy_11
    obtain ⟨hs_12, hy_12⟩ := hH251 12 (by decide)
    obtain ⟨hv_12, hr_12⟩ := hy_12
    obtain ⟨hs_13, hy_13⟩ := hH251 13 (by decide)
    obtain ⟨hv_13, hr_13⟩ := hy_13
    obtain ⟨hs_14, hy_14⟩ := hH251 14 (by decide)
    obtain ⟨hv_14, hr_14⟩ := hy_14
    obtain ⟨hs_15, hy_15⟩ := hH251 15 (by decide)
    obtain ⟨hv_15, hr_15⟩ := hy_15
    obtain ⟨hs_16, hy_16⟩ := hH251 16 (by decide)
    obtain ⟨hv_16, hr_16⟩ := hy_16
    have hS253 : Sep NoB w w248 [(row (vs246 16) 100 3 1 [(Value.int .i64 ((((b.macs.getD m mac0).blocks).getD q (0, 0, 0)).1)), (Value.int .i64 ((((b.macs.getD m mac0).blocks).getD q (0, 0, 0)).2.1)), (Value.int .i64 ((((b.macs.getD m mac0).blocks).getD q (0, 0, 0)).2.2))]), (row vk_ 100 3 (((b.macs.getD m mac0).blocks.take q).length) (trips ((b.macs.getD m mac0).blocks.take q))), (blk b220 103 [(Value.int .i64 ((b.macs.getD m mac0).scale)), vk_]), (blk b204 61 [(Value.int .i64 ((b.macs.getD m mac0).scale)), (lk m)]), (slsR true ((b.macs.take m).length) lk_ 3 (blkN (b.macs.take m)) (blkC (b.macs.take m))), (row vm_ 103 2 ((b.macs.take m).length) (macsC lk_ (b.macs.take m))), (tabsR true vt_ lr_ lb_ b.tabs), (blk b20 37 [(Value.int .i64 b.scales), vt_, vm_]), (blk b9 37 [(Value.int .i64 0), (Value.slice none 0 0), (Value.slice none 0 0)]), (blk b4 25 [(Value.int .i64 b.scales), vt, vm]), (tabsR false vt lr lb b.tabs), (macsR false vm lk b.macs)] := by rw [show catR rsf252 0 17 = ([(row (vs246 16) 100 3 1 [(Value.int .i64 ((((b.macs.getD m mac0).blocks).getD q (0, 0, 0)).1)), (Value.int .i64 ((((b.macs.getD m mac0).blocks).getD q (0, 0, 0)).2.1)), (Value.int .i64 ((((b.macs.getD m mac0).blocks).getD q (0, 0, 0)).2.2))])] : List Res) by (try simp only [catR, hr_0, hr_1, hr_2, hr_3, hr_4, hr_5, hr_6, hr_7, hr_8, hr_9, hr_10, hr_11, hr_12, hr_13, hr_14, hr_15, hr_16]); (try rfl)] at hS250; exact hS250
    rw [hv_1] at hs_1
    have hA254 : Fr 116 [] [(91, vk_), (11, (Value.int .i64 (q : Int))), (10, (bptr b220 0)), (9, (bptr b204 0)), (8, (Value.int .i64 (m : Int))), (3, (bptr b20 0)), (2, (bptr b9 0)), (1, (bptr b4 0))] a247 := hA249.add (slot_ev hs_1 rfl); clear hA249
    have hA255 : Fr 116 [] [(106, (vs246 16)), (91, vk_), (11, (Value.int .i64 (q : Int))), (10, (bptr b220 0)), (9, (bptr b204 0)), (8, (Value.int .i64 (m : Int))), (3, (bptr b20 0)), (2, (bptr b9 0)), (1, (bptr b4 0))] a247 := hA254.add (slot_ev hs_16 rfl); clear hA254
    clear hH251 hS250 hs_0 hs_1 hs_2 hs_3 hs_4 hs_5 hs_6 hs_7 hs_8 hs_9 hs_10 hs_11 hs_12 hs_13 hs_14 hs_15 hs_16
    clear hr_0
    clear hv_0
    clear hr_1
    clear hv_1
    clear hr_2
    clear hv_2
    clear hr_3
    clear hv_3
    clear hr_4
    clear hv_4
    clear hr_5
    clear hv_5
    clear hr_6
    clear hv_6
    clear hr_7
    clear hv_7
    clear hr_8
    clear hv_8
    clear hr_9
    clear hv_9
    clear hr_10
    clear hv_10
    clear hr_11
    clear hv_11
    clear hr_12
    clear hv_12
    clear hr_13
    clear hv_13
    clear hr_14
    clear hv_14
    clear hr_15
    clear hv_15
    clear hr_16
    clear hv_16
    refine s2 hA255 (op_append hS253 rfl un_101 el_100 (hA255.ev rfl) (hA255.ev rfl) (i := 1) rfl (SlAt.of_row (hS253.ok_row 0 rfl)) rfl (by simp only [maxLen]; omega) (by omega)) ?_
    intro a256 v259 w258 hS260 hA257
    have hS261 := hS260.row_say (i := 1) rfl (n' := (((b.macs.getD m mac0).blocks.take q) ++ [(b.macs.getD m mac0).blocks.getD q (0, 0, 0)]).length) (xs' := (trips (((b.macs.getD m mac0).blocks.take q) ++ [(b.macs.getD m mac0).blocks.getD q (0, 0, 0)]))) (by simp) (by simp [trips]); clear hS260 hA255 hS253 a247
    refine s1 hA257 (op_field rfl fd_103_1 (hA257.ev rfl)) fun a262 hA263 => ?_; clear hA257 a256
    refine s7 hA263 (op_store hS261 rfl ty_101 (hA263.ev rfl) (hA263.ev rfl) (i := 2) rfl (vs := [v259]) (isSl_cells (SlAt.isSl (SlAt.of_row (hS261.ok_row 1 rfl)))) rfl (all_c (SlAt.one (SlAt.of_row (hS261.ok_row 1 rfl))) all_n) (Nat.le_of_ble_eq_true rfl)) ?_
    intro _ w264 hS265 hA266; clear hA263
    have hS267 : Sep NoB w w264 [(row (vs246 16) 100 3 1 [(Value.int .i64 ((((b.macs.getD m mac0).blocks).getD q (0, 0, 0)).1)), (Value.int .i64 ((((b.macs.getD m mac0).blocks).getD q (0, 0, 0)).2.1)), (Value.int .i64 ((((b.macs.getD m mac0).blocks).getD q (0, 0, 0)).2.2))]), (row v259 100 3 ((((b.macs.getD m mac0).blocks.take q) ++ [(b.macs.getD m mac0).blocks.getD q (0, 0, 0)]).length) (trips (((b.macs.getD m mac0).blocks.take q) ++ [(b.macs.getD m mac0).blocks.getD q (0, 0, 0)]))), (blk b220 103 [(Value.int .i64 ((b.macs.getD m mac0).scale)), v259]), (blk b204 61 [(Value.int .i64 ((b.macs.getD m mac0).scale)), (lk m)]), (slsR true ((b.macs.take m).length) lk_ 3 (blkN (b.macs.take m)) (blkC (b.macs.take m))), (row vm_ 103 2 ((b.macs.take m).length) (macsC lk_ (b.macs.take m))), (tabsR true vt_ lr_ lb_ b.tabs), (blk b20 37 [(Value.int .i64 b.scales), vt_, vm_]), (blk b9 37 [(Value.int .i64 0), (Value.slice none 0 0), (Value.slice none 0 0)]), (blk b4 25 [(Value.int .i64 b.scales), vt, vm]), (tabsR false vt lr lb b.tabs), (macsR false vm lk b.macs)] := hS265; clear hS265 hS261
    refine wl_nil ?_
    refine blk_n ?_
    refine then_n ?_
    refine c_region ?_
    refine s1 hA266 (op_move rfl (hA266.ev rfl)) fun a268 hA269 => ?_; clear hA266 a262
    refine s1 hA269 (op_add rfl (hA269.ev rfl) (evc _ _) (by omega) (by omega)) fun a270 hA271 => ?_; clear hA269 a268
    refine s1 hA271 (op_assign rfl (hA271.ev rfl)) fun a272 hA273 => ?_; clear hA271 a270
    refine wl_nil ?_
    have hS274 : Sep NoB w w264 [(row v259 100 3 ((((b.macs.getD m mac0).blocks.take q) ++ [(b.macs.getD m mac0).blocks.getD q (0, 0, 0)]).length) (trips (((b.macs.getD m mac0).blocks.take q) ++ [(b.macs.getD m mac0).blocks.getD q (0, 0, 0)]))), (blk b220 103 [(Value.int .i64 ((b.macs.getD m mac0).scale)), v259]), (blk b204 61 [(Value.int .i64 ((b.macs.getD m mac0).scale)), (lk m)]), (slsR true ((b.macs.take m).length) lk_ 3 (blkN (b.macs.take m)) (blkC (b.macs.take m))), (row vm_ 103 2 ((b.macs.take m).length) (macsC lk_ (b.macs.take m))), (tabsR true vt_ lr_ lb_ b.tabs), (blk b20 37 [(Value.int .i64 b.scales), vt_, vm_]), (blk b9 37 [(Value.int .i64 0), (Value.slice none 0 0), (Value.slice none 0 0)]), (blk b4 25 [(Value.int .i64 b.scales), vt, vm]), (tabsR false vt lr lb b.tabs), (macsR false vm lk b.macs)] := hS267.keep [1, 2, 3, 4, 5, 6, 7, 8, 9, 10, 11] (by decide) _ rfl rfl; clear hS267
    exact then_n ⟨q + 1, ⟨v259, hA273.as _ rfl, (hS274.row_say (i := 0) rfl (by rw [take_tab (by omega)]) (by rw [take_tab (by omega)])), by omega⟩, by omega⟩
   ·skip
    rw [decide_eq_false hb244] at hA243
    refine c_false hA243 rfl ?_
    refine c_exit ?_
    refine then_exit ?_
    refine then_exit ?_
    refine blk_hit ?_
    refine then_n ?_
    have hA275 := hA243.as [(10, (bptr b220 0)), (8, (Value.int .i64 (m : Int))), (3, (bptr b20 0)), (2, (bptr b9 0)), (1, (bptr b4 0))] rfl; clear hA243
    refine c_region ?_
    refine s1 hA275 (op_field rfl fd_37_2 (hA275.ev rfl)) fun a276 hA277 => ?_; clear hA275 a242
    refine s1 hA277 (op_load1 rfl ty_35 (hA277.ev rfl) (hS233.bk 6 rfl) rfl) fun a278 hA279 => ?_; clear hA277 a276
    refine s1 hA279 (op_loadA rfl ty_103 (hA279.ev rfl) (hS233.bk 1 rfl) (l := [(Value.int .i64 ((b.macs.getD m mac0).scale)), vk_]) rfl rfl) fun a280 hA281 => ?_; clear hA279 a278
    refine s2 hA281 (op_buildSlice hS233 rfl (pv1 (hA281.ev rfl)) un_35 ty_103 ze_103 (by decide) (cs := [(Value.int .i64 ((b.macs.getD m mac0).scale)), vk_]) (bs_103_1_0iva _ _)) ?_
    rintro a282 _ w284 ⟨b285, rfl, hS286⟩ hA283; clear hA281 hS233 a280
    refine s2 hA283 (op_append hS286 rfl un_35 el_103 (hA283.ev rfl) (hA283.ev rfl) (i := 5) rfl (SlAt.of_blk (hS286.bk 0 rfl) rfl (Nat.le_of_ble_eq_true rfl)) (all_c rfl (all_c (SlAt.one (SlAt.of_row (hS286.ok_row 1 rfl))) all_n)) (by simp only [maxLen]; omega) (by omega)) ?_
    intro a287 v290 w289 hS291 hA288
    have hS292 := hS291.row_say (i := 5) rfl (n' := ((b.macs.take m) ++ [(b.macs.getD m mac0)]).length) (xs' := (macsC (putV (b.macs.take m).length lk_ vk_) ((b.macs.take m) ++ [(b.macs.getD m mac0)]))) (by simp) (macs_snoc (b.macs.getD m mac0) vk_); clear hS291 hA283 hS286 a282
    refine s1 hA288 (op_field rfl fd_37_2 (hA288.ev rfl)) fun a293 hA294 => ?_; clear hA288 a287
    refine s7 hA294 (op_store hS292 rfl ty_35 (hA294.ev rfl) (hA294.ev rfl) (i := 7) rfl (vs := [v290]) (isSl_cells (SlAt.isSl (SlAt.of_row (hS292.ok_row 5 rfl)))) rfl (all_c (SlAt.one (SlAt.of_row (hS292.ok_row 5 rfl))) all_n) (Nat.le_of_ble_eq_true rfl)) ?_
    intro _ w295 hS296 hA297; clear hA294
    have hS298 : Sep NoB w w295 [(blk b285 103 [(Value.int .i64 ((b.macs.getD m mac0).scale)), vk_]), (row vk_ 100 3 (((b.macs.getD m mac0).blocks.take q).length) (trips ((b.macs.getD m mac0).blocks.take q))), (blk b220 103 [(Value.int .i64 ((b.macs.getD m mac0).scale)), vk_]), (blk b204 61 [(Value.int .i64 ((b.macs.getD m mac0).scale)), (lk m)]), (slsR true ((b.macs.take m).length) lk_ 3 (blkN (b.macs.take m)) (blkC (b.macs.take m))), (row v290 103 2 (((b.macs.take m) ++ [(b.macs.getD m mac0)]).length) (macsC (putV (b.macs.take m).length lk_ vk_) ((b.macs.take m) ++ [(b.macs.getD m mac0)]))), (tabsR true vt_ lr_ lb_ b.tabs), (blk b20 37 [(Value.int .i64 b.scales), vt_, v290]), (blk b9 37 [(Value.int .i64 0), (Value.slice none 0 0), (Value.slice none 0 0)]), (blk b4 25 [(Value.int .i64 b.scales), vt, vm]), (tabsR false vt lr lb b.tabs), (macsR false vm lk b.macs)] := hS296; clear hS296 hS292
    refine wl_nil ?_
    refine blk_n ?_
    refine then_n ?_
    have hA299 := hA297.as [(8, (Value.int .i64 (m : Int))), (3, (bptr b20 0)), (2, (bptr b9 0)), (1, (bptr b4 0))] rfl; clear hA297
    refine c_region ?_
    refine s1 hA299 (op_move rfl (hA299.ev rfl)) fun a300 hA301 => ?_; clear hA299 a293
    refine s1 hA301 (op_add rfl (hA301.ev rfl) (evc _ _) (by omega) (by omega)) fun a302 hA303 => ?_; clear hA301 a300
    refine s1 hA303 (op_assign rfl (hA303.ev rfl)) fun a304 hA305 => ?_; clear hA303 a302
    refine wl_nil ?_
    have hS306 := hS298.row_say (i := 1) rfl (n' := (b.macs.getD m mac0).blocks.length) (xs' := trips (b.macs.getD m mac0).blocks) (by rw [List.take_of_length_le (by omega)]) (by rw [List.take_of_length_le (by omega)]); clear hS298
    have hS307 : Sep NoB w w295 [(row vk_ 100 3 ((b.macs.getD m mac0).blocks.length) (trips ((b.macs.getD m mac0).blocks))), (slsR true ((b.macs.take m).length) lk_ 3 (blkN (b.macs.take m)) (blkC (b.macs.take m))), (blk b285 103 [(Value.int .i64 ((b.macs.getD m mac0).scale)), vk_]), (blk b220 103 [(Value.int .i64 ((b.macs.getD m mac0).scale)), vk_]), (blk b204 61 [(Value.int .i64 ((b.macs.getD m mac0).scale)), (lk m)]), (row v290 103 2 (((b.macs.take m) ++ [(b.macs.getD m mac0)]).length) (macsC (putV (b.macs.take m).length lk_ vk_) ((b.macs.take m) ++ [(b.macs.getD m mac0)]))), (tabsR true vt_ lr_ lb_ b.tabs), (blk b20 37 [(Value.int .i64 b.scales), vt_, v290]), (blk b9 37 [(Value.int .i64 0), (Value.slice none 0 0), (Value.slice none 0 0)]), (blk b4 25 [(Value.int .i64 b.scales), vt, vm]), (tabsR false vt lr lb b.tabs), (macsR false vm lk b.macs)] := hS306.keep [1, 4, 0, 2, 3, 5, 6, 7, 8, 9, 10, 11] (by decide) _ rfl rfl; clear hS306
    have hS308 := sep_sls_snoc (k' := blkN (b.macs.take (m + 1))) (c' := blkC (b.macs.take (m + 1))) hS307 (blkN_new (by omega)).1 (blkN_new (by omega)).2 blkN_old; clear hS307
    have hS309 := sep_sls_say (i := 0) (n' := (b.macs.take (m + 1)).length) (v' := (putV (b.macs.take m).length lk_ vk_)) (k' := blkN (b.macs.take (m + 1))) (c' := blkC (b.macs.take (m + 1))) hS308 rfl (take_len1 (by omega)) (fun _ _ => ⟨rfl, rfl, rfl⟩); clear hS308
    have hS310 : Sep NoB w w295 [(slsR true ((b.macs.take (m + 1)).length) (putV (b.macs.take m).length lk_ vk_) 3 (blkN (b.macs.take (m + 1))) (blkC (b.macs.take (m + 1)))), (row v290 103 2 (((b.macs.take m) ++ [(b.macs.getD m mac0)]).length) (macsC (putV (b.macs.take m).length lk_ vk_) ((b.macs.take m) ++ [(b.macs.getD m mac0)]))), (tabsR true vt_ lr_ lb_ b.tabs), (blk b20 37 [(Value.int .i64 b.scales), vt_, v290]), (blk b9 37 [(Value.int .i64 0), (Value.slice none 0 0), (Value.slice none 0 0)]), (blk b4 25 [(Value.int .i64 b.scales), vt, vm]), (tabsR false vt lr lb b.tabs), (macsR false vm lk b.macs)] := hS309.keep [0, 4, 5, 6, 7, 8, 9, 10] (by decide) _ rfl rfl; clear hS309
    exact then_n ⟨m + 1, ⟨v290, (putV (b.macs.take m).length lk_ vk_), hA305.as _ rfl, (hS310.row_say (i := 1) rfl (by rw [take_tab (by omega)]) (by rw [take_tab (by omega)])), by omega⟩, by omega⟩
  ·skip
   rw [decide_eq_false hb190] at hA189
   refine c_false hA189 rfl ?_
   refine c_exit ?_
   refine then_exit ?_
   refine then_exit ?_
   refine blk_hit ?_
   refine then_n ?_
   refine c_seq ?_
   have hA311 := hA189.as [(3, (bptr b20 0)), (2, (bptr b9 0))] rfl; clear hA189
   refine c_region ?_
   refine s1 hA311 (op_loadA rfl ty_37 (hA311.ev rfl) (hS179.bk 3 rfl) (l := [(Value.int .i64 b.scales), vt_, vm_]) rfl rfl) fun a312 hA313 => ?_; clear hA311 a188
   refine s7 hA313 (op_store hS179 rfl ty_37 (hA313.ev rfl) (hA313.ev rfl) (i := 4) rfl (vs := [(Value.int .i64 b.scales), vt_, vm_]) rfl rfl (all_c rfl (all_c ((tabs_at (hS179.ok 2 _ rfl)).tabs.one) (all_c (SlAt.one (SlAt.of_row (hS179.ok_row 1 rfl))) all_n))) (Nat.le_of_ble_eq_true rfl)) ?_
   intro _ w314 hS315 hA316; clear hA313
   have hS317 : Sep NoB w w314 [(slsR true ((b.macs.take m).length) lk_ 3 (blkN (b.macs.take m)) (blkC (b.macs.take m))), (row vm_ 103 2 ((b.macs.take m).length) (macsC lk_ (b.macs.take m))), (tabsR true vt_ lr_ lb_ b.tabs), (blk b20 37 [(Value.int .i64 b.scales), vt_, vm_]), (blk b9 37 [(Value.int .i64 b.scales), vt_, vm_]), (blk b4 25 [(Value.int .i64 b.scales), vt, vm]), (tabsR false vt lr lb b.tabs), (macsR false vm lk b.macs)] := hS315; clear hS315 hS179
   refine n1 ?_
   refine c_ret ?_
   refine fin_run hA316 (.inl rfl) (run_results1 hA316 rfl (.cellA rfl ty_37 (hS317.bk 4 rfl) (l := [(Value.int .i64 b.scales), vt_, vm_]) rfl rfl)) ?_
   have hS318 : Sep NoB w w314 [(row vm_ 103 2 ((b.macs.take m).length) (macsC lk_ (b.macs.take m))), (slsR true ((b.macs.take m).length) lk_ 3 (blkN (b.macs.take m)) (blkC (b.macs.take m))), (tabsR true vt_ lr_ lb_ b.tabs)] := hS317.keep [1, 0, 2] (by decide) _ rfl rfl; clear hS317
   have hmt : m = b.macs.length := by omega
   have hz := hS318
   rw [hmt, List.take_length] at hz
   exact ⟨_, _, _, _, _, rfl, (sep_macs_join hz).keep [1, 0] (by decide) _ rfl rfl⟩
end Go.Proofs.Ytohgladndklciaa

namespace Go.Hard
def keptB : BookD := ⟨3, [⟨0, 1, [(100, 200), (200, 300), (300, 500), (400, 600)], [2], 2⟩, ⟨1, 2, [(250, 90), (350, 50)], [], 0⟩], [⟨0, [(150, 154, 160), (240, 246, 249)]⟩, ⟨1, [(300, 300, 299)]⟩]⟩
open Go.RowKit Go.Eng in
theorem kept_tabsC (a b c d : Value) : tabsC (putV 1 (putV 0 (fun _ => Value.slice none 0 0) a) c) (putV 1 (putV 0 (fun _ => Value.slice none 0 0) b) d) keptB.tabs = [.int .i64 0, .int .i64 1, a, b, .int .i64 2, .int .i64 1, .int .i64 2, c, d, .int .i64 0] := rfl
open Go.RowKit Go.Eng in
theorem kept_macsC (a b : Value) : macsC (putV 1 (putV 0 (fun _ => Value.slice none 0 0) a) b) keptB.macs = [.int .i64 0, a, .int .i64 1, b] := rfl
theorem kept_thin : ThinB keptB := (thin_iff (n := 0)).1 (by decide) |>.1
theorem kept_read : readF keptB [(0, 170)] = 0 := by decide
theorem kept_spans : spansF keptB [(0, 170)] = some [(161, 164), (259, 266), (83, 87)] := by
  unfold spansF
  rw [if_pos (by decide)]
  show spansK 3 _ (400000 + 1) _ = _
  rw [spansK, if_pos (by decide), if_neg (by decide)]
  show spansK 3 _ (399999 + 1) _ = _
  rw [spansK, if_pos (by decide), if_pos (by decide)]
  decide
end Go.Hard

namespace Go.Proofs.Ytohgladndklciaa
open Go.RowKit Go.Shelf Go.Eng Go.Hard
theorem bs_107_4_0iia_1iia_2iia_3iia (x0_0 : Int) (x0_1 : Int) (x1_0 : Int) (x1_1 : Int) (x2_0 : Int) (x2_1 : Int) (x3_0 : Int) (x3_1 : Int) : Instr.fill (fun i => some (i * 2, 2)) ((Array.range (4 * 2)).map ((Value.agg #[(Value.int .i64 0), (Value.int .i64 0)]).cells[· % (Value.agg #[(Value.int .i64 0), (Value.int .i64 0)]).cells.size]!)) [(0, .agg #[(.int .i64 x0_0), (.int .i64 x0_1)]), (1, .agg #[(.int .i64 x1_0), (.int .i64 x1_1)]), (2, .agg #[(.int .i64 x2_0), (.int .i64 x2_1)]), (3, .agg #[(.int .i64 x3_0), (.int .i64 x3_1)])] = some (([(.int .i64 x0_0), (.int .i64 x0_1), (.int .i64 x1_0), (.int .i64 x1_1), (.int .i64 x2_0), (.int .i64 x2_1), (.int .i64 x3_0), (.int .i64 x3_1)] : List Value).toArray) := by kernel_rfl
theorem bd_106_0i_1i_2s_3s_4i (x0_0 : Int) (x1_0 : Int) (x2_0 : Value) (hx2_0 : IsSl x2_0) (x3_0 : Value) (hx3_0 : IsSl x3_0) (x4_0 : Int) (w : World) : (Instr.build 106 #[(0, (.int .i64 x0_0)), (1, (.int .i64 x1_0)), (2, x2_0), (3, x3_0), (4, (.int .i64 x4_0))]).run Try.prog w = .ok (.agg #[(.int .i64 x0_0), (.int .i64 x1_0), x2_0, x3_0, (.int .i64 x4_0)]) w := by obtain ⟨Ax2_0, Bx2_0, Cx2_0, rfl⟩ := hx2_0; obtain ⟨Ax3_0, Bx3_0, Cx3_0, rfl⟩ := hx3_0; kernel_rfl
theorem bs_107_2_0iia_1iia (x0_0 : Int) (x0_1 : Int) (x1_0 : Int) (x1_1 : Int) : Instr.fill (fun i => some (i * 2, 2)) ((Array.range (2 * 2)).map ((Value.agg #[(Value.int .i64 0), (Value.int .i64 0)]).cells[· % (Value.agg #[(Value.int .i64 0), (Value.int .i64 0)]).cells.size]!)) [(0, .agg #[(.int .i64 x0_0), (.int .i64 x0_1)]), (1, .agg #[(.int .i64 x1_0), (.int .i64 x1_1)])] = some (([(.int .i64 x0_0), (.int .i64 x0_1), (.int .i64 x1_0), (.int .i64 x1_1)] : List Value).toArray) := by kernel_rfl
theorem bd_106_0i_1i_2s (x0_0 : Int) (x1_0 : Int) (x2_0 : Value) (hx2_0 : IsSl x2_0) (w : World) : (Instr.build 106 #[(0, (.int .i64 x0_0)), (1, (.int .i64 x1_0)), (2, x2_0)]).run Try.prog w = .ok (.agg #[(.int .i64 x0_0), (.int .i64 x1_0), x2_0, (Value.slice none 0 0), (Value.int .i64 0)]) w := by obtain ⟨Ax2_0, Bx2_0, Cx2_0, rfl⟩ := hx2_0; kernel_rfl
theorem bs_106_2_0iivvia_1iivvia (x0_0 : Int) (x0_1 : Int) (x0_2 : Value) (x0_3 : Value) (x0_4 : Int) (x1_0 : Int) (x1_1 : Int) (x1_2 : Value) (x1_3 : Value) (x1_4 : Int) : Instr.fill (fun i => some (i * 5, 5)) ((Array.range (2 * 5)).map ((Value.agg #[(Value.int .i64 0), (Value.int .i64 0), (Value.slice none 0 0), (Value.slice none 0 0), (Value.int .i64 0)]).cells[· % (Value.agg #[(Value.int .i64 0), (Value.int .i64 0), (Value.slice none 0 0), (Value.slice none 0 0), (Value.int .i64 0)]).cells.size]!)) [(0, .agg #[(.int .i64 x0_0), (.int .i64 x0_1), x0_2, x0_3, (.int .i64 x0_4)]), (1, .agg #[(.int .i64 x1_0), (.int .i64 x1_1), x1_2, x1_3, (.int .i64 x1_4)])] = some (([(.int .i64 x0_0), (.int .i64 x0_1), x0_2, x0_3, (.int .i64 x0_4), (.int .i64 x1_0), (.int .i64 x1_1), x1_2, x1_3, (.int .i64 x1_4)] : List Value).toArray) := by kernel_rfl
theorem en_31 : ∀ args w, (callFunc 31 args).run Try.prog w = .ok (.enter 31 args) w := enters_of Try.func31 (by kernel_rfl) rfl
theorem bs_100_2_0iiia_1iiia (x0_0 : Int) (x0_1 : Int) (x0_2 : Int) (x1_0 : Int) (x1_1 : Int) (x1_2 : Int) : Instr.fill (fun i => some (i * 3, 3)) ((Array.range (2 * 3)).map ((Value.agg #[(Value.int .i64 0), (Value.int .i64 0), (Value.int .i64 0)]).cells[· % (Value.agg #[(Value.int .i64 0), (Value.int .i64 0), (Value.int .i64 0)]).cells.size]!)) [(0, .agg #[(.int .i64 x0_0), (.int .i64 x0_1), (.int .i64 x0_2)]), (1, .agg #[(.int .i64 x1_0), (.int .i64 x1_1), (.int .i64 x1_2)])] = some (([(.int .i64 x0_0), (.int .i64 x0_1), (.int .i64 x0_2), (.int .i64 x1_0), (.int .i64 x1_1), (.int .i64 x1_2)] : List Value).toArray) := by kernel_rfl
theorem bd_103_0i_1s (x0_0 : Int) (x1_0 : Value) (hx1_0 : IsSl x1_0) (w : World) : (Instr.build 103 #[(0, (.int .i64 x0_0)), (1, x1_0)]).run Try.prog w = .ok (.agg #[(.int .i64 x0_0), x1_0]) w := by obtain ⟨Ax1_0, Bx1_0, Cx1_0, rfl⟩ := hx1_0; kernel_rfl
theorem bs_103_2_0iva_1iva (x0_0 : Int) (x0_1 : Value) (x1_0 : Int) (x1_1 : Value) : Instr.fill (fun i => some (i * 2, 2)) ((Array.range (2 * 2)).map ((Value.agg #[(Value.int .i64 0), (Value.slice none 0 0)]).cells[· % (Value.agg #[(Value.int .i64 0), (Value.slice none 0 0)]).cells.size]!)) [(0, .agg #[(.int .i64 x0_0), x0_1]), (1, .agg #[(.int .i64 x1_0), x1_1])] = some (([(.int .i64 x0_0), x0_1, (.int .i64 x1_0), x1_1] : List Value).toArray) := by kernel_rfl
theorem bd_37_0i_1s_2s (x0_0 : Int) (x1_0 : Value) (hx1_0 : IsSl x1_0) (x2_0 : Value) (hx2_0 : IsSl x2_0) (w : World) : (Instr.build 37 #[(0, (.int .i64 x0_0)), (1, x1_0), (2, x2_0)]).run Try.prog w = .ok (.agg #[(.int .i64 x0_0), x1_0, x2_0]) w := by obtain ⟨Ax1_0, Bx1_0, Cx1_0, rfl⟩ := hx1_0; obtain ⟨Ax2_0, Bx2_0, Cx2_0, rfl⟩ := hx2_0; kernel_rfl
set_option maxHeartbeats 1000000 in
theorem kept_ok (w : World) :
  Calls Try.prog 46 #[] w (Ret fun v w' => ∃ vt' vm' lr' lb' lk', v = .agg #[.int .i64 keptB.scales, vt', vm'] ∧ Sep NoB w w' [tabsR true vt' lr' lb' keptB.tabs, macsR true vm' lk' keptB.macs]) := by
 refine calls_enter Try.func46 rfl fun a0 hA0 => ?_
 replace hA0 : Fr 25 [] [] a0 := hA0
 have hS0 : Sep NoB w w [] := Sep.start _ _
 refine m2 ?_
 refine s2 hA0 (op_alloc hS0 rfl ze_37 (cs := [(Value.int .i64 0), (Value.slice none 0 0), (Value.slice none 0 0)]) rfl) ?_
 rintro a1 _ w3 ⟨b4, rfl, hS5⟩ hA2; clear hA0 hS0 a0
 refine n4 ?_
 refine s1 hA2 (op_build rfl (pv2 (evc _ _) (evc _ _)) (bd_107_0i_1i _ _)) fun a6 hA7 => ?_; clear hA2 a1
 refine s1 hA7 (op_build rfl (pv2 (evc _ _) (evc _ _)) (bd_107_0i_1i _ _)) fun a8 hA9 => ?_; clear hA7 a6
 refine s1 hA9 (op_build rfl (pv2 (evc _ _) (evc _ _)) (bd_107_0i_1i _ _)) fun a10 hA11 => ?_; clear hA9 a8
 refine s1 hA11 (op_build rfl (pv2 (evc _ _) (evc _ _)) (bd_107_0i_1i _ _)) fun a12 hA13 => ?_; clear hA11 a10
 refine s2 hA13 (op_buildSlice hS5 rfl (pv4 (hA13.ev rfl) (hA13.ev rfl) (hA13.ev rfl) (hA13.ev rfl)) un_104 ty_107 ze_107 (by decide) (cs := [(Value.int .i64 100), (Value.int .i64 200), (Value.int .i64 200), (Value.int .i64 300), (Value.int .i64 300), (Value.int .i64 500), (Value.int .i64 400), (Value.int .i64 600)]) (bs_107_4_0iia_1iia_2iia_3iia _ _ _ _ _ _ _ _)) ?_
 rintro a14 _ w16 ⟨b17, rfl, hS18⟩ hA15; clear hA13 hS5 a12
 refine s2 hA15 (op_buildSlice hS18 rfl (pv1 (evc _ _)) un_44 ty_3 ze_3 (by decide) (cs := [(Value.int .i64 2)]) (bs_3_1_0i _)) ?_
 rintro a19 _ w21 ⟨b22, rfl, hS23⟩ hA20; clear hA15 hS18 a14
 refine s1 hA20 (op_build rfl (pv5 (evc _ _) (evc _ _) (hA20.ev rfl) (hA20.ev rfl) (evc _ _)) (bd_106_0i_1i_2s_3s_4i _ _ _ ⟨_, _, _, rfl⟩ _ ⟨_, _, _, rfl⟩ _)) fun a24 hA25 => ?_; clear hA20 a19
 refine s1 hA25 (op_build rfl (pv2 (evc _ _) (evc _ _)) (bd_107_0i_1i _ _)) fun a26 hA27 => ?_; clear hA25 a24
 refine s1 hA27 (op_build rfl (pv2 (evc _ _) (evc _ _)) (bd_107_0i_1i _ _)) fun a28 hA29 => ?_; clear hA27 a26
 refine s2 hA29 (op_buildSlice hS23 rfl (pv2 (hA29.ev rfl) (hA29.ev rfl)) un_104 ty_107 ze_107 (by decide) (cs := [(Value.int .i64 250), (Value.int .i64 90), (Value.int .i64 350), (Value.int .i64 50)]) (bs_107_2_0iia_1iia _ _ _ _)) ?_
 rintro a30 _ w32 ⟨b33, rfl, hS34⟩ hA31; clear hA29 hS23 a28
 refine s1 hA31 (op_build rfl (pv3 (evc _ _) (evc _ _) (hA31.ev rfl)) (bd_106_0i_1i_2s _ _ _ ⟨_, _, _, rfl⟩)) fun a35 hA36 => ?_; clear hA31 a30
 refine s2 hA36 (op_buildSlice hS34 rfl (pv2 (hA36.ev rfl) (hA36.ev rfl)) un_34 ty_106 ze_106 (by decide) (cs := [(Value.int .i64 0), (Value.int .i64 1), (Value.slice (some ⟨b17, 0, none⟩) 4 4), (Value.slice (some ⟨b22, 0, none⟩) 1 1), (Value.int .i64 2), (Value.int .i64 1), (Value.int .i64 2), (Value.slice (some ⟨b33, 0, none⟩) 2 2), (Value.slice none 0 0), (Value.int .i64 0)]) (bs_106_2_0iivvia_1iivvia _ _ _ _ _ _ _ _ _ _)) ?_
 rintro a37 _ w39 ⟨b40, rfl, hS41⟩ hA38; clear hA36 hS34 a35
 refine s2 hA38 (op_call rfl en_31 (ev2 (evc _ _) (evc _ _)) (between_ok _ _ _)) ?_
 rintro a42 _ w44 ⟨rfl, hE45⟩ hA43; have hS46 := hS41.step hE45; clear hE45 hA38 hS41 a37
 refine s1 hA43 (op_build rfl (pv2 (hA43.ev rfl) (evc _ _)) (bd_100_0iia_1i _ _ _)) fun a47 hA48 => ?_; clear hA43 a42
 refine s2 hA48 (op_call rfl en_31 (ev2 (evc _ _) (evc _ _)) (between_ok _ _ _)) ?_
 rintro a49 _ w51 ⟨rfl, hE52⟩ hA50; have hS53 := hS46.step hE52; clear hE52 hA48 hS46 a47
 refine s1 hA50 (op_build rfl (pv2 (hA50.ev rfl) (evc _ _)) (bd_100_0iia_1i _ _ _)) fun a54 hA55 => ?_; clear hA50 a49
 refine s2 hA55 (op_buildSlice hS53 rfl (pv2 (hA55.ev rfl) (hA55.ev rfl)) un_101 ty_100 ze_100 (by decide) (cs := [(Value.int .i64 150), (Value.int .i64 154), (Value.int .i64 160), (Value.int .i64 240), (Value.int .i64 246), (Value.int .i64 249)]) (bs_100_2_0iiia_1iiia _ _ _ _ _ _)) ?_
 rintro a56 _ w58 ⟨b59, rfl, hS60⟩ hA57; clear hA55 hS53 a54
 refine s1 hA57 (op_build rfl (pv2 (evc _ _) (hA57.ev rfl)) (bd_103_0i_1s _ _ ⟨_, _, _, rfl⟩)) fun a61 hA62 => ?_; clear hA57 a56
 refine s2 hA62 (op_call rfl en_31 (ev2 (evc _ _) (evc _ _)) (between_ok _ _ _)) ?_
 rintro a63 _ w65 ⟨rfl, hE66⟩ hA64; have hS67 := hS60.step hE66; clear hE66 hA62 hS60 a61
 refine s1 hA64 (op_build rfl (pv2 (hA64.ev rfl) (evc _ _)) (bd_100_0iia_1i _ _ _)) fun a68 hA69 => ?_; clear hA64 a63
 refine s2 hA69 (op_buildSlice hS67 rfl (pv1 (hA69.ev rfl)) un_101 ty_100 ze_100 (by decide) (cs := [(Value.int .i64 300), (Value.int .i64 300), (Value.int .i64 299)]) (bs_100_1_0iiia _ _ _)) ?_
 rintro a70 _ w72 ⟨b73, rfl, hS74⟩ hA71; clear hA69 hS67 a68
 refine s1 hA71 (op_build rfl (pv2 (evc _ _) (hA71.ev rfl)) (bd_103_0i_1s _ _ ⟨_, _, _, rfl⟩)) fun a75 hA76 => ?_; clear hA71 a70
 refine s2 hA76 (op_buildSlice hS74 rfl (pv2 (hA76.ev rfl) (hA76.ev rfl)) un_35 ty_103 ze_103 (by decide) (cs := [(Value.int .i64 0), (Value.slice (some ⟨b59, 0, none⟩) 2 2), (Value.int .i64 1), (Value.slice (some ⟨b73, 0, none⟩) 1 1)]) (bs_103_2_0iva_1iva _ _ _ _)) ?_
 rintro a77 _ w79 ⟨b80, rfl, hS81⟩ hA78; clear hA76 hS74 a75
 refine s1 hA78 (op_build rfl (pv3 (evc _ _) (hA78.ev rfl) (hA78.ev rfl)) (bd_37_0i_1s_2s _ _ ⟨_, _, _, rfl⟩ _ ⟨_, _, _, rfl⟩)) fun a82 hA83 => ?_; clear hA78 a77
 refine s7 hA83 (op_store hS81 rfl ty_37 (hA83.ev rfl) (hA83.ev rfl) (i := 7) rfl (vs := [(Value.int .i64 3), (Value.slice (some ⟨b40, 0, none⟩) 2 2), (Value.slice (some ⟨b80, 0, none⟩) 2 2)]) rfl rfl (all_c rfl (all_c rfl (all_c rfl all_n))) (Nat.le_of_ble_eq_true rfl)) ?_
 intro _ w84 hS85 hA86; clear hA83
 have hS87 : Sep NoB w w84 [(blk b80 103 [(Value.int .i64 0), (Value.slice (some ⟨b59, 0, none⟩) 2 2), (Value.int .i64 1), (Value.slice (some ⟨b73, 0, none⟩) 1 1)]), (blk b73 100 [(Value.int .i64 300), (Value.int .i64 300), (Value.int .i64 299)]), (blk b59 100 [(Value.int .i64 150), (Value.int .i64 154), (Value.int .i64 160), (Value.int .i64 240), (Value.int .i64 246), (Value.int .i64 249)]), (blk b40 106 [(Value.int .i64 0), (Value.int .i64 1), (Value.slice (some ⟨b17, 0, none⟩) 4 4), (Value.slice (some ⟨b22, 0, none⟩) 1 1), (Value.int .i64 2), (Value.int .i64 1), (Value.int .i64 2), (Value.slice (some ⟨b33, 0, none⟩) 2 2), (Value.slice none 0 0), (Value.int .i64 0)]), (blk b33 107 [(Value.int .i64 250), (Value.int .i64 90), (Value.int .i64 350), (Value.int .i64 50)]), (blk b22 3 [(Value.int .i64 2)]), (blk b17 107 [(Value.int .i64 100), (Value.int .i64 200), (Value.int .i64 200), (Value.int .i64 300), (Value.int .i64 300), (Value.int .i64 500), (Value.int .i64 400), (Value.int .i64 600)]), (blk b4 37 [(Value.int .i64 3), (Value.slice (some ⟨b40, 0, none⟩) 2 2), (Value.slice (some ⟨b80, 0, none⟩) 2 2)])] := hS85; clear hS85 hS81
 refine n1 ?_
 refine c_ret ?_
 refine fin_run hA86 (.inl rfl) (run_results1 hA86 rfl (.cellA rfl ty_37 (hS87.bk 7 rfl) (l := [(Value.int .i64 3), (Value.slice (some ⟨b40, 0, none⟩) 2 2), (Value.slice (some ⟨b80, 0, none⟩) 2 2)]) rfl rfl)) ?_
 have hk1 := hS87.blk_row (i := 6) (sz := 2) (n := 4) rfl rfl (by decide)
 have hk2 := hk1.blk_row (i := 5) (sz := 1) (n := 1) rfl rfl (by decide)
 have hk3 := hk2.blk_row (i := 4) (sz := 2) (n := 2) rfl rfl (by decide)
 have hk4 := hk3.blk_row (i := 3) (sz := 5) (n := 2) rfl rfl (by decide)
 have hk5 := hk4.blk_row (i := 2) (sz := 3) (n := 2) rfl rfl (by decide)
 have hk6 := hk5.blk_row (i := 1) (sz := 3) (n := 1) rfl rfl (by decide)
 have hk7 := hk6.blk_row (i := 0) (sz := 2) (n := 2) rfl rfl (by decide)
 have hl1 : Sep NoB w w84 [(row (Value.slice (some ⟨b17, 0, none⟩) 4 4) 107 2 4 [(Value.int .i64 100), (Value.int .i64 200), (Value.int .i64 200), (Value.int .i64 300), (Value.int .i64 300), (Value.int .i64 500), (Value.int .i64 400), (Value.int .i64 600)]), (row (Value.slice (some ⟨b33, 0, none⟩) 2 2) 107 2 2 [(Value.int .i64 250), (Value.int .i64 90), (Value.int .i64 350), (Value.int .i64 50)]), (row (Value.slice (some ⟨b22, 0, none⟩) 1 1) 3 1 1 [(Value.int .i64 2)]), (row (Value.slice (some ⟨b40, 0, none⟩) 2 2) 106 5 2 [(Value.int .i64 0), (Value.int .i64 1), (Value.slice (some ⟨b17, 0, none⟩) 4 4), (Value.slice (some ⟨b22, 0, none⟩) 1 1), (Value.int .i64 2), (Value.int .i64 1), (Value.int .i64 2), (Value.slice (some ⟨b33, 0, none⟩) 2 2), (Value.slice none 0 0), (Value.int .i64 0)]), (row (Value.slice (some ⟨b59, 0, none⟩) 2 2) 100 3 2 [(Value.int .i64 150), (Value.int .i64 154), (Value.int .i64 160), (Value.int .i64 240), (Value.int .i64 246), (Value.int .i64 249)]), (row (Value.slice (some ⟨b73, 0, none⟩) 1 1) 100 3 1 [(Value.int .i64 300), (Value.int .i64 300), (Value.int .i64 299)]), (row (Value.slice (some ⟨b80, 0, none⟩) 2 2) 103 2 2 [(Value.int .i64 0), (Value.slice (some ⟨b59, 0, none⟩) 2 2), (Value.int .i64 1), (Value.slice (some ⟨b73, 0, none⟩) 1 1)])] := hk7.keep [6, 4, 5, 3, 2, 1, 0] (by decide) _ rfl rfl
 have hl2 : Sep NoB w w84 [(slsR true 0 (fun _ => Value.slice none 0 0) 2 (rowsN keptB.tabs) (rowsC keptB.tabs)), (row (Value.slice (some ⟨b17, 0, none⟩) 4 4) 107 2 4 [(Value.int .i64 100), (Value.int .i64 200), (Value.int .i64 200), (Value.int .i64 300), (Value.int .i64 300), (Value.int .i64 500), (Value.int .i64 400), (Value.int .i64 600)]), (row (Value.slice (some ⟨b33, 0, none⟩) 2 2) 107 2 2 [(Value.int .i64 250), (Value.int .i64 90), (Value.int .i64 350), (Value.int .i64 50)]), (row (Value.slice (some ⟨b22, 0, none⟩) 1 1) 3 1 1 [(Value.int .i64 2)]), (row (Value.slice (some ⟨b40, 0, none⟩) 2 2) 106 5 2 [(Value.int .i64 0), (Value.int .i64 1), (Value.slice (some ⟨b17, 0, none⟩) 4 4), (Value.slice (some ⟨b22, 0, none⟩) 1 1), (Value.int .i64 2), (Value.int .i64 1), (Value.int .i64 2), (Value.slice (some ⟨b33, 0, none⟩) 2 2), (Value.slice none 0 0), (Value.int .i64 0)]), (row (Value.slice (some ⟨b59, 0, none⟩) 2 2) 100 3 2 [(Value.int .i64 150), (Value.int .i64 154), (Value.int .i64 160), (Value.int .i64 240), (Value.int .i64 246), (Value.int .i64 249)]), (row (Value.slice (some ⟨b73, 0, none⟩) 1 1) 100 3 1 [(Value.int .i64 300), (Value.int .i64 300), (Value.int .i64 299)]), (row (Value.slice (some ⟨b80, 0, none⟩) 2 2) 103 2 2 [(Value.int .i64 0), (Value.slice (some ⟨b59, 0, none⟩) 2 2), (Value.int .i64 1), (Value.slice (some ⟨b73, 0, none⟩) 1 1)])] := sep_sls_nil hl1 (fun _ => Value.slice none 0 0) 2 (rowsN keptB.tabs) (rowsC keptB.tabs)
 have hl3 : Sep NoB w w84 [(row (Value.slice (some ⟨b17, 0, none⟩) 4 4) 107 2 4 [(Value.int .i64 100), (Value.int .i64 200), (Value.int .i64 200), (Value.int .i64 300), (Value.int .i64 300), (Value.int .i64 500), (Value.int .i64 400), (Value.int .i64 600)]), (slsR true 0 (fun _ => Value.slice none 0 0) 2 (rowsN keptB.tabs) (rowsC keptB.tabs)), (row (Value.slice (some ⟨b33, 0, none⟩) 2 2) 107 2 2 [(Value.int .i64 250), (Value.int .i64 90), (Value.int .i64 350), (Value.int .i64 50)]), (row (Value.slice (some ⟨b22, 0, none⟩) 1 1) 3 1 1 [(Value.int .i64 2)]), (row (Value.slice (some ⟨b40, 0, none⟩) 2 2) 106 5 2 [(Value.int .i64 0), (Value.int .i64 1), (Value.slice (some ⟨b17, 0, none⟩) 4 4), (Value.slice (some ⟨b22, 0, none⟩) 1 1), (Value.int .i64 2), (Value.int .i64 1), (Value.int .i64 2), (Value.slice (some ⟨b33, 0, none⟩) 2 2), (Value.slice none 0 0), (Value.int .i64 0)]), (row (Value.slice (some ⟨b59, 0, none⟩) 2 2) 100 3 2 [(Value.int .i64 150), (Value.int .i64 154), (Value.int .i64 160), (Value.int .i64 240), (Value.int .i64 246), (Value.int .i64 249)]), (row (Value.slice (some ⟨b73, 0, none⟩) 1 1) 100 3 1 [(Value.int .i64 300), (Value.int .i64 300), (Value.int .i64 299)]), (row (Value.slice (some ⟨b80, 0, none⟩) 2 2) 103 2 2 [(Value.int .i64 0), (Value.slice (some ⟨b59, 0, none⟩) 2 2), (Value.int .i64 1), (Value.slice (some ⟨b73, 0, none⟩) 1 1)])] := hl2.keep [1, 0, 2, 3, 4, 5, 6, 7] (by decide) _ rfl rfl
 have hl4 : Sep NoB w w84 [(slsR true 1 (putV 0 (fun _ => Value.slice none 0 0) (Value.slice (some ⟨b17, 0, none⟩) 4 4)) 2 (rowsN keptB.tabs) (rowsC keptB.tabs)), (row (Value.slice (some ⟨b33, 0, none⟩) 2 2) 107 2 2 [(Value.int .i64 250), (Value.int .i64 90), (Value.int .i64 350), (Value.int .i64 50)]), (row (Value.slice (some ⟨b22, 0, none⟩) 1 1) 3 1 1 [(Value.int .i64 2)]), (row (Value.slice (some ⟨b40, 0, none⟩) 2 2) 106 5 2 [(Value.int .i64 0), (Value.int .i64 1), (Value.slice (some ⟨b17, 0, none⟩) 4 4), (Value.slice (some ⟨b22, 0, none⟩) 1 1), (Value.int .i64 2), (Value.int .i64 1), (Value.int .i64 2), (Value.slice (some ⟨b33, 0, none⟩) 2 2), (Value.slice none 0 0), (Value.int .i64 0)]), (row (Value.slice (some ⟨b59, 0, none⟩) 2 2) 100 3 2 [(Value.int .i64 150), (Value.int .i64 154), (Value.int .i64 160), (Value.int .i64 240), (Value.int .i64 246), (Value.int .i64 249)]), (row (Value.slice (some ⟨b73, 0, none⟩) 1 1) 100 3 1 [(Value.int .i64 300), (Value.int .i64 300), (Value.int .i64 299)]), (row (Value.slice (some ⟨b80, 0, none⟩) 2 2) 103 2 2 [(Value.int .i64 0), (Value.slice (some ⟨b59, 0, none⟩) 2 2), (Value.int .i64 1), (Value.slice (some ⟨b73, 0, none⟩) 1 1)])] := sep_sls_snoc (k' := rowsN keptB.tabs) (c' := rowsC keptB.tabs) hl3 rfl rfl (fun i hi => absurd hi (Nat.not_lt_zero _))
 have hl5 : Sep NoB w w84 [(row (Value.slice (some ⟨b33, 0, none⟩) 2 2) 107 2 2 [(Value.int .i64 250), (Value.int .i64 90), (Value.int .i64 350), (Value.int .i64 50)]), (slsR true 1 (putV 0 (fun _ => Value.slice none 0 0) (Value.slice (some ⟨b17, 0, none⟩) 4 4)) 2 (rowsN keptB.tabs) (rowsC keptB.tabs)), (row (Value.slice (some ⟨b22, 0, none⟩) 1 1) 3 1 1 [(Value.int .i64 2)]), (row (Value.slice (some ⟨b40, 0, none⟩) 2 2) 106 5 2 [(Value.int .i64 0), (Value.int .i64 1), (Value.slice (some ⟨b17, 0, none⟩) 4 4), (Value.slice (some ⟨b22, 0, none⟩) 1 1), (Value.int .i64 2), (Value.int .i64 1), (Value.int .i64 2), (Value.slice (some ⟨b33, 0, none⟩) 2 2), (Value.slice none 0 0), (Value.int .i64 0)]), (row (Value.slice (some ⟨b59, 0, none⟩) 2 2) 100 3 2 [(Value.int .i64 150), (Value.int .i64 154), (Value.int .i64 160), (Value.int .i64 240), (Value.int .i64 246), (Value.int .i64 249)]), (row (Value.slice (some ⟨b73, 0, none⟩) 1 1) 100 3 1 [(Value.int .i64 300), (Value.int .i64 300), (Value.int .i64 299)]), (row (Value.slice (some ⟨b80, 0, none⟩) 2 2) 103 2 2 [(Value.int .i64 0), (Value.slice (some ⟨b59, 0, none⟩) 2 2), (Value.int .i64 1), (Value.slice (some ⟨b73, 0, none⟩) 1 1)])] := hl4.keep [1, 0, 2, 3, 4, 5, 6] (by decide) _ rfl rfl
 have hl6 : Sep NoB w w84 [(slsR true 2 (putV 1 (putV 0 (fun _ => Value.slice none 0 0) (Value.slice (some ⟨b17, 0, none⟩) 4 4)) (Value.slice (some ⟨b33, 0, none⟩) 2 2)) 2 (rowsN keptB.tabs) (rowsC keptB.tabs)), (row (Value.slice (some ⟨b22, 0, none⟩) 1 1) 3 1 1 [(Value.int .i64 2)]), (row (Value.slice (some ⟨b40, 0, none⟩) 2 2) 106 5 2 [(Value.int .i64 0), (Value.int .i64 1), (Value.slice (some ⟨b17, 0, none⟩) 4 4), (Value.slice (some ⟨b22, 0, none⟩) 1 1), (Value.int .i64 2), (Value.int .i64 1), (Value.int .i64 2), (Value.slice (some ⟨b33, 0, none⟩) 2 2), (Value.slice none 0 0), (Value.int .i64 0)]), (row (Value.slice (some ⟨b59, 0, none⟩) 2 2) 100 3 2 [(Value.int .i64 150), (Value.int .i64 154), (Value.int .i64 160), (Value.int .i64 240), (Value.int .i64 246), (Value.int .i64 249)]), (row (Value.slice (some ⟨b73, 0, none⟩) 1 1) 100 3 1 [(Value.int .i64 300), (Value.int .i64 300), (Value.int .i64 299)]), (row (Value.slice (some ⟨b80, 0, none⟩) 2 2) 103 2 2 [(Value.int .i64 0), (Value.slice (some ⟨b59, 0, none⟩) 2 2), (Value.int .i64 1), (Value.slice (some ⟨b73, 0, none⟩) 1 1)])] := sep_sls_snoc (k' := rowsN keptB.tabs) (c' := rowsC keptB.tabs) hl5 rfl rfl (fun _ _ => ⟨rfl, rfl⟩)
 have hl7 : Sep NoB w w84 [(row (Value.slice none 0 0) 3 1 0 []), (slsR true 2 (putV 1 (putV 0 (fun _ => Value.slice none 0 0) (Value.slice (some ⟨b17, 0, none⟩) 4 4)) (Value.slice (some ⟨b33, 0, none⟩) 2 2)) 2 (rowsN keptB.tabs) (rowsC keptB.tabs)), (row (Value.slice (some ⟨b22, 0, none⟩) 1 1) 3 1 1 [(Value.int .i64 2)]), (row (Value.slice (some ⟨b40, 0, none⟩) 2 2) 106 5 2 [(Value.int .i64 0), (Value.int .i64 1), (Value.slice (some ⟨b17, 0, none⟩) 4 4), (Value.slice (some ⟨b22, 0, none⟩) 1 1), (Value.int .i64 2), (Value.int .i64 1), (Value.int .i64 2), (Value.slice (some ⟨b33, 0, none⟩) 2 2), (Value.slice none 0 0), (Value.int .i64 0)]), (row (Value.slice (some ⟨b59, 0, none⟩) 2 2) 100 3 2 [(Value.int .i64 150), (Value.int .i64 154), (Value.int .i64 160), (Value.int .i64 240), (Value.int .i64 246), (Value.int .i64 249)]), (row (Value.slice (some ⟨b73, 0, none⟩) 1 1) 100 3 1 [(Value.int .i64 300), (Value.int .i64 300), (Value.int .i64 299)]), (row (Value.slice (some ⟨b80, 0, none⟩) 2 2) 103 2 2 [(Value.int .i64 0), (Value.slice (some ⟨b59, 0, none⟩) 2 2), (Value.int .i64 1), (Value.slice (some ⟨b73, 0, none⟩) 1 1)])] := hl6.nil_row 3 1
 have hl8 : Sep NoB w w84 [(slsR true 0 (fun _ => Value.slice none 0 0) 1 (brkN keptB.tabs) (brkC keptB.tabs)), (row (Value.slice none 0 0) 3 1 0 []), (slsR true 2 (putV 1 (putV 0 (fun _ => Value.slice none 0 0) (Value.slice (some ⟨b17, 0, none⟩) 4 4)) (Value.slice (some ⟨b33, 0, none⟩) 2 2)) 2 (rowsN keptB.tabs) (rowsC keptB.tabs)), (row (Value.slice (some ⟨b22, 0, none⟩) 1 1) 3 1 1 [(Value.int .i64 2)]), (row (Value.slice (some ⟨b40, 0, none⟩) 2 2) 106 5 2 [(Value.int .i64 0), (Value.int .i64 1), (Value.slice (some ⟨b17, 0, none⟩) 4 4), (Value.slice (some ⟨b22, 0, none⟩) 1 1), (Value.int .i64 2), (Value.int .i64 1), (Value.int .i64 2), (Value.slice (some ⟨b33, 0, none⟩) 2 2), (Value.slice none 0 0), (Value.int .i64 0)]), (row (Value.slice (some ⟨b59, 0, none⟩) 2 2) 100 3 2 [(Value.int .i64 150), (Value.int .i64 154), (Value.int .i64 160), (Value.int .i64 240), (Value.int .i64 246), (Value.int .i64 249)]), (row (Value.slice (some ⟨b73, 0, none⟩) 1 1) 100 3 1 [(Value.int .i64 300), (Value.int .i64 300), (Value.int .i64 299)]), (row (Value.slice (some ⟨b80, 0, none⟩) 2 2) 103 2 2 [(Value.int .i64 0), (Value.slice (some ⟨b59, 0, none⟩) 2 2), (Value.int .i64 1), (Value.slice (some ⟨b73, 0, none⟩) 1 1)])] := sep_sls_nil hl7 (fun _ => Value.slice none 0 0) 1 (brkN keptB.tabs) (brkC keptB.tabs)
 have hl9 : Sep NoB w w84 [(row (Value.slice (some ⟨b22, 0, none⟩) 1 1) 3 1 1 [(Value.int .i64 2)]), (slsR true 0 (fun _ => Value.slice none 0 0) 1 (brkN keptB.tabs) (brkC keptB.tabs)), (row (Value.slice none 0 0) 3 1 0 []), (slsR true 2 (putV 1 (putV 0 (fun _ => Value.slice none 0 0) (Value.slice (some ⟨b17, 0, none⟩) 4 4)) (Value.slice (some ⟨b33, 0, none⟩) 2 2)) 2 (rowsN keptB.tabs) (rowsC keptB.tabs)), (row (Value.slice (some ⟨b40, 0, none⟩) 2 2) 106 5 2 [(Value.int .i64 0), (Value.int .i64 1), (Value.slice (some ⟨b17, 0, none⟩) 4 4), (Value.slice (some ⟨b22, 0, none⟩) 1 1), (Value.int .i64 2), (Value.int .i64 1), (Value.int .i64 2), (Value.slice (some ⟨b33, 0, none⟩) 2 2), (Value.slice none 0 0), (Value.int .i64 0)]), (row (Value.slice (some ⟨b59, 0, none⟩) 2 2) 100 3 2 [(Value.int .i64 150), (Value.int .i64 154), (Value.int .i64 160), (Value.int .i64 240), (Value.int .i64 246), (Value.int .i64 249)]), (row (Value.slice (some ⟨b73, 0, none⟩) 1 1) 100 3 1 [(Value.int .i64 300), (Value.int .i64 300), (Value.int .i64 299)]), (row (Value.slice (some ⟨b80, 0, none⟩) 2 2) 103 2 2 [(Value.int .i64 0), (Value.slice (some ⟨b59, 0, none⟩) 2 2), (Value.int .i64 1), (Value.slice (some ⟨b73, 0, none⟩) 1 1)])] := hl8.keep [3, 0, 1, 2, 4, 5, 6, 7] (by decide) _ rfl rfl
 have hl10 : Sep NoB w w84 [(slsR true 1 (putV 0 (fun _ => Value.slice none 0 0) (Value.slice (some ⟨b22, 0, none⟩) 1 1)) 1 (brkN keptB.tabs) (brkC keptB.tabs)), (row (Value.slice none 0 0) 3 1 0 []), (slsR true 2 (putV 1 (putV 0 (fun _ => Value.slice none 0 0) (Value.slice (some ⟨b17, 0, none⟩) 4 4)) (Value.slice (some ⟨b33, 0, none⟩) 2 2)) 2 (rowsN keptB.tabs) (rowsC keptB.tabs)), (row (Value.slice (some ⟨b40, 0, none⟩) 2 2) 106 5 2 [(Value.int .i64 0), (Value.int .i64 1), (Value.slice (some ⟨b17, 0, none⟩) 4 4), (Value.slice (some ⟨b22, 0, none⟩) 1 1), (Value.int .i64 2), (Value.int .i64 1), (Value.int .i64 2), (Value.slice (some ⟨b33, 0, none⟩) 2 2), (Value.slice none 0 0), (Value.int .i64 0)]), (row (Value.slice (some ⟨b59, 0, none⟩) 2 2) 100 3 2 [(Value.int .i64 150), (Value.int .i64 154), (Value.int .i64 160), (Value.int .i64 240), (Value.int .i64 246), (Value.int .i64 249)]), (row (Value.slice (some ⟨b73, 0, none⟩) 1 1) 100 3 1 [(Value.int .i64 300), (Value.int .i64 300), (Value.int .i64 299)]), (row (Value.slice (some ⟨b80, 0, none⟩) 2 2) 103 2 2 [(Value.int .i64 0), (Value.slice (some ⟨b59, 0, none⟩) 2 2), (Value.int .i64 1), (Value.slice (some ⟨b73, 0, none⟩) 1 1)])] := sep_sls_snoc (k' := brkN keptB.tabs) (c' := brkC keptB.tabs) hl9 rfl rfl (fun i hi => absurd hi (Nat.not_lt_zero _))
 have hl11 : Sep NoB w w84 [(row (Value.slice none 0 0) 3 1 0 []), (slsR true 1 (putV 0 (fun _ => Value.slice none 0 0) (Value.slice (some ⟨b22, 0, none⟩) 1 1)) 1 (brkN keptB.tabs) (brkC keptB.tabs)), (slsR true 2 (putV 1 (putV 0 (fun _ => Value.slice none 0 0) (Value.slice (some ⟨b17, 0, none⟩) 4 4)) (Value.slice (some ⟨b33, 0, none⟩) 2 2)) 2 (rowsN keptB.tabs) (rowsC keptB.tabs)), (row (Value.slice (some ⟨b40, 0, none⟩) 2 2) 106 5 2 [(Value.int .i64 0), (Value.int .i64 1), (Value.slice (some ⟨b17, 0, none⟩) 4 4), (Value.slice (some ⟨b22, 0, none⟩) 1 1), (Value.int .i64 2), (Value.int .i64 1), (Value.int .i64 2), (Value.slice (some ⟨b33, 0, none⟩) 2 2), (Value.slice none 0 0), (Value.int .i64 0)]), (row (Value.slice (some ⟨b59, 0, none⟩) 2 2) 100 3 2 [(Value.int .i64 150), (Value.int .i64 154), (Value.int .i64 160), (Value.int .i64 240), (Value.int .i64 246), (Value.int .i64 249)]), (row (Value.slice (some ⟨b73, 0, none⟩) 1 1) 100 3 1 [(Value.int .i64 300), (Value.int .i64 300), (Value.int .i64 299)]), (row (Value.slice (some ⟨b80, 0, none⟩) 2 2) 103 2 2 [(Value.int .i64 0), (Value.slice (some ⟨b59, 0, none⟩) 2 2), (Value.int .i64 1), (Value.slice (some ⟨b73, 0, none⟩) 1 1)])] := hl10.keep [1, 0, 2, 3, 4, 5, 6] (by decide) _ rfl rfl
 have hl12 : Sep NoB w w84 [(slsR true 2 (putV 1 (putV 0 (fun _ => Value.slice none 0 0) (Value.slice (some ⟨b22, 0, none⟩) 1 1)) (Value.slice none 0 0)) 1 (brkN keptB.tabs) (brkC keptB.tabs)), (slsR true 2 (putV 1 (putV 0 (fun _ => Value.slice none 0 0) (Value.slice (some ⟨b17, 0, none⟩) 4 4)) (Value.slice (some ⟨b33, 0, none⟩) 2 2)) 2 (rowsN keptB.tabs) (rowsC keptB.tabs)), (row (Value.slice (some ⟨b40, 0, none⟩) 2 2) 106 5 2 [(Value.int .i64 0), (Value.int .i64 1), (Value.slice (some ⟨b17, 0, none⟩) 4 4), (Value.slice (some ⟨b22, 0, none⟩) 1 1), (Value.int .i64 2), (Value.int .i64 1), (Value.int .i64 2), (Value.slice (some ⟨b33, 0, none⟩) 2 2), (Value.slice none 0 0), (Value.int .i64 0)]), (row (Value.slice (some ⟨b59, 0, none⟩) 2 2) 100 3 2 [(Value.int .i64 150), (Value.int .i64 154), (Value.int .i64 160), (Value.int .i64 240), (Value.int .i64 246), (Value.int .i64 249)]), (row (Value.slice (some ⟨b73, 0, none⟩) 1 1) 100 3 1 [(Value.int .i64 300), (Value.int .i64 300), (Value.int .i64 299)]), (row (Value.slice (some ⟨b80, 0, none⟩) 2 2) 103 2 2 [(Value.int .i64 0), (Value.slice (some ⟨b59, 0, none⟩) 2 2), (Value.int .i64 1), (Value.slice (some ⟨b73, 0, none⟩) 1 1)])] := sep_sls_snoc (k' := brkN keptB.tabs) (c' := brkC keptB.tabs) hl11 rfl rfl (fun _ _ => ⟨rfl, rfl⟩)
 have hl13 : Sep NoB w w84 [(row (Value.slice (some ⟨b40, 0, none⟩) 2 2) 106 5 2 [(Value.int .i64 0), (Value.int .i64 1), (Value.slice (some ⟨b17, 0, none⟩) 4 4), (Value.slice (some ⟨b22, 0, none⟩) 1 1), (Value.int .i64 2), (Value.int .i64 1), (Value.int .i64 2), (Value.slice (some ⟨b33, 0, none⟩) 2 2), (Value.slice none 0 0), (Value.int .i64 0)]), (slsR true 2 (putV 1 (putV 0 (fun _ => Value.slice none 0 0) (Value.slice (some ⟨b17, 0, none⟩) 4 4)) (Value.slice (some ⟨b33, 0, none⟩) 2 2)) 2 (rowsN keptB.tabs) (rowsC keptB.tabs)), (slsR true 2 (putV 1 (putV 0 (fun _ => Value.slice none 0 0) (Value.slice (some ⟨b22, 0, none⟩) 1 1)) (Value.slice none 0 0)) 1 (brkN keptB.tabs) (brkC keptB.tabs)), (row (Value.slice (some ⟨b59, 0, none⟩) 2 2) 100 3 2 [(Value.int .i64 150), (Value.int .i64 154), (Value.int .i64 160), (Value.int .i64 240), (Value.int .i64 246), (Value.int .i64 249)]), (row (Value.slice (some ⟨b73, 0, none⟩) 1 1) 100 3 1 [(Value.int .i64 300), (Value.int .i64 300), (Value.int .i64 299)]), (row (Value.slice (some ⟨b80, 0, none⟩) 2 2) 103 2 2 [(Value.int .i64 0), (Value.slice (some ⟨b59, 0, none⟩) 2 2), (Value.int .i64 1), (Value.slice (some ⟨b73, 0, none⟩) 1 1)])] := hl12.keep [2, 1, 0, 3, 4, 5] (by decide) _ rfl rfl
 have hl14 : Sep NoB w w84 [(row (Value.slice (some ⟨b40, 0, none⟩) 2 2) 106 5 keptB.tabs.length (tabsC (putV 1 (putV 0 (fun _ => Value.slice none 0 0) (Value.slice (some ⟨b17, 0, none⟩) 4 4)) (Value.slice (some ⟨b33, 0, none⟩) 2 2)) (putV 1 (putV 0 (fun _ => Value.slice none 0 0) (Value.slice (some ⟨b22, 0, none⟩) 1 1)) (Value.slice none 0 0)) keptB.tabs)), (slsR true 2 (putV 1 (putV 0 (fun _ => Value.slice none 0 0) (Value.slice (some ⟨b17, 0, none⟩) 4 4)) (Value.slice (some ⟨b33, 0, none⟩) 2 2)) 2 (rowsN keptB.tabs) (rowsC keptB.tabs)), (slsR true 2 (putV 1 (putV 0 (fun _ => Value.slice none 0 0) (Value.slice (some ⟨b22, 0, none⟩) 1 1)) (Value.slice none 0 0)) 1 (brkN keptB.tabs) (brkC keptB.tabs)), (row (Value.slice (some ⟨b59, 0, none⟩) 2 2) 100 3 2 [(Value.int .i64 150), (Value.int .i64 154), (Value.int .i64 160), (Value.int .i64 240), (Value.int .i64 246), (Value.int .i64 249)]), (row (Value.slice (some ⟨b73, 0, none⟩) 1 1) 100 3 1 [(Value.int .i64 300), (Value.int .i64 300), (Value.int .i64 299)]), (row (Value.slice (some ⟨b80, 0, none⟩) 2 2) 103 2 2 [(Value.int .i64 0), (Value.slice (some ⟨b59, 0, none⟩) 2 2), (Value.int .i64 1), (Value.slice (some ⟨b73, 0, none⟩) 1 1)])] := hl13.row_say (i := 0) rfl rfl (kept_tabsC _ _ _ _).symm
 have hl15 : Sep NoB w w84 [(tabsR true (Value.slice (some ⟨b40, 0, none⟩) 2 2) (putV 1 (putV 0 (fun _ => Value.slice none 0 0) (Value.slice (some ⟨b17, 0, none⟩) 4 4)) (Value.slice (some ⟨b33, 0, none⟩) 2 2)) (putV 1 (putV 0 (fun _ => Value.slice none 0 0) (Value.slice (some ⟨b22, 0, none⟩) 1 1)) (Value.slice none 0 0)) keptB.tabs), (row (Value.slice (some ⟨b59, 0, none⟩) 2 2) 100 3 2 [(Value.int .i64 150), (Value.int .i64 154), (Value.int .i64 160), (Value.int .i64 240), (Value.int .i64 246), (Value.int .i64 249)]), (row (Value.slice (some ⟨b73, 0, none⟩) 1 1) 100 3 1 [(Value.int .i64 300), (Value.int .i64 300), (Value.int .i64 299)]), (row (Value.slice (some ⟨b80, 0, none⟩) 2 2) 103 2 2 [(Value.int .i64 0), (Value.slice (some ⟨b59, 0, none⟩) 2 2), (Value.int .i64 1), (Value.slice (some ⟨b73, 0, none⟩) 1 1)])] := sep_tabs_join hl14
 have hl16 : Sep NoB w w84 [(slsR true 0 (fun _ => Value.slice none 0 0) 3 (blkN keptB.macs) (blkC keptB.macs)), (tabsR true (Value.slice (some ⟨b40, 0, none⟩) 2 2) (putV 1 (putV 0 (fun _ => Value.slice none 0 0) (Value.slice (some ⟨b17, 0, none⟩) 4 4)) (Value.slice (some ⟨b33, 0, none⟩) 2 2)) (putV 1 (putV 0 (fun _ => Value.slice none 0 0) (Value.slice (some ⟨b22, 0, none⟩) 1 1)) (Value.slice none 0 0)) keptB.tabs), (row (Value.slice (some ⟨b59, 0, none⟩) 2 2) 100 3 2 [(Value.int .i64 150), (Value.int .i64 154), (Value.int .i64 160), (Value.int .i64 240), (Value.int .i64 246), (Value.int .i64 249)]), (row (Value.slice (some ⟨b73, 0, none⟩) 1 1) 100 3 1 [(Value.int .i64 300), (Value.int .i64 300), (Value.int .i64 299)]), (row (Value.slice (some ⟨b80, 0, none⟩) 2 2) 103 2 2 [(Value.int .i64 0), (Value.slice (some ⟨b59, 0, none⟩) 2 2), (Value.int .i64 1), (Value.slice (some ⟨b73, 0, none⟩) 1 1)])] := sep_sls_nil hl15 (fun _ => Value.slice none 0 0) 3 (blkN keptB.macs) (blkC keptB.macs)
 have hl17 : Sep NoB w w84 [(row (Value.slice (some ⟨b59, 0, none⟩) 2 2) 100 3 2 [(Value.int .i64 150), (Value.int .i64 154), (Value.int .i64 160), (Value.int .i64 240), (Value.int .i64 246), (Value.int .i64 249)]), (slsR true 0 (fun _ => Value.slice none 0 0) 3 (blkN keptB.macs) (blkC keptB.macs)), (tabsR true (Value.slice (some ⟨b40, 0, none⟩) 2 2) (putV 1 (putV 0 (fun _ => Value.slice none 0 0) (Value.slice (some ⟨b17, 0, none⟩) 4 4)) (Value.slice (some ⟨b33, 0, none⟩) 2 2)) (putV 1 (putV 0 (fun _ => Value.slice none 0 0) (Value.slice (some ⟨b22, 0, none⟩) 1 1)) (Value.slice none 0 0)) keptB.tabs), (row (Value.slice (some ⟨b73, 0, none⟩) 1 1) 100 3 1 [(Value.int .i64 300), (Value.int .i64 300), (Value.int .i64 299)]), (row (Value.slice (some ⟨b80, 0, none⟩) 2 2) 103 2 2 [(Value.int .i64 0), (Value.slice (some ⟨b59, 0, none⟩) 2 2), (Value.int .i64 1), (Value.slice (some ⟨b73, 0, none⟩) 1 1)])] := hl16.keep [2, 0, 1, 3, 4] (by decide) _ rfl rfl
 have hl18 : Sep NoB w w84 [(slsR true 1 (putV 0 (fun _ => Value.slice none 0 0) (Value.slice (some ⟨b59, 0, none⟩) 2 2)) 3 (blkN keptB.macs) (blkC keptB.macs)), (tabsR true (Value.slice (some ⟨b40, 0, none⟩) 2 2) (putV 1 (putV 0 (fun _ => Value.slice none 0 0) (Value.slice (some ⟨b17, 0, none⟩) 4 4)) (Value.slice (some ⟨b33, 0, none⟩) 2 2)) (putV 1 (putV 0 (fun _ => Value.slice none 0 0) (Value.slice (some ⟨b22, 0, none⟩) 1 1)) (Value.slice none 0 0)) keptB.tabs), (row (Value.slice (some ⟨b73, 0, none⟩) 1 1) 100 3 1 [(Value.int .i64 300), (Value.int .i64 300), (Value.int .i64 299)]), (row (Value.slice (some ⟨b80, 0, none⟩) 2 2) 103 2 2 [(Value.int .i64 0), (Value.slice (some ⟨b59, 0, none⟩) 2 2), (Value.int .i64 1), (Value.slice (some ⟨b73, 0, none⟩) 1 1)])] := sep_sls_snoc (k' := blkN keptB.macs) (c' := blkC keptB.macs) hl17 rfl rfl (fun i hi => absurd hi (Nat.not_lt_zero _))
 have hl19 : Sep NoB w w84 [(row (Value.slice (some ⟨b73, 0, none⟩) 1 1) 100 3 1 [(Value.int .i64 300), (Value.int .i64 300), (Value.int .i64 299)]), (slsR true 1 (putV 0 (fun _ => Value.slice none 0 0) (Value.slice (some ⟨b59, 0, none⟩) 2 2)) 3 (blkN keptB.macs) (blkC keptB.macs)), (tabsR true (Value.slice (some ⟨b40, 0, none⟩) 2 2) (putV 1 (putV 0 (fun _ => Value.slice none 0 0) (Value.slice (some ⟨b17, 0, none⟩) 4 4)) (Value.slice (some ⟨b33, 0, none⟩) 2 2)) (putV 1 (putV 0 (fun _ => Value.slice none 0 0) (Value.slice (some ⟨b22, 0, none⟩) 1 1)) (Value.slice none 0 0)) keptB.tabs), (row (Value.slice (some ⟨b80, 0, none⟩) 2 2) 103 2 2 [(Value.int .i64 0), (Value.slice (some ⟨b59, 0, none⟩) 2 2), (Value.int .i64 1), (Value.slice (some ⟨b73, 0, none⟩) 1 1)])] := hl18.keep [2, 0, 1, 3] (by decide) _ rfl rfl
 have hl20 : Sep NoB w w84 [(slsR true 2 (putV 1 (putV 0 (fun _ => Value.slice none 0 0) (Value.slice (some ⟨b59, 0, none⟩) 2 2)) (Value.slice (some ⟨b73, 0, none⟩) 1 1)) 3 (blkN keptB.macs) (blkC keptB.macs)), (tabsR true (Value.slice (some ⟨b40, 0, none⟩) 2 2) (putV 1 (putV 0 (fun _ => Value.slice none 0 0) (Value.slice (some ⟨b17, 0, none⟩) 4 4)) (Value.slice (some ⟨b33, 0, none⟩) 2 2)) (putV 1 (putV 0 (fun _ => Value.slice none 0 0) (Value.slice (some ⟨b22, 0, none⟩) 1 1)) (Value.slice none 0 0)) keptB.tabs), (row (Value.slice (some ⟨b80, 0, none⟩) 2 2) 103 2 2 [(Value.int .i64 0), (Value.slice (some ⟨b59, 0, none⟩) 2 2), (Value.int .i64 1), (Value.slice (some ⟨b73, 0, none⟩) 1 1)])] := sep_sls_snoc (k' := blkN keptB.macs) (c' := blkC keptB.macs) hl19 rfl rfl (fun _ _ => ⟨rfl, rfl⟩)
 have hl21 : Sep NoB w w84 [(row (Value.slice (some ⟨b80, 0, none⟩) 2 2) 103 2 2 [(Value.int .i64 0), (Value.slice (some ⟨b59, 0, none⟩) 2 2), (Value.int .i64 1), (Value.slice (some ⟨b73, 0, none⟩) 1 1)]), (slsR true 2 (putV 1 (putV 0 (fun _ => Value.slice none 0 0) (Value.slice (some ⟨b59, 0, none⟩) 2 2)) (Value.slice (some ⟨b73, 0, none⟩) 1 1)) 3 (blkN keptB.macs) (blkC keptB.macs)), (tabsR true (Value.slice (some ⟨b40, 0, none⟩) 2 2) (putV 1 (putV 0 (fun _ => Value.slice none 0 0) (Value.slice (some ⟨b17, 0, none⟩) 4 4)) (Value.slice (some ⟨b33, 0, none⟩) 2 2)) (putV 1 (putV 0 (fun _ => Value.slice none 0 0) (Value.slice (some ⟨b22, 0, none⟩) 1 1)) (Value.slice none 0 0)) keptB.tabs)] := hl20.keep [2, 0, 1] (by decide) _ rfl rfl
 have hl22 : Sep NoB w w84 [(row (Value.slice (some ⟨b80, 0, none⟩) 2 2) 103 2 keptB.macs.length (macsC (putV 1 (putV 0 (fun _ => Value.slice none 0 0) (Value.slice (some ⟨b59, 0, none⟩) 2 2)) (Value.slice (some ⟨b73, 0, none⟩) 1 1)) keptB.macs)), (slsR true 2 (putV 1 (putV 0 (fun _ => Value.slice none 0 0) (Value.slice (some ⟨b59, 0, none⟩) 2 2)) (Value.slice (some ⟨b73, 0, none⟩) 1 1)) 3 (blkN keptB.macs) (blkC keptB.macs)), (tabsR true (Value.slice (some ⟨b40, 0, none⟩) 2 2) (putV 1 (putV 0 (fun _ => Value.slice none 0 0) (Value.slice (some ⟨b17, 0, none⟩) 4 4)) (Value.slice (some ⟨b33, 0, none⟩) 2 2)) (putV 1 (putV 0 (fun _ => Value.slice none 0 0) (Value.slice (some ⟨b22, 0, none⟩) 1 1)) (Value.slice none 0 0)) keptB.tabs)] := hl21.row_say (i := 0) rfl rfl (kept_macsC _ _).symm
 have hl23 : Sep NoB w w84 [(macsR true (Value.slice (some ⟨b80, 0, none⟩) 2 2) (putV 1 (putV 0 (fun _ => Value.slice none 0 0) (Value.slice (some ⟨b59, 0, none⟩) 2 2)) (Value.slice (some ⟨b73, 0, none⟩) 1 1)) keptB.macs), (tabsR true (Value.slice (some ⟨b40, 0, none⟩) 2 2) (putV 1 (putV 0 (fun _ => Value.slice none 0 0) (Value.slice (some ⟨b17, 0, none⟩) 4 4)) (Value.slice (some ⟨b33, 0, none⟩) 2 2)) (putV 1 (putV 0 (fun _ => Value.slice none 0 0) (Value.slice (some ⟨b22, 0, none⟩) 1 1)) (Value.slice none 0 0)) keptB.tabs)] := sep_macs_join hl22
 have hl24 : Sep NoB w w84 [(tabsR true (Value.slice (some ⟨b40, 0, none⟩) 2 2) (putV 1 (putV 0 (fun _ => Value.slice none 0 0) (Value.slice (some ⟨b17, 0, none⟩) 4 4)) (Value.slice (some ⟨b33, 0, none⟩) 2 2)) (putV 1 (putV 0 (fun _ => Value.slice none 0 0) (Value.slice (some ⟨b22, 0, none⟩) 1 1)) (Value.slice none 0 0)) keptB.tabs), (macsR true (Value.slice (some ⟨b80, 0, none⟩) 2 2) (putV 1 (putV 0 (fun _ => Value.slice none 0 0) (Value.slice (some ⟨b59, 0, none⟩) 2 2)) (Value.slice (some ⟨b73, 0, none⟩) 1 1)) keptB.macs)] := hl23.keep [1, 0] (by decide) _ rfl rfl
 exact ⟨_, _, _, _, _, rfl, hl24⟩
end Go.Proofs.Ytohgladndklciaa

namespace Go.Proofs.Ytohgladndklciaa
open Go.RowKit Go.Shelf Go.Eng Go.Hard
theorem en_46 : ∀ args w, (callFunc 46 args).run Try.prog w = .ok (.enter 46 args) w := enters_of Try.func46 (by kernel_rfl) rfl
theorem en_33 : ∀ args w, (callFunc 33 args).run Try.prog w = .ok (.enter 33 args) w := enters_of Try.func33 (by kernel_rfl) rfl
theorem en_18 : ∀ args w, (callFunc 18 args).run Try.prog w = .ok (.enter 18 args) w := enters_of Try.func18 (by kernel_rfl) rfl
theorem en_25 : ∀ args w, (callFunc 25 args).run Try.prog w = .ok (.enter 25 args) w := enters_of Try.func25 (by kernel_rfl) rfl
theorem awake_ok (w : World) :
  Calls Try.prog 17 #[] w (Ret fun v w' => v = .bool true ∧ Ext NoB w w') := by
 refine calls_enter Try.func17 rfl fun a0 hA0 => ?_
 replace hA0 : Fr 71 [] [] a0 := hA0
 have hS0 : Sep NoB w w [] := Sep.start _ _
 refine m2 ?_
 refine s1 hA0 (op_assign rfl (evc _ _)) fun a1 hA2 => ?_; clear hA0 a0
 refine n4 ?_
 refine s2 hA2 (op_call rfl en_46 ev0 (kept_ok _)) ?_
 rintro a3 _ w5 ⟨vt6, vm7, lr8, lb9, lk10, rfl, hT11⟩ hA4; have hS12 := hS0.callS hT11 rfl; clear hT11 hA2 hS0 a1
 refine s2 hA4 (op_call rfl en_33 (ev2 (hA4.ev rfl) (evc _ _)) (Bias_ok keptB vt6 vm7 lr8 lb9 lk10 _ (tabs_at (hS12.ok 0 _ rfl)) (macs_at (hS12.ok 1 _ rfl)) kept_thin 0)) ?_
 rintro a13 _ w15 ⟨rfl, hE16⟩ hA14; have hS17 := hS12.step hE16; clear hE16 hA4 hS12 a3
 refine s1 hA14 (op_move rfl (hA14.ev rfl)) fun a18 hA19 => ?_; clear hA14 a13
 refine s1 hA19 (op_extract rfl (hA19.ev rfl) rfl) fun a20 hA21 => ?_; clear hA19 a18
 refine s1 hA21 (op_extract rfl (hA21.ev rfl) rfl) fun a22 hA23 => ?_; clear hA21 a20
 refine s2 hA23 (op_alloc hS17 rfl ze_30 (cs := [(Value.int .i64 0), (Value.int .i64 0)]) rfl) ?_
 rintro a24 _ w26 ⟨b27, rfl, hS28⟩ hA25; clear hA23 hS17 a22
 refine s7 hA25 (op_store hS28 rfl ty_30 (hA25.ev rfl) (hA25.ev rfl) (i := 0) rfl (vs := [(Value.int .i64 ((biasR keptB 0).1)), (Value.int .i64 ((biasR keptB 0).2))]) rfl rfl rfl (Nat.le_of_ble_eq_true rfl)) ?_
 intro _ w29 hS30 hA31; clear hA25
 have hS32 : Sep NoB w w29 [(blk b27 30 [(Value.int .i64 ((biasR keptB 0).1)), (Value.int .i64 ((biasR keptB 0).2))]), (tabsR true vt6 lr8 lb9 keptB.tabs), (macsR true vm7 lk10 keptB.macs)] := hS30; clear hS30 hS28
 refine s1 hA31 (op_assign rfl (hA31.ev rfl)) fun a33 hA34 => ?_; clear hA31 a24
 refine n2 ?_
 have hA35 := hA34.as [(2, (Value.int .i64 (biasE keptB 0))), (1, (bptr b27 0))] rfl; clear hA34
 refine c_region ?_
 refine s2 hA35 (op_call rfl en_46 ev0 (kept_ok _)) ?_
 rintro a36 _ w38 ⟨vt39, vm40, lr41, lb42, lk43, rfl, hT44⟩ hA37; have hS45 := hS32.callS hT44 rfl; clear hT44 hA35 hS32 a33
 refine s2 hA37 (op_call rfl en_31 (ev2 (evc _ _) (evc _ _)) (between_ok _ _ _)) ?_
 rintro a46 _ w48 ⟨rfl, hE49⟩ hA47; have hS50 := hS45.step hE49; clear hE49 hA37 hS45 a36
 refine s2 hA47 (op_call rfl en_18 (ev3 (hA47.ev rfl) (evc _ _) (hA47.ev rfl)) (Convert_ok keptB vt39 vm40 lr41 lb42 lk43 _ (tabs_at (hS50.ok 0 _ rfl)) (macs_at (hS50.ok 1 _ rfl)) kept_thin 0 150 180)) ?_
 rintro a51 _ w53 ⟨rfl, hE54⟩ hA52; have hS55 := hS50.step hE54; clear hE54 hA47 hS50 a46
 refine s1 hA52 (op_move rfl (hA52.ev rfl)) fun a56 hA57 => ?_; clear hA52 a51
 refine s1 hA57 (op_extract rfl (hA57.ev rfl) rfl) fun a58 hA59 => ?_; clear hA57 a56
 refine s1 hA59 (op_extract rfl (hA59.ev rfl) rfl) fun a60 hA61 => ?_; clear hA59 a58
 refine s2 hA61 (op_alloc hS55 rfl ze_30 (cs := [(Value.int .i64 0), (Value.int .i64 0)]) rfl) ?_
 rintro a62 _ w64 ⟨b65, rfl, hS66⟩ hA63; clear hA61 hS55 a60
 refine s7 hA63 (op_store hS66 rfl ty_30 (hA63.ev rfl) (hA63.ev rfl) (i := 0) rfl (vs := [(Value.int .i64 ((convR keptB 0 (150, 180)).1)), (Value.int .i64 ((convR keptB 0 (150, 180)).2))]) rfl rfl rfl (Nat.le_of_ble_eq_true rfl)) ?_
 intro _ w67 hS68 hA69; clear hA63
 have hS70 : Sep NoB w w67 [(blk b65 30 [(Value.int .i64 ((convR keptB 0 (150, 180)).1)), (Value.int .i64 ((convR keptB 0 (150, 180)).2))]), (tabsR true vt39 lr41 lb42 keptB.tabs), (macsR true vm40 lk43 keptB.macs), (blk b27 30 [(Value.int .i64 ((biasR keptB 0).1)), (Value.int .i64 ((biasR keptB 0).2))]), (tabsR true vt6 lr8 lb9 keptB.tabs), (macsR true vm7 lk10 keptB.macs)] := hS68; clear hS68 hS66
 refine s1 hA69 (op_assign rfl (hA69.ev rfl)) fun a71 hA72 => ?_; clear hA69 a62
 refine n2 ?_
 have hA73 := hA72.as [(4, (Value.int .i64 (convE keptB 0 (150, 180)))), (3, (bptr b65 0)), (2, (Value.int .i64 (biasE keptB 0))), (1, (bptr b27 0))] rfl; clear hA72
 refine c_region ?_
 refine s2 hA73 (op_call rfl en_46 ev0 (kept_ok _)) ?_
 rintro a74 _ w76 ⟨vt77, vm78, lr79, lb80, lk81, rfl, hT82⟩ hA75; have hS83 := hS70.callS hT82 rfl; clear hT82 hA73 hS70 a71
 refine s1 hA75 (op_build rfl (pv2 (evc _ _) (evc _ _)) (bd_98_0i_1i _ _)) fun a84 hA85 => ?_; clear hA75 a74
 refine s2 hA85 (op_buildSlice hS83 rfl (pv1 (hA85.ev rfl)) un_53 ty_98 ze_98 (by decide) (cs := [(Value.int .i64 0), (Value.int .i64 170)]) (bs_98_1_0iia _ _)) ?_
 rintro a86 _ w88 ⟨b89, rfl, hS90⟩ hA87; clear hA85 hS83 a84
 refine s2 hA87 (op_call rfl en_25 (ev2 (hA87.ev rfl) (hA87.ev rfl)) (Spans_ok keptB vt77 vm78 lr79 lb80 lk81 _ (tabs_at (hS90.ok 1 _ rfl)) (macs_at (hS90.ok 2 _ rfl)) kept_thin ([(0, 170)]) _ (SlAt.of_blk (hS90.bk 0 rfl) rfl (Nat.le_of_ble_eq_true rfl)) (by decide) ([(161, 164), (259, 266), (83, 87)]) kept_read kept_spans)) ?_
 rintro a91 _ w93 ⟨u96, rfl, hT94⟩ hA92
 have hS95 : Sep NoB w w93 [(row u96 30 2 ([(161, 164), (259, 266), (83, 87)].length) (pairs ([(161, 164), (259, 266), (83, 87)]))), (blk b89 98 [(Value.int .i64 0), (Value.int .i64 170)]), (tabsR true vt77 lr79 lb80 keptB.tabs), (macsR true vm78 lk81 keptB.macs), (blk b65 30 [(Value.int .i64 ((convR keptB 0 (150, 180)).1)), (Value.int .i64 ((convR keptB 0 (150, 180)).2))]), (tabsR true vt39 lr41 lb42 keptB.tabs), (macsR true vm40 lk43 keptB.macs), (blk b27 30 [(Value.int .i64 ((biasR keptB 0).1)), (Value.int .i64 ((biasR keptB 0).2))]), (tabsR true vt6 lr8 lb9 keptB.tabs), (macsR true vm7 lk10 keptB.macs)] := hS90.callS hT94 rfl; clear hT94 hA87 hS90 a86
 refine s1 hA92 (op_move rfl (hA92.ev rfl)) fun a97 hA98 => ?_; clear hA92 a91
 refine s1 hA98 (op_extract rfl (hA98.ev rfl) rfl) fun a99 hA100 => ?_; clear hA98 a97
 refine s1 hA100 (op_extract rfl (hA100.ev rfl) rfl) fun a101 hA102 => ?_; clear hA100 a99
 refine s1 hA102 (op_assign rfl (hA102.ev rfl)) fun a103 hA104 => ?_; clear hA102 a101
 refine s1 hA104 (op_assign rfl (hA104.ev rfl)) fun a105 hA106 => ?_; clear hA104 a103
 refine n2 ?_
 have hA107 := hA106.as [(6, (Value.int .i64 0)), (5, u96), (4, (Value.int .i64 (convE keptB 0 (150, 180)))), (3, (bptr b65 0)), (2, (Value.int .i64 (biasE keptB 0))), (1, (bptr b27 0))] rfl; clear hA106
 have hA108 := hA107.as [(6, (Value.int .i64 0)), (5, u96), (4, (Value.int .i64 (convE keptB 0 (150, 180)))), (3, (bptr b65 0)), (2, (Value.int .i64 (biasE keptB 0))), (1, (bptr b27 0))] rfl; clear hA107
 refine c_drawn mixed hA108 hS95 46 [[], [0], [1], [2], [2], [2, 3, 4], [2, 5], [6], [7], [7, 8], [7, 9], [10], [11], [11], [11, 12, 13], [11, 14], [15], [16], [16, 17], [16, 18], [19], [20], [20, 21], [20, 22], [20, 23], [24], [25], [25, 26], [25, 27], [25], [25, 28, 29], [25, 30], [31], [32], [32, 33], [32, 34], [32], [32, 35, 36], [32, 37], [38], [39], [39, 40], [39, 41], [39], [39, 42, 43], [39, 44]] [(Yd.val (Value.int .i64 (biasE keptB 0))), (Yd.val (Value.bool true)), (Yd.val (Value.bool true)), (Yd.val (Value.agg #[(Value.int .i64 ((biasR keptB 0).1)), (Value.int .i64 ((biasR keptB 0).2))])), (Yd.val (Value.agg #[(Value.int .i64 6), (Value.int .i64 9)])), (Yd.val (Value.bool true)), (Yd.val (Value.bool true)), (Yd.val (Value.bool true)), (Yd.val (Value.int .i64 (convE keptB 0 (150, 180)))), (Yd.val (Value.bool true)), (Yd.val (Value.bool true)), (Yd.val (Value.bool true)), (Yd.val (Value.agg #[(Value.int .i64 ((convR keptB 0 (150, 180)).1)), (Value.int .i64 ((convR keptB 0 (150, 180)).2))])), (Yd.val (Value.agg #[(Value.int .i64 248), (Value.int .i64 282)])), (Yd.val (Value.bool true)), (Yd.val (Value.bool true)), (Yd.val (Value.bool true)), (Yd.val (Value.int .i64 0)), (Yd.val (Value.bool true)), (Yd.val (Value.bool true)), (Yd.val (Value.bool true)), (Yd.val u96), (Yd.val (Value.int .i64 ([(161, 164), (259, 266), (83, 87)].length : Int))), (Yd.val (Value.bool true)), (Yd.val (Value.bool true)), (Yd.val (Value.bool true)), (Yd.val u96), (Yd.val (eptr u96 (0 * 2))), (Yd.val (Value.agg #[(Value.int .i64 ((([(161, 164), (259, 266), (83, 87)]).getD 0 (0, 0)).1)), (Value.int .i64 ((([(161, 164), (259, 266), (83, 87)]).getD 0 (0, 0)).2))])), (Yd.val (Value.agg #[(Value.int .i64 161), (Value.int .i64 164)])), (Yd.val (Value.bool true)), (Yd.val (Value.bool true)), (Yd.val (Value.bool true)), (Yd.val u96), (Yd.val (eptr u96 (1 * 2))), (Yd.val (Value.agg #[(Value.int .i64 ((([(161, 164), (259, 266), (83, 87)]).getD 1 (0, 0)).1)), (Value.int .i64 ((([(161, 164), (259, 266), (83, 87)]).getD 1 (0, 0)).2))])), (Yd.val (Value.agg #[(Value.int .i64 259), (Value.int .i64 266)])), (Yd.val (Value.bool true)), (Yd.val (Value.bool true)), (Yd.val (Value.bool true)), (Yd.val u96), (Yd.val (eptr u96 (2 * 2))), (Yd.val (Value.agg #[(Value.int .i64 ((([(161, 164), (259, 266), (83, 87)]).getD 2 (0, 0)).1)), (Value.int .i64 ((([(161, 164), (259, 266), (83, 87)]).getD 2 (0, 0)).2))])), (Yd.val (Value.agg #[(Value.int .i64 83), (Value.int .i64 87)])), (Yd.val (Value.bool true)), (Yd.val (Value.bool true))] (by decide +kernel) rfl rfl ?_ ?_
 ·skip
  refine dq (fun a w hA hS hd => op_move rfl (hA.ev rfl)) ?_
  refine ⟨fun a w hA hS hd => by have e0 := hx hd 0; exact opG_of rfl (dv (op_eql rfl (tmp_ev e0) (evc _ _)) hS (by show Value.bool _ = _; simp only [decide_eq_true (show (biasE keptB 0) = 0 from (by decide)), decide_true, decide_false, Bool.not_true, Bool.not_false])), ?_⟩
  refine dq (fun a w hA hS hd => op_move rfl (hq hd 1)) ?_
  refine dy 2 (fun a w hA hS hd => op_loadA rfl ty_30 (hA.ev rfl) (hS.bk 7 rfl) (l := [(Value.int .i64 ((biasR keptB 0).1)), (Value.int .i64 ((biasR keptB 0).2))]) rfl rfl) ?_
  refine ⟨fun a w hA hS hd => by have e2 := hx hd 2; exact opG_yes rfl rfl e2 (dx (op_call rfl en_31 (ev2 (evc _ _) (evc _ _)) (between_ok _ _ _)) hS (fun _ => rfl)), ?_⟩
  refine ⟨fun a w hA hS hd => by have e2 := hx hd 2; have e3 := hx hd 3; have e4 := hx hd 4; exact opG_yes rfl rfl e2 (dv (op_eqlP tw_30 rfl (tmp_ev e3) (tmp_ev e4)) hS (by show Value.bool _ = _; simp only [(show (decide ((((biasR keptB 0).1) : Int) = 6) && decide ((((biasR keptB 0).2) : Int) = 9)) = true from (by decide)), decide_true, decide_false, Bool.not_true, Bool.not_false])), ?_⟩
  refine dq (fun a w hA hS hd => op_pick_t rfl (hq hd 2) (hq hd 5)) ?_
  refine dq (fun a w hA hS hd => op_move rfl (hq hd 6)) ?_
  refine dy 7 (fun a w hA hS hd => op_move rfl (hA.ev rfl)) ?_
  refine ⟨fun a w hA hS hd => by have e7 := hx hd 7; have e8 := hx hd 8; exact opG_yes rfl rfl e7 (dv (op_eql rfl (tmp_ev e8) (evc _ _)) hS (by show Value.bool _ = _; simp only [decide_eq_true (show (convE keptB 0 (150, 180)) = 0 from (by decide)), decide_true, decide_false, Bool.not_true, Bool.not_false])), ?_⟩
  refine dq (fun a w hA hS hd => op_pick_t rfl (hq hd 7) (hq hd 9)) ?_
  refine dq (fun a w hA hS hd => op_move rfl (hq hd 10)) ?_
  refine dy 11 (fun a w hA hS hd => op_loadA rfl ty_30 (hA.ev rfl) (hS.bk 4 rfl) (l := [(Value.int .i64 ((convR keptB 0 (150, 180)).1)), (Value.int .i64 ((convR keptB 0 (150, 180)).2))]) rfl rfl) ?_
  refine ⟨fun a w hA hS hd => by have e11 := hx hd 11; exact opG_yes rfl rfl e11 (dx (op_call rfl en_31 (ev2 (evc _ _) (evc _ _)) (between_ok _ _ _)) hS (fun _ => rfl)), ?_⟩
  refine ⟨fun a w hA hS hd => by have e11 := hx hd 11; have e12 := hx hd 12; have e13 := hx hd 13; exact opG_yes rfl rfl e11 (dv (op_eqlP tw_30 rfl (tmp_ev e12) (tmp_ev e13)) hS (by show Value.bool _ = _; simp only [(show (decide ((((convR keptB 0 (150, 180)).1) : Int) = 248) && decide ((((convR keptB 0 (150, 180)).2) : Int) = 282)) = true from (by decide)), decide_true, decide_false, Bool.not_true, Bool.not_false])), ?_⟩
  refine dq (fun a w hA hS hd => op_pick_t rfl (hq hd 11) (hq hd 14)) ?_
  refine dq (fun a w hA hS hd => op_move rfl (hq hd 15)) ?_
  refine dy 16 (fun a w hA hS hd => op_move rfl (hA.ev rfl)) ?_
  refine dy 16 (fun a w hA hS hd => op_eql rfl (hq hd 17) (evc _ _)) ?_
  refine dq (fun a w hA hS hd => op_pick_t rfl (hq hd 16) (hq hd 18)) ?_
  refine dq (fun a w hA hS hd => op_move rfl (hq hd 19)) ?_
  refine dy 20 (fun a w hA hS hd => op_move rfl (hA.ev rfl)) ?_
  refine dy 20 (fun a w hA hS hd => op_lenS rfl un_50 (hq hd 21) (SlAt.of_row (hS.ok_row 0 rfl))) ?_
  refine ⟨fun a w hA hS hd => by have e20 := hx hd 20; have e22 := hx hd 22; exact opG_yes rfl rfl e20 (dv (op_eql rfl (tmp_ev e22) (evc _ _)) hS (by show Value.bool _ = _; simp only [decide_eq_true (show ([(161, 164), (259, 266), (83, 87)].length : Int) = 3 from (by decide)), decide_true, decide_false, Bool.not_true, Bool.not_false])), ?_⟩
  refine dq (fun a w hA hS hd => op_pick_t rfl (hq hd 20) (hq hd 23)) ?_
  refine dq (fun a w hA hS hd => op_move rfl (hq hd 24)) ?_
  refine dy 25 (fun a w hA hS hd => op_move rfl (hA.ev rfl)) ?_
  refine dy 25 (fun a w hA hS hd => op_indexS rfl un_50 ty_30 (hq hd 26) (i := 0) (show _ = Value.int .i64 ((0 : Nat) : Int) from (evc _ _)) (SlAt.of_row (hS.ok_row 0 rfl)) (by decide) (by decide)) ?_
  refine dy 25 (fun a w hA hS hd => op_loadAE rfl ty_30 (hq hd 27) (SlAt.of_row (hS.ok_row 0 rfl)) (pairs_all (by decide)) rfl (by decide)) ?_
  refine ⟨fun a w hA hS hd => by have e25 := hx hd 25; exact opG_yes rfl rfl e25 (dx (op_call rfl en_31 (ev2 (evc _ _) (evc _ _)) (between_ok _ _ _)) hS (fun _ => rfl)), ?_⟩
  refine ⟨fun a w hA hS hd => by have e25 := hx hd 25; have e28 := hx hd 28; have e29 := hx hd 29; exact opG_yes rfl rfl e25 (dv (op_eqlP tw_30 rfl (tmp_ev e28) (tmp_ev e29)) hS (by show Value.bool _ = _; simp only [(show (decide ((((([(161, 164), (259, 266), (83, 87)]).getD 0 (0, 0)).1) : Int) = 161) && decide ((((([(161, 164), (259, 266), (83, 87)]).getD 0 (0, 0)).2) : Int) = 164)) = true from (by decide)), decide_true, decide_false, Bool.not_true, Bool.not_false])), ?_⟩
  refine dq (fun a w hA hS hd => op_pick_t rfl (hq hd 25) (hq hd 30)) ?_
  refine dq (fun a w hA hS hd => op_move rfl (hq hd 31)) ?_
  refine dy 32 (fun a w hA hS hd => op_move rfl (hA.ev rfl)) ?_
  refine dy 32 (fun a w hA hS hd => op_indexS rfl un_50 ty_30 (hq hd 33) (i := 1) (show _ = Value.int .i64 ((1 : Nat) : Int) from (evc _ _)) (SlAt.of_row (hS.ok_row 0 rfl)) (by decide) (by decide)) ?_
  refine dy 32 (fun a w hA hS hd => op_loadAE rfl ty_30 (hq hd 34) (SlAt.of_row (hS.ok_row 0 rfl)) (pairs_all (by decide)) rfl (by decide)) ?_
  refine ⟨fun a w hA hS hd => by have e32 := hx hd 32; exact opG_yes rfl rfl e32 (dx (op_call rfl en_31 (ev2 (evc _ _) (evc _ _)) (between_ok _ _ _)) hS (fun _ => rfl)), ?_⟩
  refine ⟨fun a w hA hS hd => by have e32 := hx hd 32; have e35 := hx hd 35; have e36 := hx hd 36; exact opG_yes rfl rfl e32 (dv (op_eqlP tw_30 rfl (tmp_ev e35) (tmp_ev e36)) hS (by show Value.bool _ = _; simp only [(show (decide ((((([(161, 164), (259, 266), (83, 87)]).getD 1 (0, 0)).1) : Int) = 259) && decide ((((([(161, 164), (259, 266), (83, 87)]).getD 1 (0, 0)).2) : Int) = 266)) = true from (by decide)), decide_true, decide_false, Bool.not_true, Bool.not_false])), ?_⟩
  refine dq (fun a w hA hS hd => op_pick_t rfl (hq hd 32) (hq hd 37)) ?_
  refine dq (fun a w hA hS hd => op_move rfl (hq hd 38)) ?_
  refine dy 39 (fun a w hA hS hd => op_move rfl (hA.ev rfl)) ?_
  refine dy 39 (fun a w hA hS hd => op_indexS rfl un_50 ty_30 (hq hd 40) (i := 2) (show _ = Value.int .i64 ((2 : Nat) : Int) from (evc _ _)) (SlAt.of_row (hS.ok_row 0 rfl)) (by decide) (by decide)) ?_
  refine dy 39 (fun a w hA hS hd => op_loadAE rfl ty_30 (hq hd 41) (SlAt.of_row (hS.ok_row 0 rfl)) (pairs_all (by decide)) rfl (by decide)) ?_
  refine ⟨fun a w hA hS hd => by have e39 := hx hd 39; exact opG_yes rfl rfl e39 (dx (op_call rfl en_31 (ev2 (evc _ _) (evc _ _)) (between_ok _ _ _)) hS (fun _ => rfl)), ?_⟩
  refine ⟨fun a w hA hS hd => by have e39 := hx hd 39; have e42 := hx hd 42; have e43 := hx hd 43; exact opG_yes rfl rfl e39 (dv (op_eqlP tw_30 rfl (tmp_ev e42) (tmp_ev e43)) hS (by show Value.bool _ = _; simp only [(show (decide ((((([(161, 164), (259, 266), (83, 87)]).getD 2 (0, 0)).1) : Int) = 83) && decide ((((([(161, 164), (259, 266), (83, 87)]).getD 2 (0, 0)).2) : Int) = 87)) = true from (by decide)), decide_true, decide_false, Bool.not_true, Bool.not_false])), ?_⟩
  refine dq (fun a w hA hS hd => op_pick_t rfl (hq hd 39) (hq hd 44)) ?_
  trivial
 intro a110 w111 hA112 hS113 hH114; clear hA108 hS95
 have hA115 := hA112.add (hz hH114 45); clear hA112
 clear hH114
 refine s1 hA115 (op_assign rfl (hA115.ev rfl)) fun a116 hA117 => ?_; clear hA115 a110
 refine n1 ?_
 refine c_ret ?_
 refine fin_run hA117 (.inl rfl) (run_results1 hA117 rfl (.tmp rfl)) ?_
 exact ⟨rfl, hS113.ext⟩
end Go.Proofs.Ytohgladndklciaa

namespace Go.Proofs.Ytohgladndklciaa
open Go.RowKit Go.Shelf Go.Eng Go.Hard
theorem en_16 : ∀ args w, (callFunc 16 args).run Try.prog w = .ok (.enter 16 args) w := enters_of Try.func16 (by kernel_rfl) rfl
theorem en_17 : ∀ args w, (callFunc 17 args).run Try.prog w = .ok (.enter 17 args) w := enters_of Try.func17 (by kernel_rfl) rfl
theorem en_19 : ∀ args w, (callFunc 19 args).run Try.prog w = .ok (.enter 19 args) w := enters_of Try.func19 (by kernel_rfl) rfl
theorem en_23 : ∀ args w, (callFunc 23 args).run Try.prog w = .ok (.enter 23 args) w := enters_of Try.func23 (by kernel_rfl) rfl
theorem en_24 : ∀ args w, (callFunc 24 args).run Try.prog w = .ok (.enter 24 args) w := enters_of Try.func24 (by kernel_rfl) rfl
theorem thin0_ok (b : BookD) (vt vm : Value) (lr lb lk : Nat → Value) (w : World) (hT : TabsAt w vt lr lb b.tabs) (hM : MacsAt w vm lk b.macs) : Calls Try.prog 16 #[.agg #[.int .i64 b.scales, vt, vm], .slice none 0 0] w (Ret fun v w' => v = .bool (thinF b 0) ∧ Ext NoB w w') := thin_ok b vt vm lr lb lk w hT hM [] _ (slAt_nil w 2)
end Go.Proofs.Ytohgladndklciaa
