/-
  Walks through the functions of the seat, printed by a program of ours (gowalk), a theorem a function: what the call returns and what it leaves in memory.
-/
import Derived.Test.YtohgladndklciaaBe
set_option linter.unusedSimpArgs false
set_option linter.unusedVariables false
namespace Go.Proofs.Ytohgladndklciaa
open Go.RowKit Go.Shelf Go.Eng Go.Hard
theorem spanB_parts {r1 r2 : Int} : spanB (r1, r2) = true ↔ inB r1 0 r2 = true ∧ ¬ 100000 < r2 := by
 unfold spanB; simp only [Bool.and_eq_true, decide_eq_true_eq, inB_iff]; omega
theorem spanB_no {r1 r2 : Int} (h : inB r1 0 r2 = false ∨ 100000 < r2) : spanB (r1, r2) = false := by
 rcases Bool.eq_false_or_eq_true (spanB (r1, r2)) with hb | hb
 ·have := spanB_parts.1 hb
  rcases h with h | h
  ·rw [h] at this; cases this.1
  ·exact absurd h this.2
 ·exact hb
set_option maxHeartbeats 4000000 in
theorem HardConverts_a (b : BookD) (vt vm : Value) (lr lb lk : Nat → Value) (w : World) (hT : TabsAt w vt lr lb b.tabs) (hM : MacsAt w vm lk b.macs) (i r1 r2 : Int) (hf : thinF b 0 = false) :
  Calls Try.prog 3 #[(Value.agg #[(Value.int .i64 b.scales), vt, vm]), (Value.int .i64 i), (Value.agg #[(Value.int .i64 r1), (Value.int .i64 r2)])] w (Ret fun v w' => v = .bool true ∧ Ext NoB w w') := by
 refine calls_enter Try.func3 rfl fun a0 hA0 => ?_
 replace hA0 : Fr 91 [] [(0, (Value.agg #[(Value.int .i64 b.scales), vt, vm])), (1, (Value.int .i64 i)), (2, (Value.agg #[(Value.int .i64 r1), (Value.int .i64 r2)]))] a0 := hA0
 have hS0 : Sep NoB w w [(tabsR false vt lr lb b.tabs), (macsR false vm lk b.macs)] := sep_ro ⟨rfl, hT, rfl, hM, trivial⟩
 refine m2 ?_
 refine s2 hA0 (op_box hS0 rfl (hA0.ev rfl) (cs := [(Value.int .i64 b.scales), vt, vm]) rfl) ?_
 rintro a1 _ w3 ⟨b4, rfl, hS5⟩ hA2; clear hA0 hS0 a0
 refine s2 hA2 (op_box hS5 rfl (hA2.ev rfl) (cs := [(Value.int .i64 r1), (Value.int .i64 r2)]) rfl) ?_
 rintro a6 _ w8 ⟨b9, rfl, hS10⟩ hA7; clear hA2 hS5 a1
 refine s1 hA7 (op_assign rfl (evc _ _)) fun a11 hA12 => ?_; clear hA7 a6
 refine n2 ?_
 refine m2 ?_
 refine s1 hA12 (op_loadA rfl ty_25 (hA12.ev rfl) (hS10.bk 1 rfl) (l := [(Value.int .i64 b.scales), vt, vm]) rfl rfl) fun a13 hA14 => ?_; clear hA12 a11
 refine s2 hA14 (op_call rfl en_16 (ev2 (hA14.ev rfl) (evc _ _)) (thin0_ok b vt vm lr lb lk _ (tabs_at (hS10.ok 2 _ rfl)) (macs_at (hS10.ok 3 _ rfl)))) ?_
 rintro a15 _ w17 ⟨rfl, hE18⟩ hA16; have hS19 := hS10.step hE18; clear hE18 hA14 hS10 a13
 have hd20 : (thinF b 0) = false := hf
 rw [hd20] at hA16
 refine s1 hA16 (op_not rfl (hA16.ev rfl)) fun a21 hA22 => ?_; clear hA16 a15
 refine n1 ?_
 refine c_true hA22 rfl ?_
 refine c_seq ?_
 have hA23 := hA22.as [] rfl; clear hA22
 refine c_region ?_
 refine s2 hA23 (op_call rfl en_17 ev0 (awake_ok _)) ?_
 rintro a24 _ w26 ⟨rfl, hE27⟩ hA25; have hS28 := hS19.step hE27; clear hE27 hA23 hS19 a21
 refine s1 hA25 (op_assign rfl (hA25.ev rfl)) fun a29 hA30 => ?_; clear hA25 a24
 refine n1 ?_
 refine c_ret ?_
 refine then_ret ?_
 refine fin_run hA30 (.inl rfl) (run_results1 hA30 rfl (.tmp rfl)) ?_
 exact ⟨rfl, hS28.ext⟩
set_option maxHeartbeats 4000000 in
theorem HardConverts_b (b : BookD) (vt vm : Value) (lr lb lk : Nat → Value) (w : World) (hT : TabsAt w vt lr lb b.tabs) (hM : MacsAt w vm lk b.macs) (i r1 r2 : Int) (hf : thinF b 0 = true) (hc : checkF b ≠ 0) :
  Calls Try.prog 3 #[(Value.agg #[(Value.int .i64 b.scales), vt, vm]), (Value.int .i64 i), (Value.agg #[(Value.int .i64 r1), (Value.int .i64 r2)])] w (Ret fun v w' => v = .bool true ∧ Ext NoB w w') := by
 refine calls_enter Try.func3 rfl fun a0 hA0 => ?_
 replace hA0 : Fr 91 [] [(0, (Value.agg #[(Value.int .i64 b.scales), vt, vm])), (1, (Value.int .i64 i)), (2, (Value.agg #[(Value.int .i64 r1), (Value.int .i64 r2)]))] a0 := hA0
 have hth := (thin_iff.1 hf).1; have htl9 := hth.tl; have hml9 := hth.ml; have he := convE_c (i := i) (r := (r1, r2)) hc; have hR : convR b i (r1, r2) = (0, 0) := convR_n (by rw [he]; exact hc)
 have hS0 : Sep NoB w w [(tabsR false vt lr lb b.tabs), (macsR false vm lk b.macs)] := sep_ro ⟨rfl, hT, rfl, hM, trivial⟩
 refine m2 ?_
 refine s2 hA0 (op_box hS0 rfl (hA0.ev rfl) (cs := [(Value.int .i64 b.scales), vt, vm]) rfl) ?_
 rintro a1 _ w3 ⟨b4, rfl, hS5⟩ hA2; clear hA0 hS0 a0
 refine s2 hA2 (op_box hS5 rfl (hA2.ev rfl) (cs := [(Value.int .i64 r1), (Value.int .i64 r2)]) rfl) ?_
 rintro a6 _ w8 ⟨b9, rfl, hS10⟩ hA7; clear hA2 hS5 a1
 refine s1 hA7 (op_assign rfl (evc _ _)) fun a11 hA12 => ?_; clear hA7 a6
 refine n2 ?_
 refine m2 ?_
 refine s1 hA12 (op_loadA rfl ty_25 (hA12.ev rfl) (hS10.bk 1 rfl) (l := [(Value.int .i64 b.scales), vt, vm]) rfl rfl) fun a13 hA14 => ?_; clear hA12 a11
 refine s2 hA14 (op_call rfl en_16 (ev2 (hA14.ev rfl) (evc _ _)) (thin0_ok b vt vm lr lb lk _ (tabs_at (hS10.ok 2 _ rfl)) (macs_at (hS10.ok 3 _ rfl)))) ?_
 rintro a15 _ w17 ⟨rfl, hE18⟩ hA16; have hS19 := hS10.step hE18; clear hE18 hA14 hS10 a13
 have hd20 : (thinF b 0) = true := hf
 rw [hd20] at hA16
 refine s1 hA16 (op_not rfl (hA16.ev rfl)) fun a21 hA22 => ?_; clear hA16 a15
 refine n1 ?_
 refine c_false hA22 rfl ?_
 refine c_skip ?_
 refine then_n ?_
 refine c_seq ?_
 have hA23 := hA22.as [(5, (bptr b9 0)), (3, (bptr b4 0)), (1, (Value.int .i64 i))] rfl; clear hA22
 have hA24 := hA23.as [(5, (bptr b9 0)), (3, (bptr b4 0)), (1, (Value.int .i64 i))] rfl; clear hA23
 refine c_drawF mixed hA24 hS19 10 8 rfl rfl [[], [0], [], [], [3], [1, 2, 4], [5], [6], [6], []] [(fun (vs25 : Nat → Value) (v_ : Value) (rs_ : List Res) => v_ = (Value.agg #[(Value.int .i64 b.scales), vt, vm]) ∧ rs_ = []), (fun (vs25 : Nat → Value) (v_ : Value) (rs_ : List Res) => ∃ (vt1_ : Value), ∃ (vm1_ : Value), ∃ (lr1_ : Nat → Value), ∃ (lb1_ : Nat → Value), ∃ (lk1_ : Nat → Value), v_ = (Value.agg #[(Value.int .i64 b.scales), vt1_, vm1_]) ∧ rs_ = [(tabsR true vt1_ lr1_ lb1_ b.tabs), (macsR true vm1_ lk1_ b.macs)]), (fun (vs25 : Nat → Value) (v_ : Value) (rs_ : List Res) => v_ = (Value.int .i64 i) ∧ rs_ = []), (fun (vs25 : Nat → Value) (v_ : Value) (rs_ : List Res) => v_ = (Value.agg #[(Value.int .i64 r1), (Value.int .i64 r2)]) ∧ rs_ = []), (fun (vs25 : Nat → Value) (v_ : Value) (rs_ : List Res) => v_ = (Value.agg #[(Value.int .i64 r1), (Value.int .i64 r2)]) ∧ rs_ = []), (fun (vs25 : Nat → Value) (v_ : Value) (rs_ : List Res) => v_ = (Value.tuple #[(Value.agg #[(Value.int .i64 ((convR b i (r1, r2)).1)), (Value.int .i64 ((convR b i (r1, r2)).2))]), (Value.int .i64 (convE b i (r1, r2)))]) ∧ rs_ = []), (fun (vs25 : Nat → Value) (v_ : Value) (rs_ : List Res) => v_ = (Value.tuple #[(Value.agg #[(Value.int .i64 ((convR b i (r1, r2)).1)), (Value.int .i64 ((convR b i (r1, r2)).2))]), (Value.int .i64 (convE b i (r1, r2)))]) ∧ rs_ = []), (fun (vs25 : Nat → Value) (v_ : Value) (rs_ : List Res) => v_ = (Value.agg #[(Value.int .i64 ((convR b i (r1, r2)).1)), (Value.int .i64 ((convR b i (r1, r2)).2))]) ∧ rs_ = []), (fun (vs25 : Nat → Value) (v_ : Value) (rs_ : List Res) => v_ = (Value.int .i64 (convE b i (r1, r2))) ∧ rs_ = []), (fun (vs25 : Nat → Value) (v_ : Value) (rs_ : List Res) => ∃ (b9_ : Nat), v_ = (bptr b9_ 0) ∧ rs_ = [(blk b9_ 30 [(Value.int .i64 0), (Value.int .i64 0)])])] (by decide +kernel) (by decide +kernel) (by decide +kernel) rfl rfl ⟨(fun _ _ _ _ _ h_ => h_), (fun _ _ _ _ _ h_ => h_), (fun _ _ _ _ _ h_ => h_), (fun _ _ _ _ _ h_ => h_), (fun _ _ _ _ _ h_ => h_), (fun _ _ _ _ _ h_ => h_), (fun _ _ _ _ _ h_ => h_), (fun _ _ _ _ _ h_ => h_), (fun _ _ _ _ _ h_ => h_), (fun _ _ _ _ _ h_ => h_), trivial⟩ ?_ ?_ ?_
 ·skip
  refine ⟨fun a w vs25 hA hS hd => ?_, ?_⟩
  ·skip
   exact opG_of rfl (vv (op_loadA rfl ty_25 (hA.ev rfl) (hS.bk 1 rfl) (l := [(Value.int .i64 b.scales), vt, vm]) rfl rfl) (And.intro rfl rfl))
  refine ⟨fun a w vs25 hA hS hd => ?_, ?_⟩
  ·skip
   obtain ⟨e0, rs0, hy0, hp0⟩ := hd 0 (by decide)
   obtain ⟨hv0, hr0⟩ := hy0; subst hr0
   rw [hv0] at e0
   exact opG_of rfl (vn (op_call rfl en_19 (ev1 (tmp_ev (slot_ev e0 rfl))) (Book_ok b vt vm lr lb lk _ (tabs_at (hS.ok 2 _ rfl)) (macs_at (hS.ok 3 _ rfl)) hth)) (fun v w' h => by obtain ⟨vt, vm, lr, lb, lk, rfl, hT⟩ := h; exact ⟨_, ⟨vt, vm, lr, lb, lk, rfl, rfl⟩, hT, rfl⟩))
  refine ⟨fun a w vs25 hA hS hd => ?_, ?_⟩
  ·skip
   exact opG_of rfl (vv (op_move rfl (hA.ev rfl)) (And.intro rfl rfl))
  refine ⟨fun a w vs25 hA hS hd => ?_, ?_⟩
  ·skip
   exact opG_of rfl (vv (op_loadA rfl ty_27 (hA.ev rfl) (hS.bk 0 rfl) (l := [(Value.int .i64 r1), (Value.int .i64 r2)]) rfl rfl) (And.intro rfl rfl))
  refine ⟨fun a w vs25 hA hS hd => ?_, ?_⟩
  ·skip
   obtain ⟨e3, rs3, hy3, hp3⟩ := hd 3 (by decide)
   obtain ⟨hv3, hr3⟩ := hy3; subst hr3
   rw [hv3] at e3
   exact opG_of rfl (vx (op_call rfl en_20 (ev1 (tmp_ev (slot_ev e3 rfl))) (to_ok _ _ _)) (And.intro rfl rfl))
  refine ⟨fun a w vs25 hA hS hd => ?_, ?_⟩
  ·skip
   obtain ⟨e1, rs1, hy1, hp1⟩ := hd 1 (by decide)
   obtain ⟨vt1_, vm1_, lr1_, lb1_, lk1_, hv1, hr1⟩ := hy1; subst hr1
   rw [hv1] at e1
   have hp1_0 := hp1 _ (List.mem_of_getElem? (i := 0) rfl)
   have hp1_1 := hp1 _ (List.mem_of_getElem? (i := 1) rfl)
   obtain ⟨e2, rs2, hy2, hp2⟩ := hd 2 (by decide)
   obtain ⟨hv2, hr2⟩ := hy2; subst hr2
   rw [hv2] at e2
   obtain ⟨e4, rs4, hy4, hp4⟩ := hd 4 (by decide)
   obtain ⟨hv4, hr4⟩ := hy4; subst hr4
   rw [hv4] at e4
   exact opG_of rfl (vx (op_call rfl en_18 (ev3 (tmp_ev (slot_ev e1 rfl)) (tmp_ev (slot_ev e2 rfl)) (tmp_ev (slot_ev e4 rfl))) (Convert_ok b vt1_ vm1_ lr1_ lb1_ lk1_ _ (tabs_at hp1_0) (macs_at hp1_1) hth i r1 r2)) (And.intro rfl rfl))
  refine ⟨fun a w vs25 hA hS hd => ?_, ?_⟩
  ·skip
   obtain ⟨e5, rs5, hy5, hp5⟩ := hd 5 (by decide)
   obtain ⟨hv5, hr5⟩ := hy5; subst hr5
   rw [hv5] at e5
   exact opG_of rfl (vv (op_move rfl (tmp_ev (slot_ev e5 rfl))) (And.intro rfl rfl))
  refine ⟨fun a w vs25 hA hS hd => ?_, ?_⟩
  ·skip
   obtain ⟨e6, rs6, hy6, hp6⟩ := hd 6 (by decide)
   obtain ⟨hv6, hr6⟩ := hy6; subst hr6
   rw [hv6] at e6
   exact opG_of rfl (vv (op_extract rfl (tmp_ev (slot_ev e6 rfl)) rfl) (And.intro rfl rfl))
  refine ⟨fun a w vs25 hA hS hd => ?_, ?_⟩
  ·skip
   obtain ⟨e6, rs6, hy6, hp6⟩ := hd 6 (by decide)
   obtain ⟨hv6, hr6⟩ := hy6; subst hr6
   rw [hv6] at e6
   exact opG_of rfl (vv (op_extract rfl (tmp_ev (slot_ev e6 rfl)) rfl) (And.intro rfl rfl))
  refine ⟨fun a w vs25 hA hS hd => ?_, ?_⟩
  ·skip
   exact opG_of rfl (valloc rfl ze_30 (cs := [(Value.int .i64 0), (Value.int .i64 0)]) rfl (fun b_ => ⟨b_, rfl, rfl⟩))
  trivial
 ·skip
  intro a26 w27 vs25 rsf31 hA28 hH30 hS29; clear hA24 hS19
  obtain ⟨hs_0, hy_0⟩ := hH30 0 (by decide)
  obtain ⟨hv_0, hr_0⟩ := hy_0
  obtain ⟨hs_1, hy_1⟩ := hH30 1 (by decide)
  obtain ⟨vt1_, vm1_, lr1_, lb1_, lk1_, hv_1, hr_1⟩ := hy_1
  obtain ⟨hs_2, hy_2⟩ := hH30 2 (by decide)
  obtain ⟨hv_2, hr_2⟩ := hy_2
  obtain ⟨hs_3, hy_3⟩ := hH30 3 (by decide)
  obtain ⟨hv_3, hr_3⟩ := hy_3
  obtain ⟨hs_4, hy_4⟩ := hH30 4 (by decide)
  obtain ⟨hv_4, hr_4⟩ := hy_4
  obtain ⟨hs_5, hy_5⟩ := hH30 5 (by decide)
  obtain ⟨hv_5, hr_5⟩ := hy_5
  obtain ⟨hs_6, hy_6⟩ := hH30 6 (by decide)
  obtain ⟨hv_6, hr_6⟩ := hy_6
  obtain ⟨hs_7, hy_7⟩ := hH30 7 (by decide)
  obtain ⟨hv_7, hr_7⟩ := hy_7
  obtain ⟨hs_8, hy_8⟩ := hH30 8 (by decide)
  obtain ⟨hv_8, hr_8⟩ := hy_8
  obtain ⟨hs_9, hy_9⟩ := hH30 9 (by decide)
  obtain ⟨b9_, hv_9, hr_9⟩ := hy_9
  have hS32 : Sep NoB w w27 [(tabsR true vt1_ lr1_ lb1_ b.tabs), (macsR true vm1_ lk1_ b.macs), (blk b9_ 30 [(Value.int .i64 0), (Value.int .i64 0)]), (blk b9 27 [(Value.int .i64 r1), (Value.int .i64 r2)]), (blk b4 25 [(Value.int .i64 b.scales), vt, vm]), (tabsR false vt lr lb b.tabs), (macsR false vm lk b.macs)] := by rw [show catR rsf31 0 10 = ([(tabsR true vt1_ lr1_ lb1_ b.tabs), (macsR true vm1_ lk1_ b.macs), (blk b9_ 30 [(Value.int .i64 0), (Value.int .i64 0)])] : List Res) by (try simp only [catR, hr_0, hr_1, hr_2, hr_3, hr_4, hr_5, hr_6, hr_7, hr_8, hr_9]); (try rfl)] at hS29; exact hS29
  rw [hv_7] at hs_7
  have hA33 : Fr 91 [] [(21, (Value.agg #[(Value.int .i64 ((convR b i (r1, r2)).1)), (Value.int .i64 ((convR b i (r1, r2)).2))])), (5, (bptr b9 0)), (3, (bptr b4 0)), (1, (Value.int .i64 i))] a26 := hA28.add (slot_ev hs_7 rfl); clear hA28
  rw [hv_8] at hs_8
  have hA34 : Fr 91 [] [(22, (Value.int .i64 (convE b i (r1, r2)))), (21, (Value.agg #[(Value.int .i64 ((convR b i (r1, r2)).1)), (Value.int .i64 ((convR b i (r1, r2)).2))])), (5, (bptr b9 0)), (3, (bptr b4 0)), (1, (Value.int .i64 i))] a26 := hA33.add (slot_ev hs_8 rfl); clear hA33
  rw [hv_9] at hs_9
  have hA35 : Fr 91 [] [(7, (bptr b9_ 0)), (22, (Value.int .i64 (convE b i (r1, r2)))), (21, (Value.agg #[(Value.int .i64 ((convR b i (r1, r2)).1)), (Value.int .i64 ((convR b i (r1, r2)).2))])), (5, (bptr b9 0)), (3, (bptr b4 0)), (1, (Value.int .i64 i))] a26 := hA34.add (slot_ev hs_9 rfl); clear hA34
  clear hH30 hS29 hs_0 hs_1 hs_2 hs_3 hs_4 hs_5 hs_6 hs_7 hs_8 hs_9
  clear hr_0
  clear hv_0
  clear hr_1
  clear hv_1
  clear hr_2
  clear hv_2
  clear hr_3
  clear hv_3
  clear hr_4
  clear hv_4
  clear hr_5
  clear hv_5
  clear hr_6
  clear hv_6
  clear hr_7
  clear hv_7
  clear hr_8
  clear hv_8
  clear hr_9
  clear hv_9
  refine s7 hA35 (op_store hS32 rfl ty_30 (hA35.ev rfl) (hA35.ev rfl) (i := 2) rfl (vs := [(Value.int .i64 ((convR b i (r1, r2)).1)), (Value.int .i64 ((convR b i (r1, r2)).2))]) rfl rfl rfl (Nat.le_of_ble_eq_true rfl)) ?_
  intro _ w36 hS37 hA38; clear hA35
  have hS39 : Sep NoB w w36 [(tabsR true vt1_ lr1_ lb1_ b.tabs), (macsR true vm1_ lk1_ b.macs), (blk b9_ 30 [(Value.int .i64 ((convR b i (r1, r2)).1)), (Value.int .i64 ((convR b i (r1, r2)).2))]), (blk b9 27 [(Value.int .i64 r1), (Value.int .i64 r2)]), (blk b4 25 [(Value.int .i64 b.scales), vt, vm]), (tabsR false vt lr lb b.tabs), (macsR false vm lk b.macs)] := hS37; clear hS37 hS32
  refine s1 hA38 (op_assign rfl (hA38.ev rfl)) fun a40 hA41 => ?_; clear hA38 a26
  refine n4 ?_
  refine s1 hA41 (op_loadA rfl ty_25 (hA41.ev rfl) (hS39.bk 4 rfl) (l := [(Value.int .i64 b.scales), vt, vm]) rfl rfl) fun a42 hA43 => ?_; clear hA41 a40
  refine s2 hA43 (op_call rfl en_21 (ev1 (hA43.ev rfl)) (rfault_ok b vt vm lr lb lk _ (tabs_at (hS39.ok 5 _ rfl)) (macs_at (hS39.ok 6 _ rfl)) hth)) ?_
  rintro a44 _ w46 ⟨rfl, hE47⟩ hA45; have hS48 := hS39.step hE47; clear hE47 hA43 hS39 a42
  refine s1 hA45 (op_assign rfl (hA45.ev rfl)) fun a49 hA50 => ?_; clear hA45 a44
  refine n2 ?_
  refine m2 ?_
  refine s1 hA50 (op_move rfl (hA50.ev rfl)) fun a51 hA52 => ?_; clear hA50 a49
  refine s1 hA52 (op_eql rfl (hA52.ev rfl) (evc _ _)) fun a53 hA54 => ?_; clear hA52 a51
  have hd55 : ¬ ((checkF b) = 0) := hc
  rw [decide_eq_false hd55] at hA54
  refine s1 hA54 (op_move rfl (hA54.ev rfl)) fun a56 hA57 => ?_; clear hA54 a53
  refine s3 hA57 fun a58 hA59 => ?_; clear hA57 a56
  refine s3 hA59 fun a60 hA61 => ?_; clear hA59 a58
  refine s3 hA61 fun a62 hA63 => ?_; clear hA61 a60
  refine s3 hA63 fun a64 hA65 => ?_; clear hA63 a62
  refine s3 hA65 fun a66 hA67 => ?_; clear hA65 a64
  refine s3 hA67 fun a68 hA69 => ?_; clear hA67 a66
  refine s3 hA69 fun a70 hA71 => ?_; clear hA69 a68
  refine s3 hA71 fun a72 hA73 => ?_; clear hA71 a70
  refine s4 hA73 fun a74 hA75 => ?_; clear hA73 a72
  refine s4 hA75 fun a76 hA77 => ?_; clear hA75 a74
  refine s4 hA77 fun a78 hA79 => ?_; clear hA77 a76
  refine s4 hA79 fun a80 hA81 => ?_; clear hA79 a78
  refine s4 hA81 fun a82 hA83 => ?_; clear hA81 a80
  refine s4 hA83 fun a84 hA85 => ?_; clear hA83 a82
  refine s3 hA85 fun a86 hA87 => ?_; clear hA85 a84
  refine s3 hA87 fun a88 hA89 => ?_; clear hA87 a86
  refine s4 hA89 fun a90 hA91 => ?_; clear hA89 a88
  refine s4 hA91 fun a92 hA93 => ?_; clear hA91 a90
  refine s4 hA93 fun a94 hA95 => ?_; clear hA93 a92
  refine s3 hA95 fun a96 hA97 => ?_; clear hA95 a94
  refine s1 hA97 (op_pick_f rfl (hA97.ev rfl) (evc _ _)) fun a98 hA99 => ?_; clear hA97 a96
  refine n1 ?_
  refine c_false hA99 rfl ?_
  refine c_skip ?_
  refine then_n ?_
  refine c_seq ?_
  refine c_seq ?_
  have hA100 := hA99.as [(9, (Value.int .i64 (checkF b))), (8, (Value.int .i64 (convE b i (r1, r2)))), (7, (bptr b9_ 0)), (5, (bptr b9 0)), (3, (bptr b4 0)), (1, (Value.int .i64 i))] rfl; clear hA99
  have hA101 := hA100.as [(9, (Value.int .i64 (checkF b))), (8, (Value.int .i64 (convE b i (r1, r2)))), (7, (bptr b9_ 0)), (5, (bptr b9 0)), (3, (bptr b4 0)), (1, (Value.int .i64 i))] rfl; clear hA100
  refine c_drawn mixed hA101 hS48 9 [[], [0], [1], [2], [2, 3], [2], [2, 4, 5], [2, 6], [2]] [(Yd.val (Value.int .i64 (checkF b))), (Yd.val (Value.bool false)), (Yd.val (Value.bool false)), (Yd.val undef), (Yd.val undef), (Yd.val undef), (Yd.val undef), (Yd.val undef), (Yd.val undef)] (by decide +kernel) rfl rfl ?_ ?_
  ·skip
   refine dq (fun a w hA hS hd => op_move rfl (hA.ev rfl)) ?_
   refine ⟨fun a w hA hS hd => by have e0 := hx hd 0; exact opG_of rfl (dv (op_eql rfl (tmp_ev e0) (evc _ _)) hS (by show Value.bool _ = _; simp only [decide_eq_false hd55, decide_true, decide_false, Bool.not_true, Bool.not_false])), ?_⟩
   refine dq (fun a w hA hS hd => op_move rfl (hq hd 1)) ?_
   refine dn 2 ?_
   refine dn 2 ?_
   refine dn 2 ?_
   refine dn 2 ?_
   refine dn 2 ?_
   refine dn 2 ?_
   trivial
  intro a103 w104 hA105 hS106 hH107; clear hA101 hS48
  have hA108 := hA105.add (hz hH107 2); clear hA105
  have hA109 := hA108.add (hz hH107 7); clear hA108
  have hA110 := hA109.add (hz hH107 8); clear hA109
  clear hH107
  refine s3 hA110 fun a111 hA112 => ?_; clear hA110 a103
  refine s3 hA112 fun a113 hA114 => ?_; clear hA112 a111
  refine s1 hA114 (op_pick_f rfl (hA114.ev rfl) (evc _ _)) fun a115 hA116 => ?_; clear hA114 a113
  refine n1 ?_
  refine c_false hA116 rfl ?_
  refine c_skip ?_
  refine then_n ?_
  refine c_seq ?_
  refine c_seq ?_
  have hA117 := hA116.as [(9, (Value.int .i64 (checkF b))), (8, (Value.int .i64 (convE b i (r1, r2)))), (7, (bptr b9_ 0)), (5, (bptr b9 0)), (3, (bptr b4 0)), (1, (Value.int .i64 i))] rfl; clear hA116
  refine c_region ?_
  refine s1 hA117 (op_move rfl (hA117.ev rfl)) fun a118 hA119 => ?_; clear hA117 a115
  refine s1 hA119 (op_neq rfl (hA119.ev rfl) (evc _ _)) fun a120 hA121 => ?_; clear hA119 a118
  rw [decide_eq_false hd55] at hA121
  refine n1 ?_
  refine c_true hA121 rfl ?_
  refine m2 ?_
  refine s1 hA121 (op_move rfl (hA121.ev rfl)) fun a122 hA123 => ?_; clear hA121 a120
  refine s1 hA123 (op_move rfl (hA123.ev rfl)) fun a124 hA125 => ?_; clear hA123 a122
  refine s1 hA125 (op_eql rfl (hA125.ev rfl) (hA125.ev rfl)) fun a126 hA127 => ?_; clear hA125 a124
  have hd128 : (convE b i (r1, r2)) = (checkF b) := he
  rw [decide_eq_true hd128] at hA127
  refine s1 hA127 (op_move rfl (hA127.ev rfl)) fun a129 hA130 => ?_; clear hA127 a126
  refine s5 hA130 (op_loadA rfl ty_30 (hA130.ev rfl) (hS106.bk 2 rfl) (l := [(Value.int .i64 ((convR b i (r1, r2)).1)), (Value.int .i64 ((convR b i (r1, r2)).2))]) rfl rfl) fun a131 hA132 => ?_; clear hA130 a129
  refine s5 hA132 (op_build rfl pv0 bd_30_) fun a133 hA134 => ?_; clear hA132 a131
  refine s5 hA134 (op_eqlP tw_30 rfl (hA134.ev rfl) (hA134.ev rfl)) fun a135 hA136 => ?_; clear hA134 a133
  have hd137 : (decide ((((convR b i (r1, r2)).1) : Int) = 0) && decide ((((convR b i (r1, r2)).2) : Int) = 0)) = true := (by rw [hR]; simp)
  rw [hd137] at hA136
  have hq138 := hd137; simp only [Bool.and_eq_true, Bool.and_eq_false_iff, decide_eq_true_eq, decide_eq_false_iff_not] at hq138
  refine s1 hA136 (op_pick_t rfl (hA136.ev rfl) (hA136.ev rfl)) fun a139 hA140 => ?_; clear hA136 a135
  refine s1 hA140 (op_move rfl (hA140.ev rfl)) fun a141 hA142 => ?_; clear hA140 a139
  refine s6 hA142 (op_call rfl en_17 ev0 (awake_ok _)) ?_
  rintro a143 _ w145 ⟨rfl, hE146⟩ hA144; have hS147 := hS106.step hE146; clear hE146 hA142 hS106 a141
  refine s1 hA144 (op_pick_t rfl (hA144.ev rfl) (hA144.ev rfl)) fun a148 hA149 => ?_; clear hA144 a143
  refine s1 hA149 (op_assign rfl (hA149.ev rfl)) fun a150 hA151 => ?_; clear hA149 a148
  refine n1 ?_
  refine c_ret ?_
  refine then_ret ?_
  refine fin_run hA151 (.inl rfl) (run_results1 hA151 rfl (.tmp rfl)) ?_
  exact ⟨rfl, hS147.ext⟩
 ·skip
  intro a152 w153 vs25 rsf157 hA154 hH156 hrq hS155; clear hA24 hS19
  obtain ⟨hs_0, hy_0⟩ := hH156 0 (by decide) (by decide)
  obtain ⟨hv_0, hr_0⟩ := hy_0
  obtain ⟨hs_1, hy_1⟩ := hH156 1 (by decide) (by decide)
  obtain ⟨vt1_, vm1_, lr1_, lb1_, lk1_, hv_1, hr_1⟩ := hy_1
  obtain ⟨hs_2, hy_2⟩ := hH156 2 (by decide) (by decide)
  obtain ⟨hv_2, hr_2⟩ := hy_2
  obtain ⟨hs_3, hy_3⟩ := hH156 3 (by decide) (by decide)
  obtain ⟨hv_3, hr_3⟩ := hy_3
  obtain ⟨hs_4, hy_4⟩ := hH156 4 (by decide) (by decide)
  obtain ⟨hv_4, hr_4⟩ := hy_4
  obtain ⟨hs_5, hy_5⟩ := hH156 5 (by decide) (by decide)
  obtain ⟨hv_5, hr_5⟩ := hy_5
  obtain ⟨hs_6, hy_6⟩ := hH156 6 (by decide) (by decide)
  obtain ⟨hv_6, hr_6⟩ := hy_6
  obtain ⟨hs_7, hy_7⟩ := hH156 7 (by decide) (by decide)
  obtain ⟨hv_7, hr_7⟩ := hy_7
  obtain ⟨hs_9, hy_9⟩ := hH156 9 (by decide) (by decide)
  obtain ⟨b9_, hv_9, hr_9⟩ := hy_9
  have hS158 : Sep NoB w w153 [(tabsR true vt1_ lr1_ lb1_ b.tabs), (macsR true vm1_ lk1_ b.macs), (blk b9_ 30 [(Value.int .i64 0), (Value.int .i64 0)]), (blk b9 27 [(Value.int .i64 r1), (Value.int .i64 r2)]), (blk b4 25 [(Value.int .i64 b.scales), vt, vm]), (tabsR false vt lr lb b.tabs), (macsR false vm lk b.macs)] := by rw [show catR rsf157 0 10 = ([(tabsR true vt1_ lr1_ lb1_ b.tabs), (macsR true vm1_ lk1_ b.macs), (blk b9_ 30 [(Value.int .i64 0), (Value.int .i64 0)])] : List Res) by (try simp only [catR, hr_0, hr_1, hr_2, hr_3, hr_4, hr_5, hr_6, hr_7, hr_9, hrq]); (try rfl)] at hS155; exact hS155
  rw [hv_6] at hs_6
  have hA159 : Fr 91 [] [(14, (Value.tuple #[(Value.agg #[(Value.int .i64 ((convR b i (r1, r2)).1)), (Value.int .i64 ((convR b i (r1, r2)).2))]), (Value.int .i64 (convE b i (r1, r2)))])), (5, (bptr b9 0)), (3, (bptr b4 0)), (1, (Value.int .i64 i))] a152 := hA154.add (slot_ev hs_6 rfl); clear hA154
  rw [hv_7] at hs_7
  have hA160 : Fr 91 [] [(21, (Value.agg #[(Value.int .i64 ((convR b i (r1, r2)).1)), (Value.int .i64 ((convR b i (r1, r2)).2))])), (14, (Value.tuple #[(Value.agg #[(Value.int .i64 ((convR b i (r1, r2)).1)), (Value.int .i64 ((convR b i (r1, r2)).2))]), (Value.int .i64 (convE b i (r1, r2)))])), (5, (bptr b9 0)), (3, (bptr b4 0)), (1, (Value.int .i64 i))] a152 := hA159.add (slot_ev hs_7 rfl); clear hA159
  rw [hv_9] at hs_9
  have hA161 : Fr 91 [] [(7, (bptr b9_ 0)), (21, (Value.agg #[(Value.int .i64 ((convR b i (r1, r2)).1)), (Value.int .i64 ((convR b i (r1, r2)).2))])), (14, (Value.tuple #[(Value.agg #[(Value.int .i64 ((convR b i (r1, r2)).1)), (Value.int .i64 ((convR b i (r1, r2)).2))]), (Value.int .i64 (convE b i (r1, r2)))])), (5, (bptr b9 0)), (3, (bptr b4 0)), (1, (Value.int .i64 i))] a152 := hA160.add (slot_ev hs_9 rfl); clear hA160
  clear hH156 hS155 hs_0 hs_1 hs_2 hs_3 hs_4 hs_5 hs_6 hs_7 hs_9 hrq
  clear hr_0
  clear hv_0
  clear hr_1
  clear hv_1
  clear hr_2
  clear hv_2
  clear hr_3
  clear hv_3
  clear hr_4
  clear hv_4
  clear hr_5
  clear hv_5
  clear hr_6
  clear hv_6
  clear hr_7
  clear hv_7
  clear hr_9
  clear hv_9
  refine s7 hA161 (op_store hS158 rfl ty_30 (hA161.ev rfl) (hA161.ev rfl) (i := 2) rfl (vs := [(Value.int .i64 ((convR b i (r1, r2)).1)), (Value.int .i64 ((convR b i (r1, r2)).2))]) rfl rfl rfl (Nat.le_of_ble_eq_true rfl)) ?_
  intro _ w162 hS163 hA164; clear hA161
  have hS165 : Sep NoB w w162 [(tabsR true vt1_ lr1_ lb1_ b.tabs), (macsR true vm1_ lk1_ b.macs), (blk b9_ 30 [(Value.int .i64 ((convR b i (r1, r2)).1)), (Value.int .i64 ((convR b i (r1, r2)).2))]), (blk b9 27 [(Value.int .i64 r1), (Value.int .i64 r2)]), (blk b4 25 [(Value.int .i64 b.scales), vt, vm]), (tabsR false vt lr lb b.tabs), (macsR false vm lk b.macs)] := hS163; clear hS163 hS158
  refine s1 hA164 (op_extract rfl (hA164.ev rfl) rfl) fun a166 hA167 => ?_; clear hA164 a152
  refine s1 hA167 (op_assign rfl (hA167.ev rfl)) fun a168 hA169 => ?_; clear hA167 a166
  refine n4 ?_
  refine s1 hA169 (op_loadA rfl ty_25 (hA169.ev rfl) (hS165.bk 4 rfl) (l := [(Value.int .i64 b.scales), vt, vm]) rfl rfl) fun a170 hA171 => ?_; clear hA169 a168
  refine s2 hA171 (op_call rfl en_21 (ev1 (hA171.ev rfl)) (rfault_ok b vt vm lr lb lk _ (tabs_at (hS165.ok 5 _ rfl)) (macs_at (hS165.ok 6 _ rfl)) hth)) ?_
  rintro a172 _ w174 ⟨rfl, hE175⟩ hA173; have hS176 := hS165.step hE175; clear hE175 hA171 hS165 a170
  refine s1 hA173 (op_assign rfl (hA173.ev rfl)) fun a177 hA178 => ?_; clear hA173 a172
  refine n2 ?_
  refine m2 ?_
  refine s1 hA178 (op_move rfl (hA178.ev rfl)) fun a179 hA180 => ?_; clear hA178 a177
  refine s1 hA180 (op_eql rfl (hA180.ev rfl) (evc _ _)) fun a181 hA182 => ?_; clear hA180 a179
  have hd183 : ¬ ((checkF b) = 0) := hc
  rw [decide_eq_false hd183] at hA182
  refine s1 hA182 (op_move rfl (hA182.ev rfl)) fun a184 hA185 => ?_; clear hA182 a181
  refine s3 hA185 fun a186 hA187 => ?_; clear hA185 a184
  refine s3 hA187 fun a188 hA189 => ?_; clear hA187 a186
  refine s3 hA189 fun a190 hA191 => ?_; clear hA189 a188
  refine s3 hA191 fun a192 hA193 => ?_; clear hA191 a190
  refine s3 hA193 fun a194 hA195 => ?_; clear hA193 a192
  refine s3 hA195 fun a196 hA197 => ?_; clear hA195 a194
  refine s3 hA197 fun a198 hA199 => ?_; clear hA197 a196
  refine s3 hA199 fun a200 hA201 => ?_; clear hA199 a198
  refine s4 hA201 fun a202 hA203 => ?_; clear hA201 a200
  refine s4 hA203 fun a204 hA205 => ?_; clear hA203 a202
  refine s4 hA205 fun a206 hA207 => ?_; clear hA205 a204
  refine s4 hA207 fun a208 hA209 => ?_; clear hA207 a206
  refine s4 hA209 fun a210 hA211 => ?_; clear hA209 a208
  refine s4 hA211 fun a212 hA213 => ?_; clear hA211 a210
  refine s3 hA213 fun a214 hA215 => ?_; clear hA213 a212
  refine s3 hA215 fun a216 hA217 => ?_; clear hA215 a214
  refine s4 hA217 fun a218 hA219 => ?_; clear hA217 a216
  refine s4 hA219 fun a220 hA221 => ?_; clear hA219 a218
  refine s4 hA221 fun a222 hA223 => ?_; clear hA221 a220
  refine s3 hA223 fun a224 hA225 => ?_; clear hA223 a222
  refine s1 hA225 (op_pick_f rfl (hA225.ev rfl) (evc _ _)) fun a226 hA227 => ?_; clear hA225 a224
  refine n1 ?_
  refine c_false hA227 rfl ?_
  refine c_skip ?_
  refine then_n ?_
  refine c_seq ?_
  refine c_seq ?_
  have hA228 := hA227.as [(9, (Value.int .i64 (checkF b))), (8, (Value.int .i64 (convE b i (r1, r2)))), (7, (bptr b9_ 0)), (5, (bptr b9 0)), (3, (bptr b4 0)), (1, (Value.int .i64 i))] rfl; clear hA227
  have hA229 := hA228.as [(9, (Value.int .i64 (checkF b))), (8, (Value.int .i64 (convE b i (r1, r2)))), (7, (bptr b9_ 0)), (5, (bptr b9 0)), (3, (bptr b4 0)), (1, (Value.int .i64 i))] rfl; clear hA228
  refine c_drawn mixed hA229 hS176 9 [[], [0], [1], [2], [2, 3], [2], [2, 4, 5], [2, 6], [2]] [(Yd.val (Value.int .i64 (checkF b))), (Yd.val (Value.bool false)), (Yd.val (Value.bool false)), (Yd.val undef), (Yd.val undef), (Yd.val undef), (Yd.val undef), (Yd.val undef), (Yd.val undef)] (by decide +kernel) rfl rfl ?_ ?_
  ·skip
   refine dq (fun a w hA hS hd => op_move rfl (hA.ev rfl)) ?_
   refine ⟨fun a w hA hS hd => by have e0 := hx hd 0; exact opG_of rfl (dv (op_eql rfl (tmp_ev e0) (evc _ _)) hS (by show Value.bool _ = _; simp only [decide_eq_false hd183, decide_true, decide_false, Bool.not_true, Bool.not_false])), ?_⟩
   refine dq (fun a w hA hS hd => op_move rfl (hq hd 1)) ?_
   refine dn 2 ?_
   refine dn 2 ?_
   refine dn 2 ?_
   refine dn 2 ?_
   refine dn 2 ?_
   refine dn 2 ?_
   trivial
  intro a231 w232 hA233 hS234 hH235; clear hA229 hS176
  have hA236 := hA233.add (hz hH235 2); clear hA233
  have hA237 := hA236.add (hz hH235 7); clear hA236
  have hA238 := hA237.add (hz hH235 8); clear hA237
  clear hH235
  refine s3 hA238 fun a239 hA240 => ?_; clear hA238 a231
  refine s3 hA240 fun a241 hA242 => ?_; clear hA240 a239
  refine s1 hA242 (op_pick_f rfl (hA242.ev rfl) (evc _ _)) fun a243 hA244 => ?_; clear hA242 a241
  refine n1 ?_
  refine c_false hA244 rfl ?_
  refine c_skip ?_
  refine then_n ?_
  refine c_seq ?_
  refine c_seq ?_
  have hA245 := hA244.as [(9, (Value.int .i64 (checkF b))), (8, (Value.int .i64 (convE b i (r1, r2)))), (7, (bptr b9_ 0)), (5, (bptr b9 0)), (3, (bptr b4 0)), (1, (Value.int .i64 i))] rfl; clear hA244
  refine c_region ?_
  refine s1 hA245 (op_move rfl (hA245.ev rfl)) fun a246 hA247 => ?_; clear hA245 a243
  refine s1 hA247 (op_neq rfl (hA247.ev rfl) (evc _ _)) fun a248 hA249 => ?_; clear hA247 a246
  rw [decide_eq_false hd183] at hA249
  refine n1 ?_
  refine c_true hA249 rfl ?_
  refine m2 ?_
  refine s1 hA249 (op_move rfl (hA249.ev rfl)) fun a250 hA251 => ?_; clear hA249 a248
  refine s1 hA251 (op_move rfl (hA251.ev rfl)) fun a252 hA253 => ?_; clear hA251 a250
  refine s1 hA253 (op_eql rfl (hA253.ev rfl) (hA253.ev rfl)) fun a254 hA255 => ?_; clear hA253 a252
  have hd256 : (convE b i (r1, r2)) = (checkF b) := he
  rw [decide_eq_true hd256] at hA255
  refine s1 hA255 (op_move rfl (hA255.ev rfl)) fun a257 hA258 => ?_; clear hA255 a254
  refine s5 hA258 (op_loadA rfl ty_30 (hA258.ev rfl) (hS234.bk 2 rfl) (l := [(Value.int .i64 ((convR b i (r1, r2)).1)), (Value.int .i64 ((convR b i (r1, r2)).2))]) rfl rfl) fun a259 hA260 => ?_; clear hA258 a257
  refine s5 hA260 (op_build rfl pv0 bd_30_) fun a261 hA262 => ?_; clear hA260 a259
  refine s5 hA262 (op_eqlP tw_30 rfl (hA262.ev rfl) (hA262.ev rfl)) fun a263 hA264 => ?_; clear hA262 a261
  have hd265 : (decide ((((convR b i (r1, r2)).1) : Int) = 0) && decide ((((convR b i (r1, r2)).2) : Int) = 0)) = true := (by rw [hR]; simp)
  rw [hd265] at hA264
  have hq266 := hd265; simp only [Bool.and_eq_true, Bool.and_eq_false_iff, decide_eq_true_eq, decide_eq_false_iff_not] at hq266
  refine s1 hA264 (op_pick_t rfl (hA264.ev rfl) (hA264.ev rfl)) fun a267 hA268 => ?_; clear hA264 a263
  refine s1 hA268 (op_move rfl (hA268.ev rfl)) fun a269 hA270 => ?_; clear hA268 a267
  refine s6 hA270 (op_call rfl en_17 ev0 (awake_ok _)) ?_
  rintro a271 _ w273 ⟨rfl, hE274⟩ hA272; have hS275 := hS234.step hE274; clear hE274 hA270 hS234 a269
  refine s1 hA272 (op_pick_t rfl (hA272.ev rfl) (hA272.ev rfl)) fun a276 hA277 => ?_; clear hA272 a271
  refine s1 hA277 (op_assign rfl (hA277.ev rfl)) fun a278 hA279 => ?_; clear hA277 a276
  refine n1 ?_
  refine c_ret ?_
  refine then_ret ?_
  refine fin_run hA279 (.inl rfl) (run_results1 hA279 rfl (.tmp rfl)) ?_
  exact ⟨rfl, hS275.ext⟩
set_option maxHeartbeats 4000000 in
theorem HardConverts_c (b : BookD) (vt vm : Value) (lr lb lk : Nat → Value) (w : World) (hT : TabsAt w vt lr lb b.tabs) (hM : MacsAt w vm lk b.macs) (i r1 r2 : Int) (hf : thinF b 0 = true) (hc : checkF b = 0) :
  Calls Try.prog 3 #[(Value.agg #[(Value.int .i64 b.scales), vt, vm]), (Value.int .i64 i), (Value.agg #[(Value.int .i64 r1), (Value.int .i64 r2)])] w (Ret fun v w' => v = .bool true ∧ Ext NoB w w') := by
 refine calls_enter Try.func3 rfl fun a0 hA0 => ?_
 replace hA0 : Fr 91 [] [(0, (Value.agg #[(Value.int .i64 b.scales), vt, vm])), (1, (Value.int .i64 i)), (2, (Value.agg #[(Value.int .i64 r1), (Value.int .i64 r2)]))] a0 := hA0
 have hth := (thin_iff.1 hf).1; have htl9 := hth.tl; have hml9 := hth.ml
 have hS0 : Sep NoB w w [(tabsR false vt lr lb b.tabs), (macsR false vm lk b.macs)] := sep_ro ⟨rfl, hT, rfl, hM, trivial⟩
 refine m2 ?_
 refine s2 hA0 (op_box hS0 rfl (hA0.ev rfl) (cs := [(Value.int .i64 b.scales), vt, vm]) rfl) ?_
 rintro a1 _ w3 ⟨b4, rfl, hS5⟩ hA2; clear hA0 hS0 a0
 refine s2 hA2 (op_box hS5 rfl (hA2.ev rfl) (cs := [(Value.int .i64 r1), (Value.int .i64 r2)]) rfl) ?_
 rintro a6 _ w8 ⟨b9, rfl, hS10⟩ hA7; clear hA2 hS5 a1
 refine s1 hA7 (op_assign rfl (evc _ _)) fun a11 hA12 => ?_; clear hA7 a6
 refine n2 ?_
 refine m2 ?_
 refine s1 hA12 (op_loadA rfl ty_25 (hA12.ev rfl) (hS10.bk 1 rfl) (l := [(Value.int .i64 b.scales), vt, vm]) rfl rfl) fun a13 hA14 => ?_; clear hA12 a11
 refine s2 hA14 (op_call rfl en_16 (ev2 (hA14.ev rfl) (evc _ _)) (thin0_ok b vt vm lr lb lk _ (tabs_at (hS10.ok 2 _ rfl)) (macs_at (hS10.ok 3 _ rfl)))) ?_
 rintro a15 _ w17 ⟨rfl, hE18⟩ hA16; have hS19 := hS10.step hE18; clear hE18 hA14 hS10 a13
 have hd20 : (thinF b 0) = true := hf
 rw [hd20] at hA16
 refine s1 hA16 (op_not rfl (hA16.ev rfl)) fun a21 hA22 => ?_; clear hA16 a15
 refine n1 ?_
 refine c_false hA22 rfl ?_
 refine c_skip ?_
 refine then_n ?_
 refine c_seq ?_
 have hA23 := hA22.as [(5, (bptr b9 0)), (3, (bptr b4 0)), (1, (Value.int .i64 i))] rfl; clear hA22
 have hA24 := hA23.as [(5, (bptr b9 0)), (3, (bptr b4 0)), (1, (Value.int .i64 i))] rfl; clear hA23
 refine c_drawF mixed hA24 hS19 10 8 rfl rfl [[], [0], [], [], [3], [1, 2, 4], [5], [6], [6], []] [(fun (vs25 : Nat → Value) (v_ : Value) (rs_ : List Res) => v_ = (Value.agg #[(Value.int .i64 b.scales), vt, vm]) ∧ rs_ = []), (fun (vs25 : Nat → Value) (v_ : Value) (rs_ : List Res) => ∃ (vt1_ : Value), ∃ (vm1_ : Value), ∃ (lr1_ : Nat → Value), ∃ (lb1_ : Nat → Value), ∃ (lk1_ : Nat → Value), v_ = (Value.agg #[(Value.int .i64 b.scales), vt1_, vm1_]) ∧ rs_ = [(tabsR true vt1_ lr1_ lb1_ b.tabs), (macsR true vm1_ lk1_ b.macs)]), (fun (vs25 : Nat → Value) (v_ : Value) (rs_ : List Res) => v_ = (Value.int .i64 i) ∧ rs_ = []), (fun (vs25 : Nat → Value) (v_ : Value) (rs_ : List Res) => v_ = (Value.agg #[(Value.int .i64 r1), (Value.int .i64 r2)]) ∧ rs_ = []), (fun (vs25 : Nat → Value) (v_ : Value) (rs_ : List Res) => v_ = (Value.agg #[(Value.int .i64 r1), (Value.int .i64 r2)]) ∧ rs_ = []), (fun (vs25 : Nat → Value) (v_ : Value) (rs_ : List Res) => v_ = (Value.tuple #[(Value.agg #[(Value.int .i64 ((convR b i (r1, r2)).1)), (Value.int .i64 ((convR b i (r1, r2)).2))]), (Value.int .i64 (convE b i (r1, r2)))]) ∧ rs_ = []), (fun (vs25 : Nat → Value) (v_ : Value) (rs_ : List Res) => v_ = (Value.tuple #[(Value.agg #[(Value.int .i64 ((convR b i (r1, r2)).1)), (Value.int .i64 ((convR b i (r1, r2)).2))]), (Value.int .i64 (convE b i (r1, r2)))]) ∧ rs_ = []), (fun (vs25 : Nat → Value) (v_ : Value) (rs_ : List Res) => v_ = (Value.agg #[(Value.int .i64 ((convR b i (r1, r2)).1)), (Value.int .i64 ((convR b i (r1, r2)).2))]) ∧ rs_ = []), (fun (vs25 : Nat → Value) (v_ : Value) (rs_ : List Res) => v_ = (Value.int .i64 (convE b i (r1, r2))) ∧ rs_ = []), (fun (vs25 : Nat → Value) (v_ : Value) (rs_ : List Res) => ∃ (b9_ : Nat), v_ = (bptr b9_ 0) ∧ rs_ = [(blk b9_ 30 [(Value.int .i64 0), (Value.int .i64 0)])])] (by decide +kernel) (by decide +kernel) (by decide +kernel) rfl rfl ⟨(fun _ _ _ _ _ h_ => h_), (fun _ _ _ _ _ h_ => h_), (fun _ _ _ _ _ h_ => h_), (fun _ _ _ _ _ h_ => h_), (fun _ _ _ _ _ h_ => h_), (fun _ _ _ _ _ h_ => h_), (fun _ _ _ _ _ h_ => h_), (fun _ _ _ _ _ h_ => h_), (fun _ _ _ _ _ h_ => h_), (fun _ _ _ _ _ h_ => h_), trivial⟩ ?_ ?_ ?_
 ·skip
  refine ⟨fun a w vs25 hA hS hd => ?_, ?_⟩
  ·skip
   exact opG_of rfl (vv (op_loadA rfl ty_25 (hA.ev rfl) (hS.bk 1 rfl) (l := [(Value.int .i64 b.scales), vt, vm]) rfl rfl) (And.intro rfl rfl))
  refine ⟨fun a w vs25 hA hS hd => ?_, ?_⟩
  ·skip
   obtain ⟨e0, rs0, hy0, hp0⟩ := hd 0 (by decide)
   obtain ⟨hv0, hr0⟩ := hy0; subst hr0
   rw [hv0] at e0
   exact opG_of rfl (vn (op_call rfl en_19 (ev1 (tmp_ev (slot_ev e0 rfl))) (Book_ok b vt vm lr lb lk _ (tabs_at (hS.ok 2 _ rfl)) (macs_at (hS.ok 3 _ rfl)) hth)) (fun v w' h => by obtain ⟨vt, vm, lr, lb, lk, rfl, hT⟩ := h; exact ⟨_, ⟨vt, vm, lr, lb, lk, rfl, rfl⟩, hT, rfl⟩))
  refine ⟨fun a w vs25 hA hS hd => ?_, ?_⟩
  ·skip
   exact opG_of rfl (vv (op_move rfl (hA.ev rfl)) (And.intro rfl rfl))
  refine ⟨fun a w vs25 hA hS hd => ?_, ?_⟩
  ·skip
   exact opG_of rfl (vv (op_loadA rfl ty_27 (hA.ev rfl) (hS.bk 0 rfl) (l := [(Value.int .i64 r1), (Value.int .i64 r2)]) rfl rfl) (And.intro rfl rfl))
  refine ⟨fun a w vs25 hA hS hd => ?_, ?_⟩
  ·skip
   obtain ⟨e3, rs3, hy3, hp3⟩ := hd 3 (by decide)
   obtain ⟨hv3, hr3⟩ := hy3; subst hr3
   rw [hv3] at e3
   exact opG_of rfl (vx (op_call rfl en_20 (ev1 (tmp_ev (slot_ev e3 rfl))) (to_ok _ _ _)) (And.intro rfl rfl))
  refine ⟨fun a w vs25 hA hS hd => ?_, ?_⟩
  ·skip
   obtain ⟨e1, rs1, hy1, hp1⟩ := hd 1 (by decide)
   obtain ⟨vt1_, vm1_, lr1_, lb1_, lk1_, hv1, hr1⟩ := hy1; subst hr1
   rw [hv1] at e1
   have hp1_0 := hp1 _ (List.mem_of_getElem? (i := 0) rfl)
   have hp1_1 := hp1 _ (List.mem_of_getElem? (i := 1) rfl)
   obtain ⟨e2, rs2, hy2, hp2⟩ := hd 2 (by decide)
   obtain ⟨hv2, hr2⟩ := hy2; subst hr2
   rw [hv2] at e2
   obtain ⟨e4, rs4, hy4, hp4⟩ := hd 4 (by decide)
   obtain ⟨hv4, hr4⟩ := hy4; subst hr4
   rw [hv4] at e4
   exact opG_of rfl (vx (op_call rfl en_18 (ev3 (tmp_ev (slot_ev e1 rfl)) (tmp_ev (slot_ev e2 rfl)) (tmp_ev (slot_ev e4 rfl))) (Convert_ok b vt1_ vm1_ lr1_ lb1_ lk1_ _ (tabs_at hp1_0) (macs_at hp1_1) hth i r1 r2)) (And.intro rfl rfl))
  refine ⟨fun a w vs25 hA hS hd => ?_, ?_⟩
  ·skip
   obtain ⟨e5, rs5, hy5, hp5⟩ := hd 5 (by decide)
   obtain ⟨hv5, hr5⟩ := hy5; subst hr5
   rw [hv5] at e5
   exact opG_of rfl (vv (op_move rfl (tmp_ev (slot_ev e5 rfl))) (And.intro rfl rfl))
  refine ⟨fun a w vs25 hA hS hd => ?_, ?_⟩
  ·skip
   obtain ⟨e6, rs6, hy6, hp6⟩ := hd 6 (by decide)
   obtain ⟨hv6, hr6⟩ := hy6; subst hr6
   rw [hv6] at e6
   exact opG_of rfl (vv (op_extract rfl (tmp_ev (slot_ev e6 rfl)) rfl) (And.intro rfl rfl))
  refine ⟨fun a w vs25 hA hS hd => ?_, ?_⟩
  ·skip
   obtain ⟨e6, rs6, hy6, hp6⟩ := hd 6 (by decide)
   obtain ⟨hv6, hr6⟩ := hy6; subst hr6
   rw [hv6] at e6
   exact opG_of rfl (vv (op_extract rfl (tmp_ev (slot_ev e6 rfl)) rfl) (And.intro rfl rfl))
  refine ⟨fun a w vs25 hA hS hd => ?_, ?_⟩
  ·skip
   exact opG_of rfl (valloc rfl ze_30 (cs := [(Value.int .i64 0), (Value.int .i64 0)]) rfl (fun b_ => ⟨b_, rfl, rfl⟩))
  trivial
 ·skip
  intro a26 w27 vs25 rsf31 hA28 hH30 hS29; clear hA24 hS19
  obtain ⟨hs_0, hy_0⟩ := hH30 0 (by decide)
  obtain ⟨hv_0, hr_0⟩ := hy_0
  obtain ⟨hs_1, hy_1⟩ := hH30 1 (by decide)
  obtain ⟨vt1_, vm1_, lr1_, lb1_, lk1_, hv_1, hr_1⟩ := hy_1
  obtain ⟨hs_2, hy_2⟩ := hH30 2 (by decide)
  obtain ⟨hv_2, hr_2⟩ := hy_2
  obtain ⟨hs_3, hy_3⟩ := hH30 3 (by decide)
  obtain ⟨hv_3, hr_3⟩ := hy_3
  obtain ⟨hs_4, hy_4⟩ := hH30 4 (by decide)
  obtain ⟨hv_4, hr_4⟩ := hy_4
  obtain ⟨hs_5, hy_5⟩ := hH30 5 (by decide)
  obtain ⟨hv_5, hr_5⟩ := hy_5
  obtain ⟨hs_6, hy_6⟩ := hH30 6 (by decide)
  obtain ⟨hv_6, hr_6⟩ := hy_6
  obtain ⟨hs_7, hy_7⟩ := hH30 7 (by decide)
  obtain ⟨hv_7, hr_7⟩ := hy_7
  obtain ⟨hs_8, hy_8⟩ := hH30 8 (by decide)
  obtain ⟨hv_8, hr_8⟩ := hy_8
  obtain ⟨hs_9, hy_9⟩ := hH30 9 (by decide)
  obtain ⟨b9_, hv_9, hr_9⟩ := hy_9
  have hS32 : Sep NoB w w27 [(tabsR true vt1_ lr1_ lb1_ b.tabs), (macsR true vm1_ lk1_ b.macs), (blk b9_ 30 [(Value.int .i64 0), (Value.int .i64 0)]), (blk b9 27 [(Value.int .i64 r1), (Value.int .i64 r2)]), (blk b4 25 [(Value.int .i64 b.scales), vt, vm]), (tabsR false vt lr lb b.tabs), (macsR false vm lk b.macs)] := by rw [show catR rsf31 0 10 = ([(tabsR true vt1_ lr1_ lb1_ b.tabs), (macsR true vm1_ lk1_ b.macs), (blk b9_ 30 [(Value.int .i64 0), (Value.int .i64 0)])] : List Res) by (try simp only [catR, hr_0, hr_1, hr_2, hr_3, hr_4, hr_5, hr_6, hr_7, hr_8, hr_9]); (try rfl)] at hS29; exact hS29
  rw [hv_7] at hs_7
  have hA33 : Fr 91 [] [(21, (Value.agg #[(Value.int .i64 ((convR b i (r1, r2)).1)), (Value.int .i64 ((convR b i (r1, r2)).2))])), (5, (bptr b9 0)), (3, (bptr b4 0)), (1, (Value.int .i64 i))] a26 := hA28.add (slot_ev hs_7 rfl); clear hA28
  rw [hv_8] at hs_8
  have hA34 : Fr 91 [] [(22, (Value.int .i64 (convE b i (r1, r2)))), (21, (Value.agg #[(Value.int .i64 ((convR b i (r1, r2)).1)), (Value.int .i64 ((convR b i (r1, r2)).2))])), (5, (bptr b9 0)), (3, (bptr b4 0)), (1, (Value.int .i64 i))] a26 := hA33.add (slot_ev hs_8 rfl); clear hA33
  rw [hv_9] at hs_9
  have hA35 : Fr 91 [] [(7, (bptr b9_ 0)), (22, (Value.int .i64 (convE b i (r1, r2)))), (21, (Value.agg #[(Value.int .i64 ((convR b i (r1, r2)).1)), (Value.int .i64 ((convR b i (r1, r2)).2))])), (5, (bptr b9 0)), (3, (bptr b4 0)), (1, (Value.int .i64 i))] a26 := hA34.add (slot_ev hs_9 rfl); clear hA34
  clear hH30 hS29 hs_0 hs_1 hs_2 hs_3 hs_4 hs_5 hs_6 hs_7 hs_8 hs_9
  clear hr_0
  clear hv_0
  clear hr_1
  clear hv_1
  clear hr_2
  clear hv_2
  clear hr_3
  clear hv_3
  clear hr_4
  clear hv_4
  clear hr_5
  clear hv_5
  clear hr_6
  clear hv_6
  clear hr_7
  clear hv_7
  clear hr_8
  clear hv_8
  clear hr_9
  clear hv_9
  refine s7 hA35 (op_store hS32 rfl ty_30 (hA35.ev rfl) (hA35.ev rfl) (i := 2) rfl (vs := [(Value.int .i64 ((convR b i (r1, r2)).1)), (Value.int .i64 ((convR b i (r1, r2)).2))]) rfl rfl rfl (Nat.le_of_ble_eq_true rfl)) ?_
  intro _ w36 hS37 hA38; clear hA35
  have hS39 : Sep NoB w w36 [(tabsR true vt1_ lr1_ lb1_ b.tabs), (macsR true vm1_ lk1_ b.macs), (blk b9_ 30 [(Value.int .i64 ((convR b i (r1, r2)).1)), (Value.int .i64 ((convR b i (r1, r2)).2))]), (blk b9 27 [(Value.int .i64 r1), (Value.int .i64 r2)]), (blk b4 25 [(Value.int .i64 b.scales), vt, vm]), (tabsR false vt lr lb b.tabs), (macsR false vm lk b.macs)] := hS37; clear hS37 hS32
  refine s1 hA38 (op_assign rfl (hA38.ev rfl)) fun a40 hA41 => ?_; clear hA38 a26
  refine n4 ?_
  refine s1 hA41 (op_loadA rfl ty_25 (hA41.ev rfl) (hS39.bk 4 rfl) (l := [(Value.int .i64 b.scales), vt, vm]) rfl rfl) fun a42 hA43 => ?_; clear hA41 a40
  refine s2 hA43 (op_call rfl en_21 (ev1 (hA43.ev rfl)) (rfault_ok b vt vm lr lb lk _ (tabs_at (hS39.ok 5 _ rfl)) (macs_at (hS39.ok 6 _ rfl)) hth)) ?_
  rintro a44 _ w46 ⟨rfl, hE47⟩ hA45; have hS48 := hS39.step hE47; clear hE47 hA43 hS39 a42
  refine s1 hA45 (op_assign rfl (hA45.ev rfl)) fun a49 hA50 => ?_; clear hA45 a44
  refine n2 ?_
  refine m2 ?_
  refine s1 hA50 (op_move rfl (hA50.ev rfl)) fun a51 hA52 => ?_; clear hA50 a49
  refine s1 hA52 (op_eql rfl (hA52.ev rfl) (evc _ _)) fun a53 hA54 => ?_; clear hA52 a51
  have hd55 : (checkF b) = 0 := hc
  rw [decide_eq_true hd55] at hA54
  refine s1 hA54 (op_move rfl (hA54.ev rfl)) fun a56 hA57 => ?_; clear hA54 a53
  refine s5 hA57 (op_move rfl (hA57.ev rfl)) fun a58 hA59 => ?_; clear hA57 a56
  refine s5 hA59 (op_field rfl fd_25_1 (hA59.ev rfl)) fun a60 hA61 => ?_; clear hA59 a58
  refine s5 hA61 (op_load1 rfl ty_22 (hA61.ev rfl) (hS48.bk 4 rfl) rfl) fun a62 hA63 => ?_; clear hA61 a60
  refine s5 hA63 (op_lenS rfl un_22 (hA63.ev rfl) (tabs_at (hS48.ok 5 _ rfl)).tabs) fun a64 hA65 => ?_; clear hA63 a62
  refine s5 hA65 (op_sub rfl (hA65.ev rfl) (evc _ _) (by omega) (by omega)) fun a66 hA67 => ?_; clear hA65 a64
  refine s6 hA67 (op_call rfl en_22 (ev3 (hA67.ev rfl) (evc _ _) (hA67.ev rfl)) (In_ok _ _ _ _)) ?_
  rintro a68 _ W_ ⟨rfl, hW_⟩ hA69; have hW2_ := hW_.symm; subst hW2_; clear hW_ hA67 a66
  refine s5 hA69 (op_not rfl (hA69.ev rfl)) fun a71 hA72 => ?_; clear hA69 a68
  refine s5 hA72 (op_move rfl (hA72.ev rfl)) fun a73 hA74 => ?_; clear hA72 a71
  rcases Bool.eq_false_or_eq_true ((inB i 0 ((b.tabs.length : Int) - 1))) with hb75 | hb75
  ·skip
   rw [hb75] at hA74
   have hib := inB_iff.1 hb75
   refine s5 hA74 (op_field rfl fd_27_0 (hA74.ev rfl)) fun a76 hA77 => ?_; clear hA74 a73
   refine s5 hA77 (op_load1 rfl ty_3 (hA77.ev rfl) (hS48.bk 3 rfl) rfl) fun a78 hA79 => ?_; clear hA77 a76
   refine s5 hA79 (op_field rfl fd_27_1 (hA79.ev rfl)) fun a80 hA81 => ?_; clear hA79 a78
   refine s5 hA81 (op_load1 rfl ty_3 (hA81.ev rfl) (hS48.bk 3 rfl) rfl) fun a82 hA83 => ?_; clear hA81 a80
   refine s6 hA83 (op_call rfl en_22 (ev3 (hA83.ev rfl) (evc _ _) (hA83.ev rfl)) (In_ok _ _ _ _)) ?_
   rintro a84 _ W_ ⟨rfl, hW_⟩ hA85; have hW2_ := hW_.symm; subst hW2_; clear hW_ hA83 a82
   refine s5 hA85 (op_not rfl (hA85.ev rfl)) fun a87 hA88 => ?_; clear hA85 a84
   refine s5 hA88 (op_pick_f rfl (hA88.ev rfl) (hA88.ev rfl)) fun a89 hA90 => ?_; clear hA88 a87
   refine s5 hA90 (op_move rfl (hA90.ev rfl)) fun a91 hA92 => ?_; clear hA90 a89
   rcases Bool.eq_false_or_eq_true ((inB r1 0 r2)) with hb93 | hb93
   ·skip
    rw [hb93] at hA92
    refine s5 hA92 (op_field rfl fd_27_1 (hA92.ev rfl)) fun a94 hA95 => ?_; clear hA92 a91
    refine s5 hA95 (op_load1 rfl ty_3 (hA95.ev rfl) (hS48.bk 3 rfl) rfl) fun a96 hA97 => ?_; clear hA95 a94
    refine s5 hA97 (op_gtr rfl (hA97.ev rfl) (evc _ _)) fun a98 hA99 => ?_; clear hA97 a96
    refine s5 hA99 (op_pick_f rfl (hA99.ev rfl) (hA99.ev rfl)) fun a100 hA101 => ?_; clear hA99 a98
    refine s1 hA101 (op_pick_t rfl (hA101.ev rfl) (hA101.ev rfl)) fun a102 hA103 => ?_; clear hA101 a100
    refine n1 ?_
    by_cases hb104 : 100000 < r2
    ·skip
     rw [decide_eq_true hb104] at hA103
     refine c_true hA103 rfl ?_
     have hA105 := hA103.as [(8, (Value.int .i64 (convE b i (r1, r2)))), (7, (bptr b9_ 0)), (5, (bptr b9 0)), (3, (bptr b4 0)), (1, (Value.int .i64 i))] rfl; clear hA103
     refine c_region ?_
     refine s1 hA105 (op_assign rfl (evc _ _)) fun a106 hA107 => ?_; clear hA105 a102
     refine n2 ?_
     refine c_seq ?_
     have hA108 := hA107.as [(9, (Value.int .i64 2)), (8, (Value.int .i64 (convE b i (r1, r2)))), (7, (bptr b9_ 0)), (5, (bptr b9 0)), (3, (bptr b4 0)), (1, (Value.int .i64 i))] rfl; clear hA107
     refine c_drawn mixed hA108 hS48 9 [[], [0], [1], [2], [2, 3], [2], [2, 4, 5], [2, 6], [2]] [(Yd.val (Value.int .i64 2)), (Yd.val (Value.bool false)), (Yd.val (Value.bool false)), (Yd.val undef), (Yd.val undef), (Yd.val undef), (Yd.val undef), (Yd.val undef), (Yd.val undef)] (by decide +kernel) rfl rfl ?_ ?_
     ·skip
      refine dq (fun a w hA hS hd => op_move rfl (hA.ev rfl)) ?_
      refine dq (fun a w hA hS hd => op_eql rfl (hq hd 0) (evc _ _)) ?_
      refine dq (fun a w hA hS hd => op_move rfl (hq hd 1)) ?_
      refine dn 2 ?_
      refine dn 2 ?_
      refine dn 2 ?_
      refine dn 2 ?_
      refine dn 2 ?_
      refine dn 2 ?_
      trivial
     intro a110 w111 hA112 hS113 hH114; clear hA108 hS48
     have hA115 := hA112.add (hz hH114 2); clear hA112
     have hA116 := hA115.add (hz hH114 7); clear hA115
     have hA117 := hA116.add (hz hH114 8); clear hA116
     clear hH114
     refine s3 hA117 fun a118 hA119 => ?_; clear hA117 a110
     refine s3 hA119 fun a120 hA121 => ?_; clear hA119 a118
     refine s1 hA121 (op_pick_f rfl (hA121.ev rfl) (evc _ _)) fun a122 hA123 => ?_; clear hA121 a120
     refine n1 ?_
     refine c_false hA123 rfl ?_
     refine c_skip ?_
     refine then_n ?_
     refine c_seq ?_
     refine c_seq ?_
     have hA124 := hA123.as [(9, (Value.int .i64 2)), (8, (Value.int .i64 (convE b i (r1, r2)))), (7, (bptr b9_ 0)), (5, (bptr b9 0)), (3, (bptr b4 0)), (1, (Value.int .i64 i))] rfl; clear hA123
     refine c_region ?_
     refine s1 hA124 (op_move rfl (hA124.ev rfl)) fun a125 hA126 => ?_; clear hA124 a122
     refine s1 hA126 (op_neq rfl (hA126.ev rfl) (evc _ _)) fun a127 hA128 => ?_; clear hA126 a125
     refine n1 ?_
     refine c_true hA128 rfl ?_
     refine m2 ?_
     refine s1 hA128 (op_move rfl (hA128.ev rfl)) fun a129 hA130 => ?_; clear hA128 a127
     refine s1 hA130 (op_move rfl (hA130.ev rfl)) fun a131 hA132 => ?_; clear hA130 a129
     refine s1 hA132 (op_eql rfl (hA132.ev rfl) (hA132.ev rfl)) fun a133 hA134 => ?_; clear hA132 a131
     have hd135 : (convE b i (r1, r2)) = 2 := (convE_2 hc (by first | exact .inl (by assumption) | exact .inr (spanB_no (by first | exact .inl (by assumption) | exact .inr (by assumption)))))
     rw [decide_eq_true hd135] at hA134
     refine s1 hA134 (op_move rfl (hA134.ev rfl)) fun a136 hA137 => ?_; clear hA134 a133
     refine s5 hA137 (op_loadA rfl ty_30 (hA137.ev rfl) (hS113.bk 2 rfl) (l := [(Value.int .i64 ((convR b i (r1, r2)).1)), (Value.int .i64 ((convR b i (r1, r2)).2))]) rfl rfl) fun a138 hA139 => ?_; clear hA137 a136
     refine s5 hA139 (op_build rfl pv0 bd_30_) fun a140 hA141 => ?_; clear hA139 a138
     refine s5 hA141 (op_eqlP tw_30 rfl (hA141.ev rfl) (hA141.ev rfl)) fun a142 hA143 => ?_; clear hA141 a140
     have hd144 : (decide ((((convR b i (r1, r2)).1) : Int) = 0) && decide ((((convR b i (r1, r2)).2) : Int) = 0)) = true := (by rw [show convR b i (r1, r2) = _ from by first | exact convR_n (by rw [(convE_2 hc (by first | exact .inl (by assumption) | exact .inr (spanB_no (by first | exact .inl (by assumption) | exact .inr (by assumption)))))]; decide) | exact convR_n (by rw [(convE_10 hc (by assumption) (spanB_parts.2 ⟨(by assumption), (by assumption)⟩) (by assumption))]; decide) | exact convR_y (convE_0 hc (by assumption) (spanB_parts.2 ⟨(by assumption), (by assumption)⟩) (by assumption))]; simp)
     rw [hd144] at hA143
     have hq145 := hd144; simp only [Bool.and_eq_true, Bool.and_eq_false_iff, decide_eq_true_eq, decide_eq_false_iff_not] at hq145
     refine s1 hA143 (op_pick_t rfl (hA143.ev rfl) (hA143.ev rfl)) fun a146 hA147 => ?_; clear hA143 a142
     refine s1 hA147 (op_move rfl (hA147.ev rfl)) fun a148 hA149 => ?_; clear hA147 a146
     refine s6 hA149 (op_call rfl en_17 ev0 (awake_ok _)) ?_
     rintro a150 _ w152 ⟨rfl, hE153⟩ hA151; have hS154 := hS113.step hE153; clear hE153 hA149 hS113 a148
     refine s1 hA151 (op_pick_t rfl (hA151.ev rfl) (hA151.ev rfl)) fun a155 hA156 => ?_; clear hA151 a150
     refine s1 hA156 (op_assign rfl (hA156.ev rfl)) fun a157 hA158 => ?_; clear hA156 a155
     refine n1 ?_
     refine c_ret ?_
     refine then_ret ?_
     refine fin_run hA158 (.inl rfl) (run_results1 hA158 rfl (.tmp rfl)) ?_
     exact ⟨rfl, hS154.ext⟩
    ·skip
     rw [decide_eq_false hb104] at hA103
     refine c_false hA103 rfl ?_
     refine c_skip ?_
     refine then_n ?_
     refine c_seq ?_
     refine c_seq ?_
     have hA159 := hA103.as [(9, (Value.int .i64 (checkF b))), (8, (Value.int .i64 (convE b i (r1, r2)))), (7, (bptr b9_ 0)), (5, (bptr b9 0)), (3, (bptr b4 0)), (1, (Value.int .i64 i))] rfl; clear hA103
     have hA160 := hA159.as [(9, (Value.int .i64 (checkF b))), (8, (Value.int .i64 (convE b i (r1, r2)))), (7, (bptr b9_ 0)), (5, (bptr b9 0)), (3, (bptr b4 0)), (1, (Value.int .i64 i))] rfl; clear hA159
     refine c_drawn mixed hA160 hS48 9 [[], [0], [1], [2], [2, 3], [2], [2, 4, 5], [2, 6], [2]] [(Yd.val (Value.int .i64 (checkF b))), (Yd.val (Value.bool true)), (Yd.val (Value.bool true)), (Yd.val (bptr b4 1)), (Yd.val vt), (Yd.val (Value.int .i64 i)), (Yd.val (eptr vt (i.toNat * 5))), (Yd.val (Value.agg #[(Value.int .i64 ((b.tabs.getD i.toNat tab0).frm)), (Value.int .i64 ((b.tabs.getD i.toNat tab0).dst)), (lr i.toNat), (lb i.toNat), (Value.int .i64 ((b.tabs.getD i.toNat tab0).err))])), (Yd.val (Value.agg #[(Value.int .i64 r1), (Value.int .i64 r2)]))] (by decide +kernel) rfl rfl ?_ ?_
     ·skip
      refine dq (fun a w hA hS hd => op_move rfl (hA.ev rfl)) ?_
      refine ⟨fun a w hA hS hd => by have e0 := hx hd 0; exact opG_of rfl (dv (op_eql rfl (tmp_ev e0) (evc _ _)) hS (by show Value.bool _ = _; simp only [decide_eq_true hd55, decide_true, decide_false, Bool.not_true, Bool.not_false])), ?_⟩
      refine dq (fun a w hA hS hd => op_move rfl (hq hd 1)) ?_
      refine dy 2 (fun a w hA hS hd => op_field rfl fd_25_1 (hA.ev rfl)) ?_
      refine dy 2 (fun a w hA hS hd => op_load1 rfl ty_22 (hq hd 3) (hS.bk 4 rfl) rfl) ?_
      refine dy 2 (fun a w hA hS hd => op_move rfl (hA.ev rfl)) ?_
      refine dy 2 (fun a w hA hS hd => op_indexS rfl un_22 ty_46 (hq hd 4) (i := i.toNat) ((hq hd 5).trans (int_nat (by omega))) (tabs_at (hS.ok 5 _ rfl)).tabs (by decide) (by omega)) ?_
      refine dy 2 (fun a w hA hS hd => op_loadAE rfl ty_46 (hq hd 6) (tabs_at (hS.ok 5 _ rfl)).tabs (tabs_all (by omega)) rfl (by decide)) ?_
      refine dy 2 (fun a w hA hS hd => op_loadA rfl ty_27 (hA.ev rfl) (hS.bk 3 rfl) (l := [(Value.int .i64 r1), (Value.int .i64 r2)]) rfl rfl) ?_
      trivial
     intro a162 w163 hA164 hS165 hH166; clear hA160 hS48
     have hA167 := hA164.add (hz hH166 2); clear hA164
     have hA168 := hA167.add (hz hH166 7); clear hA167
     have hA169 := hA168.add (hz hH166 8); clear hA168
     clear hH166
     refine s6 hA169 (op_call rfl en_23 (ev2 (hA169.ev rfl) (hA169.ev rfl)) (rconverts_ok r1 r2 (b.tabs.getD i.toNat tab0) _ _ _ ((tabs_at (hS165.ok 5 _ rfl)).row (i := i.toNat) (by omega)) ((tabs_at (hS165.ok 5 _ rfl)).brk (i := i.toNat) (by omega)) (hth.rl _) (hth.bl _) _ ((check_ok hc).tab (by omega)))) ?_
     rintro a170 _ w172 ⟨rfl, hE173⟩ hA171; have hS174 := hS165.step hE173; clear hE173 hA169 hS165 a162
     refine s5 hA171 (op_not rfl (hA171.ev rfl)) fun a175 hA176 => ?_; clear hA171 a170
     refine s1 hA176 (op_pick_t rfl (hA176.ev rfl) (hA176.ev rfl)) fun a177 hA178 => ?_; clear hA176 a175
     refine n1 ?_
     rcases Bool.eq_false_or_eq_true ((convB (b.tabs.getD i.toNat tab0) (r1, r2))) with hb179 | hb179
     ·skip
      rw [hb179] at hA178
      refine c_false hA178 rfl ?_
      refine c_skip ?_
      refine then_n ?_
      refine c_seq ?_
      refine c_seq ?_
      have hA180 := hA178.as [(9, (Value.int .i64 (checkF b))), (8, (Value.int .i64 (convE b i (r1, r2)))), (7, (bptr b9_ 0)), (5, (bptr b9 0)), (3, (bptr b4 0)), (1, (Value.int .i64 i))] rfl; clear hA178
      refine c_region ?_
      refine s1 hA180 (op_move rfl (hA180.ev rfl)) fun a181 hA182 => ?_; clear hA180 a177
      refine s1 hA182 (op_neq rfl (hA182.ev rfl) (evc _ _)) fun a183 hA184 => ?_; clear hA182 a181
      rw [decide_eq_true hd55] at hA184
      refine n1 ?_
      refine c_false hA184 rfl ?_
      refine c_skip ?_
      refine then_n ?_
      refine c_seq ?_
      have hA185 := hA184.as [(8, (Value.int .i64 (convE b i (r1, r2)))), (7, (bptr b9_ 0)), (5, (bptr b9 0)), (3, (bptr b4 0)), (1, (Value.int .i64 i))] rfl; clear hA184
      refine c_drawn mixed hA185 hS174 12 [[], [0], [1], [2], [2], [2, 4], [2], [2, 5, 6], [2, 7], [2], [2, 8, 9], [2, 10]] [(Yd.val (Value.int .i64 (convE b i (r1, r2)))), (Yd.val (Value.bool true)), (Yd.val (Value.bool true)), (Yd.val (Value.agg #[(Value.int .i64 ((convR b i (r1, r2)).1)), (Value.int .i64 ((convR b i (r1, r2)).2))])), (Yd.val (bptr b4 1)), (Yd.val vt), (Yd.val (Value.int .i64 i)), (Yd.val (eptr vt (i.toNat * 5))), (Yd.val (Value.agg #[(Value.int .i64 ((b.tabs.getD i.toNat tab0).frm)), (Value.int .i64 ((b.tabs.getD i.toNat tab0).dst)), (lr i.toNat), (lb i.toNat), (Value.int .i64 ((b.tabs.getD i.toNat tab0).err))])), (Yd.val (Value.agg #[(Value.int .i64 r1), (Value.int .i64 r2)])), (Yd.val (Value.agg #[(Value.int .i64 ((convF (b.tabs.getD i.toNat tab0) (r1, r2)).1)), (Value.int .i64 ((convF (b.tabs.getD i.toNat tab0) (r1, r2)).2))])), (Yd.val (Value.agg #[(Value.int .i64 ((convF (b.tabs.getD i.toNat tab0) (r1, r2)).1)), (Value.int .i64 ((convF (b.tabs.getD i.toNat tab0) (r1, r2)).2))]))] (by decide +kernel) rfl rfl ?_ ?_
      ·skip
       refine dq (fun a w hA hS hd => op_move rfl (hA.ev rfl)) ?_
       refine ⟨fun a w hA hS hd => by have e0 := hx hd 0; exact opG_of rfl (dv (op_eql rfl (tmp_ev e0) (evc _ _)) hS (by show Value.bool _ = _; simp only [decide_eq_true (show (convE b i (r1, r2)) = 0 from (convE_0 hc (by assumption) (spanB_parts.2 ⟨(by assumption), (by assumption)⟩) (by assumption))), decide_true, decide_false, Bool.not_true, Bool.not_false])), ?_⟩
       refine dq (fun a w hA hS hd => op_move rfl (hq hd 1)) ?_
       refine dy 2 (fun a w hA hS hd => op_loadA rfl ty_30 (hA.ev rfl) (hS.bk 2 rfl) (l := [(Value.int .i64 ((convR b i (r1, r2)).1)), (Value.int .i64 ((convR b i (r1, r2)).2))]) rfl rfl) ?_
       refine dy 2 (fun a w hA hS hd => op_field rfl fd_25_1 (hA.ev rfl)) ?_
       refine dy 2 (fun a w hA hS hd => op_load1 rfl ty_22 (hq hd 4) (hS.bk 4 rfl) rfl) ?_
       refine dy 2 (fun a w hA hS hd => op_move rfl (hA.ev rfl)) ?_
       refine dy 2 (fun a w hA hS hd => op_indexS rfl un_22 ty_46 (hq hd 5) (i := i.toNat) ((hq hd 6).trans (int_nat (by omega))) (tabs_at (hS.ok 5 _ rfl)).tabs (by decide) (by omega)) ?_
       refine dy 2 (fun a w hA hS hd => op_loadAE rfl ty_46 (hq hd 7) (tabs_at (hS.ok 5 _ rfl)).tabs (tabs_all (by omega)) rfl (by decide)) ?_
       refine dy 2 (fun a w hA hS hd => op_loadA rfl ty_27 (hA.ev rfl) (hS.bk 3 rfl) (l := [(Value.int .i64 r1), (Value.int .i64 r2)]) rfl rfl) ?_
       refine ⟨fun a w hA hS hd => by have e2 := hx hd 2; have e8 := hx hd 8; have e9 := hx hd 9; exact opG_yes rfl rfl e2 (dx (op_call rfl en_24 (ev2 (tmp_ev e8) (tmp_ev e9)) (rconvert_ok r1 r2 (b.tabs.getD i.toNat tab0) _ _ _ ((tabs_at (hS.ok 5 _ rfl)).row (i := i.toNat) (by omega)) ((tabs_at (hS.ok 5 _ rfl)).brk (i := i.toNat) (by omega)) (hth.rl _) (hth.bl _) _ ((check_ok hc).tab (by omega)))) hS (fun _ => rfl)), ?_⟩
       refine ⟨fun a w hA hS hd => by have e2 := hx hd 2; have e10 := hx hd 10; exact opG_yes rfl rfl e2 (dx (op_call rfl en_20 (ev1 (tmp_ev e10)) (to_ok _ _ _)) hS (fun _ => rfl)), ?_⟩
       trivial
      intro a187 w188 hA189 hS190 hH191; clear hA185 hS174
      have hA192 := hA189.add (hz hH191 2); clear hA189
      have hA193 := hA192.add (hz hH191 3); clear hA192
      have hA194 := hA193.add (hz hH191 11); clear hA193
      clear hH191
      refine s5 hA194 (op_eqlP tw_30 rfl (hA194.ev rfl) (hA194.ev rfl)) fun a195 hA196 => ?_; clear hA194 a187
      have hd197 : (decide ((((convR b i (r1, r2)).1) : Int) = ((convF (b.tabs.getD i.toNat tab0) (r1, r2)).1)) && decide ((((convR b i (r1, r2)).2) : Int) = ((convF (b.tabs.getD i.toNat tab0) (r1, r2)).2))) = true := (by rw [show convR b i (r1, r2) = _ from by first | exact convR_n (by rw [(convE_2 hc (by first | exact .inl (by assumption) | exact .inr (spanB_no (by first | exact .inl (by assumption) | exact .inr (by assumption)))))]; decide) | exact convR_n (by rw [(convE_10 hc (by assumption) (spanB_parts.2 ⟨(by assumption), (by assumption)⟩) (by assumption))]; decide) | exact convR_y (convE_0 hc (by assumption) (spanB_parts.2 ⟨(by assumption), (by assumption)⟩) (by assumption))]; simp)
      rw [hd197] at hA196
      have hq198 := hd197; simp only [Bool.and_eq_true, Bool.and_eq_false_iff, decide_eq_true_eq, decide_eq_false_iff_not] at hq198
      refine s1 hA196 (op_pick_t rfl (hA196.ev rfl) (hA196.ev rfl)) fun a199 hA200 => ?_; clear hA196 a195
      refine s1 hA200 (op_move rfl (hA200.ev rfl)) fun a201 hA202 => ?_; clear hA200 a199
      refine s6 hA202 (op_call rfl en_17 ev0 (awake_ok _)) ?_
      rintro a203 _ w205 ⟨rfl, hE206⟩ hA204; have hS207 := hS190.step hE206; clear hE206 hA202 hS190 a201
      refine s1 hA204 (op_pick_t rfl (hA204.ev rfl) (hA204.ev rfl)) fun a208 hA209 => ?_; clear hA204 a203
      refine s1 hA209 (op_assign rfl (hA209.ev rfl)) fun a210 hA211 => ?_; clear hA209 a208
      refine n1 ?_
      refine c_ret ?_
      refine fin_run hA211 (.inl rfl) (run_results1 hA211 rfl (.tmp rfl)) ?_
      exact ⟨rfl, hS207.ext⟩
     ·skip
      rw [hb179] at hA178
      refine c_true hA178 rfl ?_
      have hA212 := hA178.as [(8, (Value.int .i64 (convE b i (r1, r2)))), (7, (bptr b9_ 0)), (5, (bptr b9 0)), (3, (bptr b4 0)), (1, (Value.int .i64 i))] rfl; clear hA178
      refine c_region ?_
      refine s1 hA212 (op_assign rfl (evc _ _)) fun a213 hA214 => ?_; clear hA212 a177
      refine n2 ?_
      refine m2 ?_
      refine s1 hA214 (op_move rfl (hA214.ev rfl)) fun a215 hA216 => ?_; clear hA214 a213
      refine s1 hA216 (op_neq rfl (hA216.ev rfl) (evc _ _)) fun a217 hA218 => ?_; clear hA216 a215
      refine n1 ?_
      refine c_true hA218 rfl ?_
      refine m2 ?_
      refine s1 hA218 (op_move rfl (hA218.ev rfl)) fun a219 hA220 => ?_; clear hA218 a217
      refine s1 hA220 (op_move rfl (hA220.ev rfl)) fun a221 hA222 => ?_; clear hA220 a219
      refine s1 hA222 (op_eql rfl (hA222.ev rfl) (hA222.ev rfl)) fun a223 hA224 => ?_; clear hA222 a221
      have hd225 : (convE b i (r1, r2)) = 10 := (convE_10 hc (by assumption) (spanB_parts.2 ⟨(by assumption), (by assumption)⟩) (by assumption))
      rw [decide_eq_true hd225] at hA224
      refine s1 hA224 (op_move rfl (hA224.ev rfl)) fun a226 hA227 => ?_; clear hA224 a223
      refine s5 hA227 (op_loadA rfl ty_30 (hA227.ev rfl) (hS174.bk 2 rfl) (l := [(Value.int .i64 ((convR b i (r1, r2)).1)), (Value.int .i64 ((convR b i (r1, r2)).2))]) rfl rfl) fun a228 hA229 => ?_; clear hA227 a226
      refine s5 hA229 (op_build rfl pv0 bd_30_) fun a230 hA231 => ?_; clear hA229 a228
      refine s5 hA231 (op_eqlP tw_30 rfl (hA231.ev rfl) (hA231.ev rfl)) fun a232 hA233 => ?_; clear hA231 a230
      have hd234 : (decide ((((convR b i (r1, r2)).1) : Int) = 0) && decide ((((convR b i (r1, r2)).2) : Int) = 0)) = true := (by rw [show convR b i (r1, r2) = _ from by first | exact convR_n (by rw [(convE_2 hc (by first | exact .inl (by assumption) | exact .inr (spanB_no (by first | exact .inl (by assumption) | exact .inr (by assumption)))))]; decide) | exact convR_n (by rw [(convE_10 hc (by assumption) (spanB_parts.2 ⟨(by assumption), (by assumption)⟩) (by assumption))]; decide) | exact convR_y (convE_0 hc (by assumption) (spanB_parts.2 ⟨(by assumption), (by assumption)⟩) (by assumption))]; simp)
      rw [hd234] at hA233
      have hq235 := hd234; simp only [Bool.and_eq_true, Bool.and_eq_false_iff, decide_eq_true_eq, decide_eq_false_iff_not] at hq235
      refine s1 hA233 (op_pick_t rfl (hA233.ev rfl) (hA233.ev rfl)) fun a236 hA237 => ?_; clear hA233 a232
      refine s1 hA237 (op_move rfl (hA237.ev rfl)) fun a238 hA239 => ?_; clear hA237 a236
      refine s6 hA239 (op_call rfl en_17 ev0 (awake_ok _)) ?_
      rintro a240 _ w242 ⟨rfl, hE243⟩ hA241; have hS244 := hS174.step hE243; clear hE243 hA239 hS174 a238
      refine s1 hA241 (op_pick_t rfl (hA241.ev rfl) (hA241.ev rfl)) fun a245 hA246 => ?_; clear hA241 a240
      refine s1 hA246 (op_assign rfl (hA246.ev rfl)) fun a247 hA248 => ?_; clear hA246 a245
      refine n1 ?_
      refine c_ret ?_
      refine then_ret ?_
      refine fin_run hA248 (.inl rfl) (run_results1 hA248 rfl (.tmp rfl)) ?_
      exact ⟨rfl, hS244.ext⟩
   ·skip
    rw [hb93] at hA92
    refine s3 hA92 fun a249 hA250 => ?_; clear hA92 a91
    refine s3 hA250 fun a251 hA252 => ?_; clear hA250 a249
    refine s3 hA252 fun a253 hA254 => ?_; clear hA252 a251
    refine s5 hA254 (op_pick_t rfl (hA254.ev rfl) (evc _ _)) fun a255 hA256 => ?_; clear hA254 a253
    refine s1 hA256 (op_pick_t rfl (hA256.ev rfl) (hA256.ev rfl)) fun a257 hA258 => ?_; clear hA256 a255
    refine n1 ?_
    refine c_true hA258 rfl ?_
    have hA259 := hA258.as [(8, (Value.int .i64 (convE b i (r1, r2)))), (7, (bptr b9_ 0)), (5, (bptr b9 0)), (3, (bptr b4 0)), (1, (Value.int .i64 i))] rfl; clear hA258
    refine c_region ?_
    refine s1 hA259 (op_assign rfl (evc _ _)) fun a260 hA261 => ?_; clear hA259 a257
    refine n2 ?_
    refine c_seq ?_
    have hA262 := hA261.as [(9, (Value.int .i64 2)), (8, (Value.int .i64 (convE b i (r1, r2)))), (7, (bptr b9_ 0)), (5, (bptr b9 0)), (3, (bptr b4 0)), (1, (Value.int .i64 i))] rfl; clear hA261
    refine c_drawn mixed hA262 hS48 9 [[], [0], [1], [2], [2, 3], [2], [2, 4, 5], [2, 6], [2]] [(Yd.val (Value.int .i64 2)), (Yd.val (Value.bool false)), (Yd.val (Value.bool false)), (Yd.val undef), (Yd.val undef), (Yd.val undef), (Yd.val undef), (Yd.val undef), (Yd.val undef)] (by decide +kernel) rfl rfl ?_ ?_
    ·skip
     refine dq (fun a w hA hS hd => op_move rfl (hA.ev rfl)) ?_
     refine dq (fun a w hA hS hd => op_eql rfl (hq hd 0) (evc _ _)) ?_
     refine dq (fun a w hA hS hd => op_move rfl (hq hd 1)) ?_
     refine dn 2 ?_
     refine dn 2 ?_
     refine dn 2 ?_
     refine dn 2 ?_
     refine dn 2 ?_
     refine dn 2 ?_
     trivial
    intro a264 w265 hA266 hS267 hH268; clear hA262 hS48
    have hA269 := hA266.add (hz hH268 2); clear hA266
    have hA270 := hA269.add (hz hH268 7); clear hA269
    have hA271 := hA270.add (hz hH268 8); clear hA270
    clear hH268
    refine s3 hA271 fun a272 hA273 => ?_; clear hA271 a264
    refine s3 hA273 fun a274 hA275 => ?_; clear hA273 a272
    refine s1 hA275 (op_pick_f rfl (hA275.ev rfl) (evc _ _)) fun a276 hA277 => ?_; clear hA275 a274
    refine n1 ?_
    refine c_false hA277 rfl ?_
    refine c_skip ?_
    refine then_n ?_
    refine c_seq ?_
    refine c_seq ?_
    have hA278 := hA277.as [(9, (Value.int .i64 2)), (8, (Value.int .i64 (convE b i (r1, r2)))), (7, (bptr b9_ 0)), (5, (bptr b9 0)), (3, (bptr b4 0)), (1, (Value.int .i64 i))] rfl; clear hA277
    refine c_region ?_
    refine s1 hA278 (op_move rfl (hA278.ev rfl)) fun a279 hA280 => ?_; clear hA278 a276
    refine s1 hA280 (op_neq rfl (hA280.ev rfl) (evc _ _)) fun a281 hA282 => ?_; clear hA280 a279
    refine n1 ?_
    refine c_true hA282 rfl ?_
    refine m2 ?_
    refine s1 hA282 (op_move rfl (hA282.ev rfl)) fun a283 hA284 => ?_; clear hA282 a281
    refine s1 hA284 (op_move rfl (hA284.ev rfl)) fun a285 hA286 => ?_; clear hA284 a283
    refine s1 hA286 (op_eql rfl (hA286.ev rfl) (hA286.ev rfl)) fun a287 hA288 => ?_; clear hA286 a285
    have hd289 : (convE b i (r1, r2)) = 2 := (convE_2 hc (by first | exact .inl (by assumption) | exact .inr (spanB_no (by first | exact .inl (by assumption) | exact .inr (by assumption)))))
    rw [decide_eq_true hd289] at hA288
    refine s1 hA288 (op_move rfl (hA288.ev rfl)) fun a290 hA291 => ?_; clear hA288 a287
    refine s5 hA291 (op_loadA rfl ty_30 (hA291.ev rfl) (hS267.bk 2 rfl) (l := [(Value.int .i64 ((convR b i (r1, r2)).1)), (Value.int .i64 ((convR b i (r1, r2)).2))]) rfl rfl) fun a292 hA293 => ?_; clear hA291 a290
    refine s5 hA293 (op_build rfl pv0 bd_30_) fun a294 hA295 => ?_; clear hA293 a292
    refine s5 hA295 (op_eqlP tw_30 rfl (hA295.ev rfl) (hA295.ev rfl)) fun a296 hA297 => ?_; clear hA295 a294
    have hd298 : (decide ((((convR b i (r1, r2)).1) : Int) = 0) && decide ((((convR b i (r1, r2)).2) : Int) = 0)) = true := (by rw [show convR b i (r1, r2) = _ from by first | exact convR_n (by rw [(convE_2 hc (by first | exact .inl (by assumption) | exact .inr (spanB_no (by first | exact .inl (by assumption) | exact .inr (by assumption)))))]; decide) | exact convR_n (by rw [(convE_10 hc (by assumption) (spanB_parts.2 ⟨(by assumption), (by assumption)⟩) (by assumption))]; decide) | exact convR_y (convE_0 hc (by assumption) (spanB_parts.2 ⟨(by assumption), (by assumption)⟩) (by assumption))]; simp)
    rw [hd298] at hA297
    have hq299 := hd298; simp only [Bool.and_eq_true, Bool.and_eq_false_iff, decide_eq_true_eq, decide_eq_false_iff_not] at hq299
    refine s1 hA297 (op_pick_t rfl (hA297.ev rfl) (hA297.ev rfl)) fun a300 hA301 => ?_; clear hA297 a296
    refine s1 hA301 (op_move rfl (hA301.ev rfl)) fun a302 hA303 => ?_; clear hA301 a300
    refine s6 hA303 (op_call rfl en_17 ev0 (awake_ok _)) ?_
    rintro a304 _ w306 ⟨rfl, hE307⟩ hA305; have hS308 := hS267.step hE307; clear hE307 hA303 hS267 a302
    refine s1 hA305 (op_pick_t rfl (hA305.ev rfl) (hA305.ev rfl)) fun a309 hA310 => ?_; clear hA305 a304
    refine s1 hA310 (op_assign rfl (hA310.ev rfl)) fun a311 hA312 => ?_; clear hA310 a309
    refine n1 ?_
    refine c_ret ?_
    refine then_ret ?_
    refine fin_run hA312 (.inl rfl) (run_results1 hA312 rfl (.tmp rfl)) ?_
    exact ⟨rfl, hS308.ext⟩
  ·skip
   rw [hb75] at hA74
   refine s3 hA74 fun a313 hA314 => ?_; clear hA74 a73
   refine s3 hA314 fun a315 hA316 => ?_; clear hA314 a313
   refine s3 hA316 fun a317 hA318 => ?_; clear hA316 a315
   refine s3 hA318 fun a319 hA320 => ?_; clear hA318 a317
   refine s3 hA320 fun a321 hA322 => ?_; clear hA320 a319
   refine s3 hA322 fun a323 hA324 => ?_; clear hA322 a321
   refine s5 hA324 (op_pick_t rfl (hA324.ev rfl) (evc _ _)) fun a325 hA326 => ?_; clear hA324 a323
   refine s5 hA326 (op_move rfl (hA326.ev rfl)) fun a327 hA328 => ?_; clear hA326 a325
   refine s3 hA328 fun a329 hA330 => ?_; clear hA328 a327
   refine s3 hA330 fun a331 hA332 => ?_; clear hA330 a329
   refine s3 hA332 fun a333 hA334 => ?_; clear hA332 a331
   refine s5 hA334 (op_pick_t rfl (hA334.ev rfl) (evc _ _)) fun a335 hA336 => ?_; clear hA334 a333
   refine s1 hA336 (op_pick_t rfl (hA336.ev rfl) (hA336.ev rfl)) fun a337 hA338 => ?_; clear hA336 a335
   refine n1 ?_
   refine c_true hA338 rfl ?_
   have hA339 := hA338.as [(8, (Value.int .i64 (convE b i (r1, r2)))), (7, (bptr b9_ 0)), (5, (bptr b9 0)), (3, (bptr b4 0)), (1, (Value.int .i64 i))] rfl; clear hA338
   refine c_region ?_
   refine s1 hA339 (op_assign rfl (evc _ _)) fun a340 hA341 => ?_; clear hA339 a337
   refine n2 ?_
   refine c_seq ?_
   have hA342 := hA341.as [(9, (Value.int .i64 2)), (8, (Value.int .i64 (convE b i (r1, r2)))), (7, (bptr b9_ 0)), (5, (bptr b9 0)), (3, (bptr b4 0)), (1, (Value.int .i64 i))] rfl; clear hA341
   refine c_drawn mixed hA342 hS48 9 [[], [0], [1], [2], [2, 3], [2], [2, 4, 5], [2, 6], [2]] [(Yd.val (Value.int .i64 2)), (Yd.val (Value.bool false)), (Yd.val (Value.bool false)), (Yd.val undef), (Yd.val undef), (Yd.val undef), (Yd.val undef), (Yd.val undef), (Yd.val undef)] (by decide +kernel) rfl rfl ?_ ?_
   ·skip
    refine dq (fun a w hA hS hd => op_move rfl (hA.ev rfl)) ?_
    refine dq (fun a w hA hS hd => op_eql rfl (hq hd 0) (evc _ _)) ?_
    refine dq (fun a w hA hS hd => op_move rfl (hq hd 1)) ?_
    refine dn 2 ?_
    refine dn 2 ?_
    refine dn 2 ?_
    refine dn 2 ?_
    refine dn 2 ?_
    refine dn 2 ?_
    trivial
   intro a344 w345 hA346 hS347 hH348; clear hA342 hS48
   have hA349 := hA346.add (hz hH348 2); clear hA346
   have hA350 := hA349.add (hz hH348 7); clear hA349
   have hA351 := hA350.add (hz hH348 8); clear hA350
   clear hH348
   refine s3 hA351 fun a352 hA353 => ?_; clear hA351 a344
   refine s3 hA353 fun a354 hA355 => ?_; clear hA353 a352
   refine s1 hA355 (op_pick_f rfl (hA355.ev rfl) (evc _ _)) fun a356 hA357 => ?_; clear hA355 a354
   refine n1 ?_
   refine c_false hA357 rfl ?_
   refine c_skip ?_
   refine then_n ?_
   refine c_seq ?_
   refine c_seq ?_
   have hA358 := hA357.as [(9, (Value.int .i64 2)), (8, (Value.int .i64 (convE b i (r1, r2)))), (7, (bptr b9_ 0)), (5, (bptr b9 0)), (3, (bptr b4 0)), (1, (Value.int .i64 i))] rfl; clear hA357
   refine c_region ?_
   refine s1 hA358 (op_move rfl (hA358.ev rfl)) fun a359 hA360 => ?_; clear hA358 a356
   refine s1 hA360 (op_neq rfl (hA360.ev rfl) (evc _ _)) fun a361 hA362 => ?_; clear hA360 a359
   refine n1 ?_
   refine c_true hA362 rfl ?_
   refine m2 ?_
   refine s1 hA362 (op_move rfl (hA362.ev rfl)) fun a363 hA364 => ?_; clear hA362 a361
   refine s1 hA364 (op_move rfl (hA364.ev rfl)) fun a365 hA366 => ?_; clear hA364 a363
   refine s1 hA366 (op_eql rfl (hA366.ev rfl) (hA366.ev rfl)) fun a367 hA368 => ?_; clear hA366 a365
   have hd369 : (convE b i (r1, r2)) = 2 := (convE_2 hc (by first | exact .inl (by assumption) | exact .inr (spanB_no (by first | exact .inl (by assumption) | exact .inr (by assumption)))))
   rw [decide_eq_true hd369] at hA368
   refine s1 hA368 (op_move rfl (hA368.ev rfl)) fun a370 hA371 => ?_; clear hA368 a367
   refine s5 hA371 (op_loadA rfl ty_30 (hA371.ev rfl) (hS347.bk 2 rfl) (l := [(Value.int .i64 ((convR b i (r1, r2)).1)), (Value.int .i64 ((convR b i (r1, r2)).2))]) rfl rfl) fun a372 hA373 => ?_; clear hA371 a370
   refine s5 hA373 (op_build rfl pv0 bd_30_) fun a374 hA375 => ?_; clear hA373 a372
   refine s5 hA375 (op_eqlP tw_30 rfl (hA375.ev rfl) (hA375.ev rfl)) fun a376 hA377 => ?_; clear hA375 a374
   have hd378 : (decide ((((convR b i (r1, r2)).1) : Int) = 0) && decide ((((convR b i (r1, r2)).2) : Int) = 0)) = true := (by rw [show convR b i (r1, r2) = _ from by first | exact convR_n (by rw [(convE_2 hc (by first | exact .inl (by assumption) | exact .inr (spanB_no (by first | exact .inl (by assumption) | exact .inr (by assumption)))))]; decide) | exact convR_n (by rw [(convE_10 hc (by assumption) (spanB_parts.2 ⟨(by assumption), (by assumption)⟩) (by assumption))]; decide) | exact convR_y (convE_0 hc (by assumption) (spanB_parts.2 ⟨(by assumption), (by assumption)⟩) (by assumption))]; simp)
   rw [hd378] at hA377
   have hq379 := hd378; simp only [Bool.and_eq_true, Bool.and_eq_false_iff, decide_eq_true_eq, decide_eq_false_iff_not] at hq379
   refine s1 hA377 (op_pick_t rfl (hA377.ev rfl) (hA377.ev rfl)) fun a380 hA381 => ?_; clear hA377 a376
   refine s1 hA381 (op_move rfl (hA381.ev rfl)) fun a382 hA383 => ?_; clear hA381 a380
   refine s6 hA383 (op_call rfl en_17 ev0 (awake_ok _)) ?_
   rintro a384 _ w386 ⟨rfl, hE387⟩ hA385; have hS388 := hS347.step hE387; clear hE387 hA383 hS347 a382
   refine s1 hA385 (op_pick_t rfl (hA385.ev rfl) (hA385.ev rfl)) fun a389 hA390 => ?_; clear hA385 a384
   refine s1 hA390 (op_assign rfl (hA390.ev rfl)) fun a391 hA392 => ?_; clear hA390 a389
   refine n1 ?_
   refine c_ret ?_
   refine then_ret ?_
   refine fin_run hA392 (.inl rfl) (run_results1 hA392 rfl (.tmp rfl)) ?_
   exact ⟨rfl, hS388.ext⟩
 ·skip
  intro a393 w394 vs25 rsf398 hA395 hH397 hrq hS396; clear hA24 hS19
  obtain ⟨hs_0, hy_0⟩ := hH397 0 (by decide) (by decide)
  obtain ⟨hv_0, hr_0⟩ := hy_0
  obtain ⟨hs_1, hy_1⟩ := hH397 1 (by decide) (by decide)
  obtain ⟨vt1_, vm1_, lr1_, lb1_, lk1_, hv_1, hr_1⟩ := hy_1
  obtain ⟨hs_2, hy_2⟩ := hH397 2 (by decide) (by decide)
  obtain ⟨hv_2, hr_2⟩ := hy_2
  obtain ⟨hs_3, hy_3⟩ := hH397 3 (by decide) (by decide)
  obtain ⟨hv_3, hr_3⟩ := hy_3
  obtain ⟨hs_4, hy_4⟩ := hH397 4 (by decide) (by decide)
  obtain ⟨hv_4, hr_4⟩ := hy_4
  obtain ⟨hs_5, hy_5⟩ := hH397 5 (by decide) (by decide)
  obtain ⟨hv_5, hr_5⟩ := hy_5
  obtain ⟨hs_6, hy_6⟩ := hH397 6 (by decide) (by decide)
  obtain ⟨hv_6, hr_6⟩ := hy_6
  obtain ⟨hs_7, hy_7⟩ := hH397 7 (by decide) (by decide)
  obtain ⟨hv_7, hr_7⟩ := hy_7
  obtain ⟨hs_9, hy_9⟩ := hH397 9 (by decide) (by decide)
  obtain ⟨b9_, hv_9, hr_9⟩ := hy_9
  have hS399 : Sep NoB w w394 [(tabsR true vt1_ lr1_ lb1_ b.tabs), (macsR true vm1_ lk1_ b.macs), (blk b9_ 30 [(Value.int .i64 0), (Value.int .i64 0)]), (blk b9 27 [(Value.int .i64 r1), (Value.int .i64 r2)]), (blk b4 25 [(Value.int .i64 b.scales), vt, vm]), (tabsR false vt lr lb b.tabs), (macsR false vm lk b.macs)] := by rw [show catR rsf398 0 10 = ([(tabsR true vt1_ lr1_ lb1_ b.tabs), (macsR true vm1_ lk1_ b.macs), (blk b9_ 30 [(Value.int .i64 0), (Value.int .i64 0)])] : List Res) by (try simp only [catR, hr_0, hr_1, hr_2, hr_3, hr_4, hr_5, hr_6, hr_7, hr_9, hrq]); (try rfl)] at hS396; exact hS396
  rw [hv_6] at hs_6
  have hA400 : Fr 91 [] [(14, (Value.tuple #[(Value.agg #[(Value.int .i64 ((convR b i (r1, r2)).1)), (Value.int .i64 ((convR b i (r1, r2)).2))]), (Value.int .i64 (convE b i (r1, r2)))])), (5, (bptr b9 0)), (3, (bptr b4 0)), (1, (Value.int .i64 i))] a393 := hA395.add (slot_ev hs_6 rfl); clear hA395
  rw [hv_7] at hs_7
  have hA401 : Fr 91 [] [(21, (Value.agg #[(Value.int .i64 ((convR b i (r1, r2)).1)), (Value.int .i64 ((convR b i (r1, r2)).2))])), (14, (Value.tuple #[(Value.agg #[(Value.int .i64 ((convR b i (r1, r2)).1)), (Value.int .i64 ((convR b i (r1, r2)).2))]), (Value.int .i64 (convE b i (r1, r2)))])), (5, (bptr b9 0)), (3, (bptr b4 0)), (1, (Value.int .i64 i))] a393 := hA400.add (slot_ev hs_7 rfl); clear hA400
  rw [hv_9] at hs_9
  have hA402 : Fr 91 [] [(7, (bptr b9_ 0)), (21, (Value.agg #[(Value.int .i64 ((convR b i (r1, r2)).1)), (Value.int .i64 ((convR b i (r1, r2)).2))])), (14, (Value.tuple #[(Value.agg #[(Value.int .i64 ((convR b i (r1, r2)).1)), (Value.int .i64 ((convR b i (r1, r2)).2))]), (Value.int .i64 (convE b i (r1, r2)))])), (5, (bptr b9 0)), (3, (bptr b4 0)), (1, (Value.int .i64 i))] a393 := hA401.add (slot_ev hs_9 rfl); clear hA401
  clear hH397 hS396 hs_0 hs_1 hs_2 hs_3 hs_4 hs_5 hs_6 hs_7 hs_9 hrq
  clear hr_0
  clear hv_0
  clear hr_1
  clear hv_1
  clear hr_2
  clear hv_2
  clear hr_3
  clear hv_3
  clear hr_4
  clear hv_4
  clear hr_5
  clear hv_5
  clear hr_6
  clear hv_6
  clear hr_7
  clear hv_7
  clear hr_9
  clear hv_9
  refine s7 hA402 (op_store hS399 rfl ty_30 (hA402.ev rfl) (hA402.ev rfl) (i := 2) rfl (vs := [(Value.int .i64 ((convR b i (r1, r2)).1)), (Value.int .i64 ((convR b i (r1, r2)).2))]) rfl rfl rfl (Nat.le_of_ble_eq_true rfl)) ?_
  intro _ w403 hS404 hA405; clear hA402
  have hS406 : Sep NoB w w403 [(tabsR true vt1_ lr1_ lb1_ b.tabs), (macsR true vm1_ lk1_ b.macs), (blk b9_ 30 [(Value.int .i64 ((convR b i (r1, r2)).1)), (Value.int .i64 ((convR b i (r1, r2)).2))]), (blk b9 27 [(Value.int .i64 r1), (Value.int .i64 r2)]), (blk b4 25 [(Value.int .i64 b.scales), vt, vm]), (tabsR false vt lr lb b.tabs), (macsR false vm lk b.macs)] := hS404; clear hS404 hS399
  refine s1 hA405 (op_extract rfl (hA405.ev rfl) rfl) fun a407 hA408 => ?_; clear hA405 a393
  refine s1 hA408 (op_assign rfl (hA408.ev rfl)) fun a409 hA410 => ?_; clear hA408 a407
  refine n4 ?_
  refine s1 hA410 (op_loadA rfl ty_25 (hA410.ev rfl) (hS406.bk 4 rfl) (l := [(Value.int .i64 b.scales), vt, vm]) rfl rfl) fun a411 hA412 => ?_; clear hA410 a409
  refine s2 hA412 (op_call rfl en_21 (ev1 (hA412.ev rfl)) (rfault_ok b vt vm lr lb lk _ (tabs_at (hS406.ok 5 _ rfl)) (macs_at (hS406.ok 6 _ rfl)) hth)) ?_
  rintro a413 _ w415 ⟨rfl, hE416⟩ hA414; have hS417 := hS406.step hE416; clear hE416 hA412 hS406 a411
  refine s1 hA414 (op_assign rfl (hA414.ev rfl)) fun a418 hA419 => ?_; clear hA414 a413
  refine n2 ?_
  refine m2 ?_
  refine s1 hA419 (op_move rfl (hA419.ev rfl)) fun a420 hA421 => ?_; clear hA419 a418
  refine s1 hA421 (op_eql rfl (hA421.ev rfl) (evc _ _)) fun a422 hA423 => ?_; clear hA421 a420
  have hd424 : (checkF b) = 0 := hc
  rw [decide_eq_true hd424] at hA423
  refine s1 hA423 (op_move rfl (hA423.ev rfl)) fun a425 hA426 => ?_; clear hA423 a422
  refine s5 hA426 (op_move rfl (hA426.ev rfl)) fun a427 hA428 => ?_; clear hA426 a425
  refine s5 hA428 (op_field rfl fd_25_1 (hA428.ev rfl)) fun a429 hA430 => ?_; clear hA428 a427
  refine s5 hA430 (op_load1 rfl ty_22 (hA430.ev rfl) (hS417.bk 4 rfl) rfl) fun a431 hA432 => ?_; clear hA430 a429
  refine s5 hA432 (op_lenS rfl un_22 (hA432.ev rfl) (tabs_at (hS417.ok 5 _ rfl)).tabs) fun a433 hA434 => ?_; clear hA432 a431
  refine s5 hA434 (op_sub rfl (hA434.ev rfl) (evc _ _) (by omega) (by omega)) fun a435 hA436 => ?_; clear hA434 a433
  refine s6 hA436 (op_call rfl en_22 (ev3 (hA436.ev rfl) (evc _ _) (hA436.ev rfl)) (In_ok _ _ _ _)) ?_
  rintro a437 _ W_ ⟨rfl, hW_⟩ hA438; have hW2_ := hW_.symm; subst hW2_; clear hW_ hA436 a435
  refine s5 hA438 (op_not rfl (hA438.ev rfl)) fun a440 hA441 => ?_; clear hA438 a437
  refine s5 hA441 (op_move rfl (hA441.ev rfl)) fun a442 hA443 => ?_; clear hA441 a440
  rcases Bool.eq_false_or_eq_true ((inB i 0 ((b.tabs.length : Int) - 1))) with hb444 | hb444
  ·skip
   rw [hb444] at hA443
   have hib := inB_iff.1 hb444
   refine s5 hA443 (op_field rfl fd_27_0 (hA443.ev rfl)) fun a445 hA446 => ?_; clear hA443 a442
   refine s5 hA446 (op_load1 rfl ty_3 (hA446.ev rfl) (hS417.bk 3 rfl) rfl) fun a447 hA448 => ?_; clear hA446 a445
   refine s5 hA448 (op_field rfl fd_27_1 (hA448.ev rfl)) fun a449 hA450 => ?_; clear hA448 a447
   refine s5 hA450 (op_load1 rfl ty_3 (hA450.ev rfl) (hS417.bk 3 rfl) rfl) fun a451 hA452 => ?_; clear hA450 a449
   refine s6 hA452 (op_call rfl en_22 (ev3 (hA452.ev rfl) (evc _ _) (hA452.ev rfl)) (In_ok _ _ _ _)) ?_
   rintro a453 _ W_ ⟨rfl, hW_⟩ hA454; have hW2_ := hW_.symm; subst hW2_; clear hW_ hA452 a451
   refine s5 hA454 (op_not rfl (hA454.ev rfl)) fun a456 hA457 => ?_; clear hA454 a453
   refine s5 hA457 (op_pick_f rfl (hA457.ev rfl) (hA457.ev rfl)) fun a458 hA459 => ?_; clear hA457 a456
   refine s5 hA459 (op_move rfl (hA459.ev rfl)) fun a460 hA461 => ?_; clear hA459 a458
   rcases Bool.eq_false_or_eq_true ((inB r1 0 r2)) with hb462 | hb462
   ·skip
    rw [hb462] at hA461
    refine s5 hA461 (op_field rfl fd_27_1 (hA461.ev rfl)) fun a463 hA464 => ?_; clear hA461 a460
    refine s5 hA464 (op_load1 rfl ty_3 (hA464.ev rfl) (hS417.bk 3 rfl) rfl) fun a465 hA466 => ?_; clear hA464 a463
    refine s5 hA466 (op_gtr rfl (hA466.ev rfl) (evc _ _)) fun a467 hA468 => ?_; clear hA466 a465
    refine s5 hA468 (op_pick_f rfl (hA468.ev rfl) (hA468.ev rfl)) fun a469 hA470 => ?_; clear hA468 a467
    refine s1 hA470 (op_pick_t rfl (hA470.ev rfl) (hA470.ev rfl)) fun a471 hA472 => ?_; clear hA470 a469
    refine n1 ?_
    by_cases hb473 : 100000 < r2
    ·skip
     rw [decide_eq_true hb473] at hA472
     refine c_true hA472 rfl ?_
     have hA474 := hA472.as [(8, (Value.int .i64 (convE b i (r1, r2)))), (7, (bptr b9_ 0)), (5, (bptr b9 0)), (3, (bptr b4 0)), (1, (Value.int .i64 i))] rfl; clear hA472
     refine c_region ?_
     refine s1 hA474 (op_assign rfl (evc _ _)) fun a475 hA476 => ?_; clear hA474 a471
     refine n2 ?_
     refine c_seq ?_
     have hA477 := hA476.as [(9, (Value.int .i64 2)), (8, (Value.int .i64 (convE b i (r1, r2)))), (7, (bptr b9_ 0)), (5, (bptr b9 0)), (3, (bptr b4 0)), (1, (Value.int .i64 i))] rfl; clear hA476
     refine c_drawn mixed hA477 hS417 9 [[], [0], [1], [2], [2, 3], [2], [2, 4, 5], [2, 6], [2]] [(Yd.val (Value.int .i64 2)), (Yd.val (Value.bool false)), (Yd.val (Value.bool false)), (Yd.val undef), (Yd.val undef), (Yd.val undef), (Yd.val undef), (Yd.val undef), (Yd.val undef)] (by decide +kernel) rfl rfl ?_ ?_
     ·skip
      refine dq (fun a w hA hS hd => op_move rfl (hA.ev rfl)) ?_
      refine dq (fun a w hA hS hd => op_eql rfl (hq hd 0) (evc _ _)) ?_
      refine dq (fun a w hA hS hd => op_move rfl (hq hd 1)) ?_
      refine dn 2 ?_
      refine dn 2 ?_
      refine dn 2 ?_
      refine dn 2 ?_
      refine dn 2 ?_
      refine dn 2 ?_
      trivial
     intro a479 w480 hA481 hS482 hH483; clear hA477 hS417
     have hA484 := hA481.add (hz hH483 2); clear hA481
     have hA485 := hA484.add (hz hH483 7); clear hA484
     have hA486 := hA485.add (hz hH483 8); clear hA485
     clear hH483
     refine s3 hA486 fun a487 hA488 => ?_; clear hA486 a479
     refine s3 hA488 fun a489 hA490 => ?_; clear hA488 a487
     refine s1 hA490 (op_pick_f rfl (hA490.ev rfl) (evc _ _)) fun a491 hA492 => ?_; clear hA490 a489
     refine n1 ?_
     refine c_false hA492 rfl ?_
     refine c_skip ?_
     refine then_n ?_
     refine c_seq ?_
     refine c_seq ?_
     have hA493 := hA492.as [(9, (Value.int .i64 2)), (8, (Value.int .i64 (convE b i (r1, r2)))), (7, (bptr b9_ 0)), (5, (bptr b9 0)), (3, (bptr b4 0)), (1, (Value.int .i64 i))] rfl; clear hA492
     refine c_region ?_
     refine s1 hA493 (op_move rfl (hA493.ev rfl)) fun a494 hA495 => ?_; clear hA493 a491
     refine s1 hA495 (op_neq rfl (hA495.ev rfl) (evc _ _)) fun a496 hA497 => ?_; clear hA495 a494
     refine n1 ?_
     refine c_true hA497 rfl ?_
     refine m2 ?_
     refine s1 hA497 (op_move rfl (hA497.ev rfl)) fun a498 hA499 => ?_; clear hA497 a496
     refine s1 hA499 (op_move rfl (hA499.ev rfl)) fun a500 hA501 => ?_; clear hA499 a498
     refine s1 hA501 (op_eql rfl (hA501.ev rfl) (hA501.ev rfl)) fun a502 hA503 => ?_; clear hA501 a500
     have hd504 : (convE b i (r1, r2)) = 2 := (convE_2 hc (by first | exact .inl (by assumption) | exact .inr (spanB_no (by first | exact .inl (by assumption) | exact .inr (by assumption)))))
     rw [decide_eq_true hd504] at hA503
     refine s1 hA503 (op_move rfl (hA503.ev rfl)) fun a505 hA506 => ?_; clear hA503 a502
     refine s5 hA506 (op_loadA rfl ty_30 (hA506.ev rfl) (hS482.bk 2 rfl) (l := [(Value.int .i64 ((convR b i (r1, r2)).1)), (Value.int .i64 ((convR b i (r1, r2)).2))]) rfl rfl) fun a507 hA508 => ?_; clear hA506 a505
     refine s5 hA508 (op_build rfl pv0 bd_30_) fun a509 hA510 => ?_; clear hA508 a507
     refine s5 hA510 (op_eqlP tw_30 rfl (hA510.ev rfl) (hA510.ev rfl)) fun a511 hA512 => ?_; clear hA510 a509
     have hd513 : (decide ((((convR b i (r1, r2)).1) : Int) = 0) && decide ((((convR b i (r1, r2)).2) : Int) = 0)) = true := (by rw [show convR b i (r1, r2) = _ from by first | exact convR_n (by rw [(convE_2 hc (by first | exact .inl (by assumption) | exact .inr (spanB_no (by first | exact .inl (by assumption) | exact .inr (by assumption)))))]; decide) | exact convR_n (by rw [(convE_10 hc (by assumption) (spanB_parts.2 ⟨(by assumption), (by assumption)⟩) (by assumption))]; decide) | exact convR_y (convE_0 hc (by assumption) (spanB_parts.2 ⟨(by assumption), (by assumption)⟩) (by assumption))]; simp)
     rw [hd513] at hA512
     have hq514 := hd513; simp only [Bool.and_eq_true, Bool.and_eq_false_iff, decide_eq_true_eq, decide_eq_false_iff_not] at hq514
     refine s1 hA512 (op_pick_t rfl (hA512.ev rfl) (hA512.ev rfl)) fun a515 hA516 => ?_; clear hA512 a511
     refine s1 hA516 (op_move rfl (hA516.ev rfl)) fun a517 hA518 => ?_; clear hA516 a515
     refine s6 hA518 (op_call rfl en_17 ev0 (awake_ok _)) ?_
     rintro a519 _ w521 ⟨rfl, hE522⟩ hA520; have hS523 := hS482.step hE522; clear hE522 hA518 hS482 a517
     refine s1 hA520 (op_pick_t rfl (hA520.ev rfl) (hA520.ev rfl)) fun a524 hA525 => ?_; clear hA520 a519
     refine s1 hA525 (op_assign rfl (hA525.ev rfl)) fun a526 hA527 => ?_; clear hA525 a524
     refine n1 ?_
     refine c_ret ?_
     refine then_ret ?_
     refine fin_run hA527 (.inl rfl) (run_results1 hA527 rfl (.tmp rfl)) ?_
     exact ⟨rfl, hS523.ext⟩
    ·skip
     rw [decide_eq_false hb473] at hA472
     refine c_false hA472 rfl ?_
     refine c_skip ?_
     refine then_n ?_
     refine c_seq ?_
     refine c_seq ?_
     have hA528 := hA472.as [(9, (Value.int .i64 (checkF b))), (8, (Value.int .i64 (convE b i (r1, r2)))), (7, (bptr b9_ 0)), (5, (bptr b9 0)), (3, (bptr b4 0)), (1, (Value.int .i64 i))] rfl; clear hA472
     have hA529 := hA528.as [(9, (Value.int .i64 (checkF b))), (8, (Value.int .i64 (convE b i (r1, r2)))), (7, (bptr b9_ 0)), (5, (bptr b9 0)), (3, (bptr b4 0)), (1, (Value.int .i64 i))] rfl; clear hA528
     refine c_drawn mixed hA529 hS417 9 [[], [0], [1], [2], [2, 3], [2], [2, 4, 5], [2, 6], [2]] [(Yd.val (Value.int .i64 (checkF b))), (Yd.val (Value.bool true)), (Yd.val (Value.bool true)), (Yd.val (bptr b4 1)), (Yd.val vt), (Yd.val (Value.int .i64 i)), (Yd.val (eptr vt (i.toNat * 5))), (Yd.val (Value.agg #[(Value.int .i64 ((b.tabs.getD i.toNat tab0).frm)), (Value.int .i64 ((b.tabs.getD i.toNat tab0).dst)), (lr i.toNat), (lb i.toNat), (Value.int .i64 ((b.tabs.getD i.toNat tab0).err))])), (Yd.val (Value.agg #[(Value.int .i64 r1), (Value.int .i64 r2)]))] (by decide +kernel) rfl rfl ?_ ?_
     ·skip
      refine dq (fun a w hA hS hd => op_move rfl (hA.ev rfl)) ?_
      refine ⟨fun a w hA hS hd => by have e0 := hx hd 0; exact opG_of rfl (dv (op_eql rfl (tmp_ev e0) (evc _ _)) hS (by show Value.bool _ = _; simp only [decide_eq_true hd424, decide_true, decide_false, Bool.not_true, Bool.not_false])), ?_⟩
      refine dq (fun a w hA hS hd => op_move rfl (hq hd 1)) ?_
      refine dy 2 (fun a w hA hS hd => op_field rfl fd_25_1 (hA.ev rfl)) ?_
      refine dy 2 (fun a w hA hS hd => op_load1 rfl ty_22 (hq hd 3) (hS.bk 4 rfl) rfl) ?_
      refine dy 2 (fun a w hA hS hd => op_move rfl (hA.ev rfl)) ?_
      refine dy 2 (fun a w hA hS hd => op_indexS rfl un_22 ty_46 (hq hd 4) (i := i.toNat) ((hq hd 5).trans (int_nat (by omega))) (tabs_at (hS.ok 5 _ rfl)).tabs (by decide) (by omega)) ?_
      refine dy 2 (fun a w hA hS hd => op_loadAE rfl ty_46 (hq hd 6) (tabs_at (hS.ok 5 _ rfl)).tabs (tabs_all (by omega)) rfl (by decide)) ?_
      refine dy 2 (fun a w hA hS hd => op_loadA rfl ty_27 (hA.ev rfl) (hS.bk 3 rfl) (l := [(Value.int .i64 r1), (Value.int .i64 r2)]) rfl rfl) ?_
      trivial
     intro a531 w532 hA533 hS534 hH535; clear hA529 hS417
     have hA536 := hA533.add (hz hH535 2); clear hA533
     have hA537 := hA536.add (hz hH535 7); clear hA536
     have hA538 := hA537.add (hz hH535 8); clear hA537
     clear hH535
     refine s6 hA538 (op_call rfl en_23 (ev2 (hA538.ev rfl) (hA538.ev rfl)) (rconverts_ok r1 r2 (b.tabs.getD i.toNat tab0) _ _ _ ((tabs_at (hS534.ok 5 _ rfl)).row (i := i.toNat) (by omega)) ((tabs_at (hS534.ok 5 _ rfl)).brk (i := i.toNat) (by omega)) (hth.rl _) (hth.bl _) _ ((check_ok hc).tab (by omega)))) ?_
     rintro a539 _ w541 ⟨rfl, hE542⟩ hA540; have hS543 := hS534.step hE542; clear hE542 hA538 hS534 a531
     refine s5 hA540 (op_not rfl (hA540.ev rfl)) fun a544 hA545 => ?_; clear hA540 a539
     refine s1 hA545 (op_pick_t rfl (hA545.ev rfl) (hA545.ev rfl)) fun a546 hA547 => ?_; clear hA545 a544
     refine n1 ?_
     rcases Bool.eq_false_or_eq_true ((convB (b.tabs.getD i.toNat tab0) (r1, r2))) with hb548 | hb548
     ·skip
      rw [hb548] at hA547
      refine c_false hA547 rfl ?_
      refine c_skip ?_
      refine then_n ?_
      refine c_seq ?_
      refine c_seq ?_
      have hA549 := hA547.as [(9, (Value.int .i64 (checkF b))), (8, (Value.int .i64 (convE b i (r1, r2)))), (7, (bptr b9_ 0)), (5, (bptr b9 0)), (3, (bptr b4 0)), (1, (Value.int .i64 i))] rfl; clear hA547
      refine c_region ?_
      refine s1 hA549 (op_move rfl (hA549.ev rfl)) fun a550 hA551 => ?_; clear hA549 a546
      refine s1 hA551 (op_neq rfl (hA551.ev rfl) (evc _ _)) fun a552 hA553 => ?_; clear hA551 a550
      rw [decide_eq_true hd424] at hA553
      refine n1 ?_
      refine c_false hA553 rfl ?_
      refine c_skip ?_
      refine then_n ?_
      refine c_seq ?_
      have hA554 := hA553.as [(8, (Value.int .i64 (convE b i (r1, r2)))), (7, (bptr b9_ 0)), (5, (bptr b9 0)), (3, (bptr b4 0)), (1, (Value.int .i64 i))] rfl; clear hA553
      refine c_drawn mixed hA554 hS543 12 [[], [0], [1], [2], [2], [2, 4], [2], [2, 5, 6], [2, 7], [2], [2, 8, 9], [2, 10]] [(Yd.val (Value.int .i64 (convE b i (r1, r2)))), (Yd.val (Value.bool true)), (Yd.val (Value.bool true)), (Yd.val (Value.agg #[(Value.int .i64 ((convR b i (r1, r2)).1)), (Value.int .i64 ((convR b i (r1, r2)).2))])), (Yd.val (bptr b4 1)), (Yd.val vt), (Yd.val (Value.int .i64 i)), (Yd.val (eptr vt (i.toNat * 5))), (Yd.val (Value.agg #[(Value.int .i64 ((b.tabs.getD i.toNat tab0).frm)), (Value.int .i64 ((b.tabs.getD i.toNat tab0).dst)), (lr i.toNat), (lb i.toNat), (Value.int .i64 ((b.tabs.getD i.toNat tab0).err))])), (Yd.val (Value.agg #[(Value.int .i64 r1), (Value.int .i64 r2)])), (Yd.val (Value.agg #[(Value.int .i64 ((convF (b.tabs.getD i.toNat tab0) (r1, r2)).1)), (Value.int .i64 ((convF (b.tabs.getD i.toNat tab0) (r1, r2)).2))])), (Yd.val (Value.agg #[(Value.int .i64 ((convF (b.tabs.getD i.toNat tab0) (r1, r2)).1)), (Value.int .i64 ((convF (b.tabs.getD i.toNat tab0) (r1, r2)).2))]))] (by decide +kernel) rfl rfl ?_ ?_
      ·skip
       refine dq (fun a w hA hS hd => op_move rfl (hA.ev rfl)) ?_
       refine ⟨fun a w hA hS hd => by have e0 := hx hd 0; exact opG_of rfl (dv (op_eql rfl (tmp_ev e0) (evc _ _)) hS (by show Value.bool _ = _; simp only [decide_eq_true (show (convE b i (r1, r2)) = 0 from (convE_0 hc (by assumption) (spanB_parts.2 ⟨(by assumption), (by assumption)⟩) (by assumption))), decide_true, decide_false, Bool.not_true, Bool.not_false])), ?_⟩
       refine dq (fun a w hA hS hd => op_move rfl (hq hd 1)) ?_
       refine dy 2 (fun a w hA hS hd => op_loadA rfl ty_30 (hA.ev rfl) (hS.bk 2 rfl) (l := [(Value.int .i64 ((convR b i (r1, r2)).1)), (Value.int .i64 ((convR b i (r1, r2)).2))]) rfl rfl) ?_
       refine dy 2 (fun a w hA hS hd => op_field rfl fd_25_1 (hA.ev rfl)) ?_
       refine dy 2 (fun a w hA hS hd => op_load1 rfl ty_22 (hq hd 4) (hS.bk 4 rfl) rfl) ?_
       refine dy 2 (fun a w hA hS hd => op_move rfl (hA.ev rfl)) ?_
       refine dy 2 (fun a w hA hS hd => op_indexS rfl un_22 ty_46 (hq hd 5) (i := i.toNat) ((hq hd 6).trans (int_nat (by omega))) (tabs_at (hS.ok 5 _ rfl)).tabs (by decide) (by omega)) ?_
       refine dy 2 (fun a w hA hS hd => op_loadAE rfl ty_46 (hq hd 7) (tabs_at (hS.ok 5 _ rfl)).tabs (tabs_all (by omega)) rfl (by decide)) ?_
       refine dy 2 (fun a w hA hS hd => op_loadA rfl ty_27 (hA.ev rfl) (hS.bk 3 rfl) (l := [(Value.int .i64 r1), (Value.int .i64 r2)]) rfl rfl) ?_
       refine ⟨fun a w hA hS hd => by have e2 := hx hd 2; have e8 := hx hd 8; have e9 := hx hd 9; exact opG_yes rfl rfl e2 (dx (op_call rfl en_24 (ev2 (tmp_ev e8) (tmp_ev e9)) (rconvert_ok r1 r2 (b.tabs.getD i.toNat tab0) _ _ _ ((tabs_at (hS.ok 5 _ rfl)).row (i := i.toNat) (by omega)) ((tabs_at (hS.ok 5 _ rfl)).brk (i := i.toNat) (by omega)) (hth.rl _) (hth.bl _) _ ((check_ok hc).tab (by omega)))) hS (fun _ => rfl)), ?_⟩
       refine ⟨fun a w hA hS hd => by have e2 := hx hd 2; have e10 := hx hd 10; exact opG_yes rfl rfl e2 (dx (op_call rfl en_20 (ev1 (tmp_ev e10)) (to_ok _ _ _)) hS (fun _ => rfl)), ?_⟩
       trivial
      intro a556 w557 hA558 hS559 hH560; clear hA554 hS543
      have hA561 := hA558.add (hz hH560 2); clear hA558
      have hA562 := hA561.add (hz hH560 3); clear hA561
      have hA563 := hA562.add (hz hH560 11); clear hA562
      clear hH560
      refine s5 hA563 (op_eqlP tw_30 rfl (hA563.ev rfl) (hA563.ev rfl)) fun a564 hA565 => ?_; clear hA563 a556
      have hd566 : (decide ((((convR b i (r1, r2)).1) : Int) = ((convF (b.tabs.getD i.toNat tab0) (r1, r2)).1)) && decide ((((convR b i (r1, r2)).2) : Int) = ((convF (b.tabs.getD i.toNat tab0) (r1, r2)).2))) = true := (by rw [show convR b i (r1, r2) = _ from by first | exact convR_n (by rw [(convE_2 hc (by first | exact .inl (by assumption) | exact .inr (spanB_no (by first | exact .inl (by assumption) | exact .inr (by assumption)))))]; decide) | exact convR_n (by rw [(convE_10 hc (by assumption) (spanB_parts.2 ⟨(by assumption), (by assumption)⟩) (by assumption))]; decide) | exact convR_y (convE_0 hc (by assumption) (spanB_parts.2 ⟨(by assumption), (by assumption)⟩) (by assumption))]; simp)
      rw [hd566] at hA565
      have hq567 := hd566; simp only [Bool.and_eq_true, Bool.and_eq_false_iff, decide_eq_true_eq, decide_eq_false_iff_not] at hq567
      refine s1 hA565 (op_pick_t rfl (hA565.ev rfl) (hA565.ev rfl)) fun a568 hA569 => ?_; clear hA565 a564
      refine s1 hA569 (op_move rfl (hA569.ev rfl)) fun a570 hA571 => ?_; clear hA569 a568
      refine s6 hA571 (op_call rfl en_17 ev0 (awake_ok _)) ?_
      rintro a572 _ w574 ⟨rfl, hE575⟩ hA573; have hS576 := hS559.step hE575; clear hE575 hA571 hS559 a570
      refine s1 hA573 (op_pick_t rfl (hA573.ev rfl) (hA573.ev rfl)) fun a577 hA578 => ?_; clear hA573 a572
      refine s1 hA578 (op_assign rfl (hA578.ev rfl)) fun a579 hA580 => ?_; clear hA578 a577
      refine n1 ?_
      refine c_ret ?_
      refine fin_run hA580 (.inl rfl) (run_results1 hA580 rfl (.tmp rfl)) ?_
      exact ⟨rfl, hS576.ext⟩
     ·skip
      rw [hb548] at hA547
      refine c_true hA547 rfl ?_
      have hA581 := hA547.as [(8, (Value.int .i64 (convE b i (r1, r2)))), (7, (bptr b9_ 0)), (5, (bptr b9 0)), (3, (bptr b4 0)), (1, (Value.int .i64 i))] rfl; clear hA547
      refine c_region ?_
      refine s1 hA581 (op_assign rfl (evc _ _)) fun a582 hA583 => ?_; clear hA581 a546
      refine n2 ?_
      refine m2 ?_
      refine s1 hA583 (op_move rfl (hA583.ev rfl)) fun a584 hA585 => ?_; clear hA583 a582
      refine s1 hA585 (op_neq rfl (hA585.ev rfl) (evc _ _)) fun a586 hA587 => ?_; clear hA585 a584
      refine n1 ?_
      refine c_true hA587 rfl ?_
      refine m2 ?_
      refine s1 hA587 (op_move rfl (hA587.ev rfl)) fun a588 hA589 => ?_; clear hA587 a586
      refine s1 hA589 (op_move rfl (hA589.ev rfl)) fun a590 hA591 => ?_; clear hA589 a588
      refine s1 hA591 (op_eql rfl (hA591.ev rfl) (hA591.ev rfl)) fun a592 hA593 => ?_; clear hA591 a590
      have hd594 : (convE b i (r1, r2)) = 10 := (convE_10 hc (by assumption) (spanB_parts.2 ⟨(by assumption), (by assumption)⟩) (by assumption))
      rw [decide_eq_true hd594] at hA593
      refine s1 hA593 (op_move rfl (hA593.ev rfl)) fun a595 hA596 => ?_; clear hA593 a592
      refine s5 hA596 (op_loadA rfl ty_30 (hA596.ev rfl) (hS543.bk 2 rfl) (l := [(Value.int .i64 ((convR b i (r1, r2)).1)), (Value.int .i64 ((convR b i (r1, r2)).2))]) rfl rfl) fun a597 hA598 => ?_; clear hA596 a595
      refine s5 hA598 (op_build rfl pv0 bd_30_) fun a599 hA600 => ?_; clear hA598 a597
      refine s5 hA600 (op_eqlP tw_30 rfl (hA600.ev rfl) (hA600.ev rfl)) fun a601 hA602 => ?_; clear hA600 a599
      have hd603 : (decide ((((convR b i (r1, r2)).1) : Int) = 0) && decide ((((convR b i (r1, r2)).2) : Int) = 0)) = true := (by rw [show convR b i (r1, r2) = _ from by first | exact convR_n (by rw [(convE_2 hc (by first | exact .inl (by assumption) | exact .inr (spanB_no (by first | exact .inl (by assumption) | exact .inr (by assumption)))))]; decide) | exact convR_n (by rw [(convE_10 hc (by assumption) (spanB_parts.2 ⟨(by assumption), (by assumption)⟩) (by assumption))]; decide) | exact convR_y (convE_0 hc (by assumption) (spanB_parts.2 ⟨(by assumption), (by assumption)⟩) (by assumption))]; simp)
      rw [hd603] at hA602
      have hq604 := hd603; simp only [Bool.and_eq_true, Bool.and_eq_false_iff, decide_eq_true_eq, decide_eq_false_iff_not] at hq604
      refine s1 hA602 (op_pick_t rfl (hA602.ev rfl) (hA602.ev rfl)) fun a605 hA606 => ?_; clear hA602 a601
      refine s1 hA606 (op_move rfl (hA606.ev rfl)) fun a607 hA608 => ?_; clear hA606 a605
      refine s6 hA608 (op_call rfl en_17 ev0 (awake_ok _)) ?_
      rintro a609 _ w611 ⟨rfl, hE612⟩ hA610; have hS613 := hS543.step hE612; clear hE612 hA608 hS543 a607
      refine s1 hA610 (op_pick_t rfl (hA610.ev rfl) (hA610.ev rfl)) fun a614 hA615 => ?_; clear hA610 a609
      refine s1 hA615 (op_assign rfl (hA615.ev rfl)) fun a616 hA617 => ?_; clear hA615 a614
      refine n1 ?_
      refine c_ret ?_
      refine then_ret ?_
      refine fin_run hA617 (.inl rfl) (run_results1 hA617 rfl (.tmp rfl)) ?_
      exact ⟨rfl, hS613.ext⟩
   ·skip
    rw [hb462] at hA461
    refine s3 hA461 fun a618 hA619 => ?_; clear hA461 a460
    refine s3 hA619 fun a620 hA621 => ?_; clear hA619 a618
    refine s3 hA621 fun a622 hA623 => ?_; clear hA621 a620
    refine s5 hA623 (op_pick_t rfl (hA623.ev rfl) (evc _ _)) fun a624 hA625 => ?_; clear hA623 a622
    refine s1 hA625 (op_pick_t rfl (hA625.ev rfl) (hA625.ev rfl)) fun a626 hA627 => ?_; clear hA625 a624
    refine n1 ?_
    refine c_true hA627 rfl ?_
    have hA628 := hA627.as [(8, (Value.int .i64 (convE b i (r1, r2)))), (7, (bptr b9_ 0)), (5, (bptr b9 0)), (3, (bptr b4 0)), (1, (Value.int .i64 i))] rfl; clear hA627
    refine c_region ?_
    refine s1 hA628 (op_assign rfl (evc _ _)) fun a629 hA630 => ?_; clear hA628 a626
    refine n2 ?_
    refine c_seq ?_
    have hA631 := hA630.as [(9, (Value.int .i64 2)), (8, (Value.int .i64 (convE b i (r1, r2)))), (7, (bptr b9_ 0)), (5, (bptr b9 0)), (3, (bptr b4 0)), (1, (Value.int .i64 i))] rfl; clear hA630
    refine c_drawn mixed hA631 hS417 9 [[], [0], [1], [2], [2, 3], [2], [2, 4, 5], [2, 6], [2]] [(Yd.val (Value.int .i64 2)), (Yd.val (Value.bool false)), (Yd.val (Value.bool false)), (Yd.val undef), (Yd.val undef), (Yd.val undef), (Yd.val undef), (Yd.val undef), (Yd.val undef)] (by decide +kernel) rfl rfl ?_ ?_
    ·skip
     refine dq (fun a w hA hS hd => op_move rfl (hA.ev rfl)) ?_
     refine dq (fun a w hA hS hd => op_eql rfl (hq hd 0) (evc _ _)) ?_
     refine dq (fun a w hA hS hd => op_move rfl (hq hd 1)) ?_
     refine dn 2 ?_
     refine dn 2 ?_
     refine dn 2 ?_
     refine dn 2 ?_
     refine dn 2 ?_
     refine dn 2 ?_
     trivial
    intro a633 w634 hA635 hS636 hH637; clear hA631 hS417
    have hA638 := hA635.add (hz hH637 2); clear hA635
    have hA639 := hA638.add (hz hH637 7); clear hA638
    have hA640 := hA639.add (hz hH637 8); clear hA639
    clear hH637
    refine s3 hA640 fun a641 hA642 => ?_; clear hA640 a633
    refine s3 hA642 fun a643 hA644 => ?_; clear hA642 a641
    refine s1 hA644 (op_pick_f rfl (hA644.ev rfl) (evc _ _)) fun a645 hA646 => ?_; clear hA644 a643
    refine n1 ?_
    refine c_false hA646 rfl ?_
    refine c_skip ?_
    refine then_n ?_
    refine c_seq ?_
    refine c_seq ?_
    have hA647 := hA646.as [(9, (Value.int .i64 2)), (8, (Value.int .i64 (convE b i (r1, r2)))), (7, (bptr b9_ 0)), (5, (bptr b9 0)), (3, (bptr b4 0)), (1, (Value.int .i64 i))] rfl; clear hA646
    refine c_region ?_
    refine s1 hA647 (op_move rfl (hA647.ev rfl)) fun a648 hA649 => ?_; clear hA647 a645
    refine s1 hA649 (op_neq rfl (hA649.ev rfl) (evc _ _)) fun a650 hA651 => ?_; clear hA649 a648
    refine n1 ?_
    refine c_true hA651 rfl ?_
    refine m2 ?_
    refine s1 hA651 (op_move rfl (hA651.ev rfl)) fun a652 hA653 => ?_; clear hA651 a650
    refine s1 hA653 (op_move rfl (hA653.ev rfl)) fun a654 hA655 => ?_; clear hA653 a652
    refine s1 hA655 (op_eql rfl (hA655.ev rfl) (hA655.ev rfl)) fun a656 hA657 => ?_; clear hA655 a654
    have hd658 : (convE b i (r1, r2)) = 2 := (convE_2 hc (by first | exact .inl (by assumption) | exact .inr (spanB_no (by first | exact .inl (by assumption) | exact .inr (by assumption)))))
    rw [decide_eq_true hd658] at hA657
    refine s1 hA657 (op_move rfl (hA657.ev rfl)) fun a659 hA660 => ?_; clear hA657 a656
    refine s5 hA660 (op_loadA rfl ty_30 (hA660.ev rfl) (hS636.bk 2 rfl) (l := [(Value.int .i64 ((convR b i (r1, r2)).1)), (Value.int .i64 ((convR b i (r1, r2)).2))]) rfl rfl) fun a661 hA662 => ?_; clear hA660 a659
    refine s5 hA662 (op_build rfl pv0 bd_30_) fun a663 hA664 => ?_; clear hA662 a661
    refine s5 hA664 (op_eqlP tw_30 rfl (hA664.ev rfl) (hA664.ev rfl)) fun a665 hA666 => ?_; clear hA664 a663
    have hd667 : (decide ((((convR b i (r1, r2)).1) : Int) = 0) && decide ((((convR b i (r1, r2)).2) : Int) = 0)) = true := (by rw [show convR b i (r1, r2) = _ from by first | exact convR_n (by rw [(convE_2 hc (by first | exact .inl (by assumption) | exact .inr (spanB_no (by first | exact .inl (by assumption) | exact .inr (by assumption)))))]; decide) | exact convR_n (by rw [(convE_10 hc (by assumption) (spanB_parts.2 ⟨(by assumption), (by assumption)⟩) (by assumption))]; decide) | exact convR_y (convE_0 hc (by assumption) (spanB_parts.2 ⟨(by assumption), (by assumption)⟩) (by assumption))]; simp)
    rw [hd667] at hA666
    have hq668 := hd667; simp only [Bool.and_eq_true, Bool.and_eq_false_iff, decide_eq_true_eq, decide_eq_false_iff_not] at hq668
    refine s1 hA666 (op_pick_t rfl (hA666.ev rfl) (hA666.ev rfl)) fun a669 hA670 => ?_; clear hA666 a665
    refine s1 hA670 (op_move rfl (hA670.ev rfl)) fun a671 hA672 => ?_; clear hA670 a669
    refine s6 hA672 (op_call rfl en_17 ev0 (awake_ok _)) ?_
    rintro a673 _ w675 ⟨rfl, hE676⟩ hA674; have hS677 := hS636.step hE676; clear hE676 hA672 hS636 a671
    refine s1 hA674 (op_pick_t rfl (hA674.ev rfl) (hA674.ev rfl)) fun a678 hA679 => ?_; clear hA674 a673
    refine s1 hA679 (op_assign rfl (hA679.ev rfl)) fun a680 hA681 => ?_; clear hA679 a678
    refine n1 ?_
    refine c_ret ?_
    refine then_ret ?_
    refine fin_run hA681 (.inl rfl) (run_results1 hA681 rfl (.tmp rfl)) ?_
    exact ⟨rfl, hS677.ext⟩
  ·skip
   rw [hb444] at hA443
   refine s3 hA443 fun a682 hA683 => ?_; clear hA443 a442
   refine s3 hA683 fun a684 hA685 => ?_; clear hA683 a682
   refine s3 hA685 fun a686 hA687 => ?_; clear hA685 a684
   refine s3 hA687 fun a688 hA689 => ?_; clear hA687 a686
   refine s3 hA689 fun a690 hA691 => ?_; clear hA689 a688
   refine s3 hA691 fun a692 hA693 => ?_; clear hA691 a690
   refine s5 hA693 (op_pick_t rfl (hA693.ev rfl) (evc _ _)) fun a694 hA695 => ?_; clear hA693 a692
   refine s5 hA695 (op_move rfl (hA695.ev rfl)) fun a696 hA697 => ?_; clear hA695 a694
   refine s3 hA697 fun a698 hA699 => ?_; clear hA697 a696
   refine s3 hA699 fun a700 hA701 => ?_; clear hA699 a698
   refine s3 hA701 fun a702 hA703 => ?_; clear hA701 a700
   refine s5 hA703 (op_pick_t rfl (hA703.ev rfl) (evc _ _)) fun a704 hA705 => ?_; clear hA703 a702
   refine s1 hA705 (op_pick_t rfl (hA705.ev rfl) (hA705.ev rfl)) fun a706 hA707 => ?_; clear hA705 a704
   refine n1 ?_
   refine c_true hA707 rfl ?_
   have hA708 := hA707.as [(8, (Value.int .i64 (convE b i (r1, r2)))), (7, (bptr b9_ 0)), (5, (bptr b9 0)), (3, (bptr b4 0)), (1, (Value.int .i64 i))] rfl; clear hA707
   refine c_region ?_
   refine s1 hA708 (op_assign rfl (evc _ _)) fun a709 hA710 => ?_; clear hA708 a706
   refine n2 ?_
   refine c_seq ?_
   have hA711 := hA710.as [(9, (Value.int .i64 2)), (8, (Value.int .i64 (convE b i (r1, r2)))), (7, (bptr b9_ 0)), (5, (bptr b9 0)), (3, (bptr b4 0)), (1, (Value.int .i64 i))] rfl; clear hA710
   refine c_drawn mixed hA711 hS417 9 [[], [0], [1], [2], [2, 3], [2], [2, 4, 5], [2, 6], [2]] [(Yd.val (Value.int .i64 2)), (Yd.val (Value.bool false)), (Yd.val (Value.bool false)), (Yd.val undef), (Yd.val undef), (Yd.val undef), (Yd.val undef), (Yd.val undef), (Yd.val undef)] (by decide +kernel) rfl rfl ?_ ?_
   ·skip
    refine dq (fun a w hA hS hd => op_move rfl (hA.ev rfl)) ?_
    refine dq (fun a w hA hS hd => op_eql rfl (hq hd 0) (evc _ _)) ?_
    refine dq (fun a w hA hS hd => op_move rfl (hq hd 1)) ?_
    refine dn 2 ?_
    refine dn 2 ?_
    refine dn 2 ?_
    refine dn 2 ?_
    refine dn 2 ?_
    refine dn 2 ?_
    trivial
   intro a713 w714 hA715 hS716 hH717; clear hA711 hS417
   have hA718 := hA715.add (hz hH717 2); clear hA715
   have hA719 := hA718.add (hz hH717 7); clear hA718
   have hA720 := hA719.add (hz hH717 8); clear hA719
   clear hH717
   refine s3 hA720 fun a721 hA722 => ?_; clear hA720 a713
   refine s3 hA722 fun a723 hA724 => ?_; clear hA722 a721
   refine s1 hA724 (op_pick_f rfl (hA724.ev rfl) (evc _ _)) fun a725 hA726 => ?_; clear hA724 a723
   refine n1 ?_
   refine c_false hA726 rfl ?_
   refine c_skip ?_
   refine then_n ?_
   refine c_seq ?_
   refine c_seq ?_
   have hA727 := hA726.as [(9, (Value.int .i64 2)), (8, (Value.int .i64 (convE b i (r1, r2)))), (7, (bptr b9_ 0)), (5, (bptr b9 0)), (3, (bptr b4 0)), (1, (Value.int .i64 i))] rfl; clear hA726
   refine c_region ?_
   refine s1 hA727 (op_move rfl (hA727.ev rfl)) fun a728 hA729 => ?_; clear hA727 a725
   refine s1 hA729 (op_neq rfl (hA729.ev rfl) (evc _ _)) fun a730 hA731 => ?_; clear hA729 a728
   refine n1 ?_
   refine c_true hA731 rfl ?_
   refine m2 ?_
   refine s1 hA731 (op_move rfl (hA731.ev rfl)) fun a732 hA733 => ?_; clear hA731 a730
   refine s1 hA733 (op_move rfl (hA733.ev rfl)) fun a734 hA735 => ?_; clear hA733 a732
   refine s1 hA735 (op_eql rfl (hA735.ev rfl) (hA735.ev rfl)) fun a736 hA737 => ?_; clear hA735 a734
   have hd738 : (convE b i (r1, r2)) = 2 := (convE_2 hc (by first | exact .inl (by assumption) | exact .inr (spanB_no (by first | exact .inl (by assumption) | exact .inr (by assumption)))))
   rw [decide_eq_true hd738] at hA737
   refine s1 hA737 (op_move rfl (hA737.ev rfl)) fun a739 hA740 => ?_; clear hA737 a736
   refine s5 hA740 (op_loadA rfl ty_30 (hA740.ev rfl) (hS716.bk 2 rfl) (l := [(Value.int .i64 ((convR b i (r1, r2)).1)), (Value.int .i64 ((convR b i (r1, r2)).2))]) rfl rfl) fun a741 hA742 => ?_; clear hA740 a739
   refine s5 hA742 (op_build rfl pv0 bd_30_) fun a743 hA744 => ?_; clear hA742 a741
   refine s5 hA744 (op_eqlP tw_30 rfl (hA744.ev rfl) (hA744.ev rfl)) fun a745 hA746 => ?_; clear hA744 a743
   have hd747 : (decide ((((convR b i (r1, r2)).1) : Int) = 0) && decide ((((convR b i (r1, r2)).2) : Int) = 0)) = true := (by rw [show convR b i (r1, r2) = _ from by first | exact convR_n (by rw [(convE_2 hc (by first | exact .inl (by assumption) | exact .inr (spanB_no (by first | exact .inl (by assumption) | exact .inr (by assumption)))))]; decide) | exact convR_n (by rw [(convE_10 hc (by assumption) (spanB_parts.2 ⟨(by assumption), (by assumption)⟩) (by assumption))]; decide) | exact convR_y (convE_0 hc (by assumption) (spanB_parts.2 ⟨(by assumption), (by assumption)⟩) (by assumption))]; simp)
   rw [hd747] at hA746
   have hq748 := hd747; simp only [Bool.and_eq_true, Bool.and_eq_false_iff, decide_eq_true_eq, decide_eq_false_iff_not] at hq748
   refine s1 hA746 (op_pick_t rfl (hA746.ev rfl) (hA746.ev rfl)) fun a749 hA750 => ?_; clear hA746 a745
   refine s1 hA750 (op_move rfl (hA750.ev rfl)) fun a751 hA752 => ?_; clear hA750 a749
   refine s6 hA752 (op_call rfl en_17 ev0 (awake_ok _)) ?_
   rintro a753 _ w755 ⟨rfl, hE756⟩ hA754; have hS757 := hS716.step hE756; clear hE756 hA752 hS716 a751
   refine s1 hA754 (op_pick_t rfl (hA754.ev rfl) (hA754.ev rfl)) fun a758 hA759 => ?_; clear hA754 a753
   refine s1 hA759 (op_assign rfl (hA759.ev rfl)) fun a760 hA761 => ?_; clear hA759 a758
   refine n1 ?_
   refine c_ret ?_
   refine then_ret ?_
   refine fin_run hA761 (.inl rfl) (run_results1 hA761 rfl (.tmp rfl)) ?_
   exact ⟨rfl, hS757.ext⟩
theorem HardConverts_ok (b : BookD) (vt vm : Value) (lr lb lk : Nat → Value) (w : World) (hT : TabsAt w vt lr lb b.tabs) (hM : MacsAt w vm lk b.macs) (i r1 r2 : Int) : Calls Try.prog 3 #[.agg #[.int .i64 b.scales, vt, vm], .int .i64 i, .agg #[.int .i64 r1, .int .i64 r2]] w (Ret fun v w' => v = .bool true ∧ Ext NoB w w') := by
 rcases Bool.eq_false_or_eq_true (thinF b 0) with hf | hf
 ·by_cases hc : checkF b = 0
  ·exact HardConverts_c b vt vm lr lb lk w hT hM i r1 r2 hf hc
  ·exact HardConverts_b b vt vm lr lb lk w hT hM i r1 r2 hf hc
 ·exact HardConverts_a b vt vm lr lb lk w hT hM i r1 r2 hf
end Go.Proofs.Ytohgladndklciaa
