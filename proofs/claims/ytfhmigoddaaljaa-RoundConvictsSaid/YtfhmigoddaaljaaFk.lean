/-
  Walks through the functions of the seat, printed by a program of ours (gowalk), a theorem a function: what the call returns and what it leaves in memory.
-/
import Derived.Test.YtfhmigoddaaljaaFe
set_option linter.unusedSimpArgs false
set_option linter.unusedVariables false
namespace Go.Proofs.Ytfhmigoddaaljaa
open Go.RowKit Go.Shelf Go.Eng
theorem Round_ok (rl rs rb : Value) (rlv : List Value) (d : RD) (w : World) (hR : RoundAt w rl rs rb rlv d) (hth : d.lots.length ≤ 6 ∧ d.samples.length ≤ 10 ∧ d.tols.length ≤ 8 ∧ ∀ k, k < d.tols.length → (d.rds.getD k []).length ≤ 10) :
  Calls Try.prog 20 #[(Value.agg #[rl, rs, (Value.int .i64 d.spread), rb])] w (Ret fun v w' => ∃ vl vs vb lv, v = .agg #[vl, vs, .int .i64 d.spread, vb] ∧ Sep NoB w w' [rndR true vl vs vb lv d]) := by
 refine calls_enter Try.func20 rfl fun a0 hA0 => ?_
 replace hA0 : Fr 64 [] [(0, (Value.agg #[rl, rs, (Value.int .i64 d.spread), rb]))] a0 := hA0
 have hS0 : Sep NoB w w [(rndR false rl rs rb rlv d)] := sep_ro ⟨rfl, hR, trivial⟩
 refine c_seq ?_
 refine c_region ?_
 refine stw hA0 (op_box hS0 rfl (hA0.ev rfl) (cs := [rl, rs, (Value.int .i64 d.spread), rb]) rfl) rfl rfl (by decide) ?_
 rintro a1 _ w3 ⟨b4, rfl, hS5⟩ hA2; clear hA0 hS0 a0
 refine stw hA2 (op_alloc hS5 rfl ze_34 (cs := [(Value.slice none 0 0), (Value.slice none 0 0), (Value.int .i64 0), (Value.slice none 0 0)]) rfl) rfl rfl (by decide) ?_
 rintro a6 _ w8 ⟨b9, rfl, hS10⟩ hA7; clear hA2 hS5 a1
 refine wl_nil ?_
 refine then_n ?_
 refine c_seq ?_
 have hA11 := hA7.as [(2, (bptr b9 0)), (1, (bptr b4 0))] rfl; clear hA7
 refine c_drawV mixed hA11 hS10 7 [[], [0], [1], [], [3], [2, 4], []] [(fun (vs12 : Nat → Value) (v_ : Value) (rs_ : List Res) => v_ = (bptr b4 1) ∧ rs_ = []), (fun (vs12 : Nat → Value) (v_ : Value) (rs_ : List Res) => v_ = rs ∧ rs_ = []), (fun (vs12 : Nat → Value) (v_ : Value) (rs_ : List Res) => True ∧ rs_ = [(row v_ 3 1 d.samples.length (ints d.samples))]), (fun (vs12 : Nat → Value) (v_ : Value) (rs_ : List Res) => v_ = (bptr b4 2) ∧ rs_ = []), (fun (vs12 : Nat → Value) (v_ : Value) (rs_ : List Res) => v_ = (Value.int .i64 d.spread) ∧ rs_ = []), (fun (vs12 : Nat → Value) (v_ : Value) (rs_ : List Res) => v_ = (Value.agg #[(Value.slice none 0 0), (vs12 2), (Value.int .i64 d.spread), (Value.slice none 0 0)]) ∧ rs_ = []), (fun (vs12 : Nat → Value) (v_ : Value) (rs_ : List Res) => ∃ (b6_ : Nat), v_ = (bptr b6_ 0) ∧ rs_ = [(blk b6_ 34 [(Value.slice none 0 0), (Value.slice none 0 0), (Value.int .i64 0), (Value.slice none 0 0)])])] (by decide +kernel) (by decide +kernel) rfl rfl ⟨(fun _ _ _ _ _ h_ => h_), (fun _ _ _ _ _ h_ => h_), (fun _ _ _ _ _ h_ => h_), (fun _ _ _ _ _ h_ => h_), (fun _ _ _ _ _ h_ => h_), (fun _ _ _ _ he_ h_ => by dsimp only at h_ ⊢; rw [← he_ 2 (by decide)]; exact h_), (fun _ _ _ _ _ h_ => h_), trivial⟩ ?_ ?_
 ·skip
  refine ⟨fun a w vs12 hA hS hd => ?_, ?_⟩
  ·skip
   exact opG_of rfl (vv (op_field rfl fd_26_1 (hA.ev rfl)) (And.intro rfl rfl))
  refine ⟨fun a w vs12 hA hS hd => ?_, ?_⟩
  ·skip
   obtain ⟨e0, rs0, hy0, hp0⟩ := hd 0 (by decide)
   obtain ⟨hv0, hr0⟩ := hy0; subst hr0
   rw [hv0] at e0
   exact opG_of rfl (vv (op_load1 rfl ty_23 (tmp_ev (slot_ev e0 rfl)) (hS.bk 1 rfl) rfl) (And.intro rfl rfl))
  refine ⟨fun a w vs12 hA hS hd => ?_, ?_⟩
  ·skip
   obtain ⟨e1, rs1, hy1, hp1⟩ := hd 1 (by decide)
   obtain ⟨hv1, hr1⟩ := hy1; subst hr1
   rw [hv1] at e1
   exact opG_of rfl (vn (op_call rfl en_22 (ev1 (tmp_ev (slot_ev e1 rfl))) (list_ok d.samples _ _ (rnd_at (hS.ok 2 _ rfl)).samples (by omega))) (fun v w' h => ⟨_, And.intro trivial rfl, (Sep.start NoB _).new_row h.1 h.2, rfl⟩))
  refine ⟨fun a w vs12 hA hS hd => ?_, ?_⟩
  ·skip
   exact opG_of rfl (vv (op_field rfl fd_26_2 (hA.ev rfl)) (And.intro rfl rfl))
  refine ⟨fun a w vs12 hA hS hd => ?_, ?_⟩
  ·skip
   obtain ⟨e3, rs3, hy3, hp3⟩ := hd 3 (by decide)
   obtain ⟨hv3, hr3⟩ := hy3; subst hr3
   rw [hv3] at e3
   exact opG_of rfl (vv (op_load1 rfl ty_3 (tmp_ev (slot_ev e3 rfl)) (hS.bk 1 rfl) rfl) (And.intro rfl rfl))
  refine ⟨fun a w vs12 hA hS hd => ?_, ?_⟩
  ·skip
   obtain ⟨e2, rs2, hy2, hp2⟩ := hd 2 (by decide)
   obtain ⟨hv2, hr2⟩ := hy2; subst hr2
   have hp2_0 := hp2 _ (List.mem_of_getElem? (i := 0) rfl)
   obtain ⟨e4, rs4, hy4, hp4⟩ := hd 4 (by decide)
   obtain ⟨hv4, hr4⟩ := hy4; subst hr4
   rw [hv4] at e4
   exact opG_of rfl (vv (op_build rfl (pv2 (tmp_ev (slot_ev e2 rfl)) (tmp_ev (slot_ev e4 rfl))) (bd_34_1s_2i _ (SlAt.isSl (SlAt.of_row hp2_0)) _)) (And.intro rfl rfl))
  refine ⟨fun a w vs12 hA hS hd => ?_, ?_⟩
  ·skip
   exact opG_of rfl (valloc rfl ze_34 (cs := [(Value.slice none 0 0), (Value.slice none 0 0), (Value.int .i64 0), (Value.slice none 0 0)]) rfl (fun b_ => ⟨b_, rfl, rfl⟩))
  trivial
 intro a13 w14 vs12 rsf18 hA15 hH17 hS16; clear hA11 hS10
 obtain ⟨hs_0, hy_0⟩ := hH17 0 (by decide)
 obtain ⟨hv_0, hr_0⟩ := hy_0
 obtain ⟨hs_1, hy_1⟩ := hH17 1 (by decide)
 obtain ⟨hv_1, hr_1⟩ := hy_1
 obtain ⟨hs_2, hy_2⟩ := hH17 2 (by decide)
 obtain ⟨hv_2, hr_2⟩ := hy_2
 obtain ⟨hs_3, hy_3⟩ := hH17 3 (by decide)
 obtain ⟨hv_3, hr_3⟩ := hy_3
 obtain ⟨hs_4, hy_4⟩ := hH17 4 (by decide)
 obtain ⟨hv_4, hr_4⟩ := hy_4
 obtain ⟨hs_5, hy_5⟩ := hH17 5 (by decide)
 obtain ⟨hv_5, hr_5⟩ := hy_5
 obtain ⟨hs_6, hy_6⟩ := hH17 6 (by decide)
 obtain ⟨b6_, hv_6, hr_6⟩ := hy_6
 have hS19 : Sep NoB w w14 [(row (vs12 2) 3 1 d.samples.length (ints d.samples)), (blk b6_ 34 [(Value.slice none 0 0), (Value.slice none 0 0), (Value.int .i64 0), (Value.slice none 0 0)]), (blk b9 34 [(Value.slice none 0 0), (Value.slice none 0 0), (Value.int .i64 0), (Value.slice none 0 0)]), (blk b4 26 [rl, rs, (Value.int .i64 d.spread), rb]), (rndR false rl rs rb rlv d)] := by rw [show catR rsf18 0 7 = ([(row (vs12 2) 3 1 d.samples.length (ints d.samples)), (blk b6_ 34 [(Value.slice none 0 0), (Value.slice none 0 0), (Value.int .i64 0), (Value.slice none 0 0)])] : List Res) by (try simp only [catR, hr_0, hr_1, hr_2, hr_3, hr_4, hr_5, hr_6]); (try rfl)] at hS16; exact hS16
 rw [hv_5] at hs_5
 have hA20 : Fr 64 [] [(11, (Value.agg #[(Value.slice none 0 0), (vs12 2), (Value.int .i64 d.spread), (Value.slice none 0 0)])), (2, (bptr b9 0)), (1, (bptr b4 0))] a13 := hA15.add (slot_ev hs_5 rfl); clear hA15
 rw [hv_6] at hs_6
 have hA21 : Fr 64 [] [(3, (bptr b6_ 0)), (11, (Value.agg #[(Value.slice none 0 0), (vs12 2), (Value.int .i64 d.spread), (Value.slice none 0 0)])), (2, (bptr b9 0)), (1, (bptr b4 0))] a13 := hA20.add (slot_ev hs_6 rfl); clear hA20
 clear hH17 hS16 hs_0 hs_1 hs_2 hs_3 hs_4 hs_5 hs_6
 clear hr_0
 clear hv_0
 clear hr_1
 clear hv_1
 clear hr_2
 clear hv_2
 clear hr_3
 clear hv_3
 clear hr_4
 clear hv_4
 clear hr_5
 clear hv_5
 clear hr_6
 clear hv_6
 refine sts hA21 (op_store hS19 rfl ty_34 (hA21.ev rfl) (hA21.ev rfl) (i := 1) rfl (vs := [(Value.slice none 0 0), (vs12 2), (Value.int .i64 d.spread), (Value.slice none 0 0)]) rfl rfl (all_c rfl (all_c (SlAt.one (SlAt.of_row (hS19.ok_row 0 rfl))) (all_c rfl (all_c rfl all_n)))) (Nat.le_of_ble_eq_true rfl)) rfl rfl ?_
 intro _ w22 hS23 hA24; clear hA21
 have hS25 : Sep NoB w w22 [(row (vs12 2) 3 1 d.samples.length (ints d.samples)), (blk b6_ 34 [(Value.slice none 0 0), (vs12 2), (Value.int .i64 d.spread), (Value.slice none 0 0)]), (blk b9 34 [(Value.slice none 0 0), (Value.slice none 0 0), (Value.int .i64 0), (Value.slice none 0 0)]), (blk b4 26 [rl, rs, (Value.int .i64 d.spread), rb]), (rndR false rl rs rb rlv d)] := hS23; clear hS23 hS19
 refine wl_nil ?_
 refine then_n ?_
 refine c_seq ?_
 refine c_seq ?_
 refine c_region ?_
 refine st hA24 (op_assign rfl (evc _ _)) rfl rfl (by decide) fun a26 hA27 => ?_; clear hA24 a13
 refine wl_nil ?_
 refine then_n ?_
 refine c_block ?_
 have hS28 := hS25.nil_row 46 2; clear hS25
 have hA29 := hA27.as [(4, (Value.int .i64 0)), (3, (bptr b6_ 0)), (2, (bptr b9 0)), (1, (bptr b4 0))] rfl; clear hA27
 refine c_loop (G := Nat) (fun (k : Nat) a_ w_ => ∃ vl_ : Value, Fr 64 [] [(4, (Value.int .i64 (k : Int))), (3, (bptr b6_ 0)), (2, (bptr b9 0)), (1, (bptr b4 0))] a_ ∧ Sep NoB w w_ [(row vl_ 46 2 ((d.lots.take k).length) (pairs (d.lots.take k))), (row (vs12 2) 3 1 d.samples.length (ints d.samples)), (blk b6_ 34 [vl_, (vs12 2), (Value.int .i64 d.spread), (Value.slice none 0 0)]), (blk b9 34 [(Value.slice none 0 0), (Value.slice none 0 0), (Value.int .i64 0), (Value.slice none 0 0)]), (blk b4 26 [rl, rs, (Value.int .i64 d.spread), rb]), (rndR false rl rs rb rlv d)] ∧ (k ≤ d.lots.length)) (fun k => d.lots.length - k) 0 ⟨(Value.slice none 0 0), hA29.as _ rfl, hS28, by omega⟩ ?_
 clear hA29 hS28 a26
 rintro k a30 w32 ⟨vl_, hA31, hS33, hk⟩
 have htk : (d.lots.take k).length = k := by simp; omega
 refine c_seq ?_
 refine c_seq ?_
 refine c_region ?_
 refine st hA31 (op_move rfl (hA31.ev rfl)) rfl rfl (by decide) fun a34 hA35 => ?_; clear hA31 a30
 refine st hA35 (op_field rfl fd_26_0 (hA35.ev rfl)) rfl rfl (by decide) fun a36 hA37 => ?_; clear hA35 a34
 refine st hA37 (op_load1 rfl ty_22 (hA37.ev rfl) (hS33.bk 4 rfl) rfl) rfl rfl (by decide) fun a38 hA39 => ?_; clear hA37 a36
 refine st hA39 (op_lenS rfl un_22 (hA39.ev rfl) (rnd_at (hS33.ok 5 _ rfl)).lots) rfl rfl (by decide) fun a40 hA41 => ?_; clear hA39 a38
 refine st hA41 (op_lss rfl (hA41.ev rfl) (hA41.ev rfl)) rfl rfl (by decide) fun a42 hA43 => ?_; clear hA41 a40
 refine wl_nil ?_
 refine then_n ?_
 by_cases hb44 : (k : Int) < (d.lots.length : Int)
 ·skip
  rw [decide_eq_true hb44] at hA43
  refine c_true hA43 rfl ?_
  refine c_skip ?_
  refine then_n ?_
  refine c_seq ?_
  refine c_block ?_
  have hA45 := hA43.as [(4, (Value.int .i64 (k : Int))), (3, (bptr b6_ 0)), (2, (bptr b9 0)), (1, (bptr b4 0))] rfl; clear hA43
  refine c_drawV mixed hA45 hS33 16 [[], [0], [], [2], [], [3, 4], [5], [6], [], [8], [], [9, 10], [11], [12], [7, 13], [14]] [(fun (vs46 : Nat → Value) (v_ : Value) (rs_ : List Res) => v_ = (bptr b6_ 0) ∧ rs_ = []), (fun (vs46 : Nat → Value) (v_ : Value) (rs_ : List Res) => v_ = vl_ ∧ rs_ = []), (fun (vs46 : Nat → Value) (v_ : Value) (rs_ : List Res) => v_ = (bptr b4 0) ∧ rs_ = []), (fun (vs46 : Nat → Value) (v_ : Value) (rs_ : List Res) => v_ = rl ∧ rs_ = []), (fun (vs46 : Nat → Value) (v_ : Value) (rs_ : List Res) => v_ = (Value.int .i64 (k : Int)) ∧ rs_ = []), (fun (vs46 : Nat → Value) (v_ : Value) (rs_ : List Res) => v_ = (eptr rl (k * 2)) ∧ rs_ = []), (fun (vs46 : Nat → Value) (v_ : Value) (rs_ : List Res) => v_ = (eptr rl (k * 2 + 0)) ∧ rs_ = []), (fun (vs46 : Nat → Value) (v_ : Value) (rs_ : List Res) => v_ = (Value.int .i64 ((d.lots.getD k (0, 0)).1)) ∧ rs_ = []), (fun (vs46 : Nat → Value) (v_ : Value) (rs_ : List Res) => v_ = (bptr b4 0) ∧ rs_ = []), (fun (vs46 : Nat → Value) (v_ : Value) (rs_ : List Res) => v_ = rl ∧ rs_ = []), (fun (vs46 : Nat → Value) (v_ : Value) (rs_ : List Res) => v_ = (Value.int .i64 (k : Int)) ∧ rs_ = []), (fun (vs46 : Nat → Value) (v_ : Value) (rs_ : List Res) => v_ = (eptr rl (k * 2)) ∧ rs_ = []), (fun (vs46 : Nat → Value) (v_ : Value) (rs_ : List Res) => v_ = (eptr rl (k * 2 + 1)) ∧ rs_ = []), (fun (vs46 : Nat → Value) (v_ : Value) (rs_ : List Res) => v_ = (Value.int .i64 ((d.lots.getD k (0, 0)).2)) ∧ rs_ = []), (fun (vs46 : Nat → Value) (v_ : Value) (rs_ : List Res) => v_ = (Value.agg #[(Value.int .i64 ((d.lots.getD k (0, 0)).1)), (Value.int .i64 ((d.lots.getD k (0, 0)).2))]) ∧ rs_ = []), (fun (vs46 : Nat → Value) (v_ : Value) (rs_ : List Res) => True ∧ rs_ = [(row v_ 46 2 1 [(Value.int .i64 ((d.lots.getD k (0, 0)).1)), (Value.int .i64 ((d.lots.getD k (0, 0)).2))])])] (by decide +kernel) (by decide +kernel) rfl rfl ⟨(fun _ _ _ _ _ h_ => h_), (fun _ _ _ _ _ h_ => h_), (fun _ _ _ _ _ h_ => h_), (fun _ _ _ _ _ h_ => h_), (fun _ _ _ _ _ h_ => h_), (fun _ _ _ _ _ h_ => h_), (fun _ _ _ _ _ h_ => h_), (fun _ _ _ _ _ h_ => h_), (fun _ _ _ _ _ h_ => h_), (fun _ _ _ _ _ h_ => h_), (fun _ _ _ _ _ h_ => h_), (fun _ _ _ _ _ h_ => h_), (fun _ _ _ _ _ h_ => h_), (fun _ _ _ _ _ h_ => h_), (fun _ _ _ _ _ h_ => h_), (fun _ _ _ _ _ h_ => h_), trivial⟩ ?_ ?_
  ·skip
   refine ⟨fun a w vs46 hA hS hd => ?_, ?_⟩
   ·skip
    exact opG_of rfl (vv (op_field rfl fd_34_0 (hA.ev rfl)) (And.intro rfl rfl))
   refine ⟨fun a w vs46 hA hS hd => ?_, ?_⟩
   ·skip
    obtain ⟨e0, rs0, hy0, hp0⟩ := hd 0 (by decide)
    obtain ⟨hv0, hr0⟩ := hy0; subst hr0
    rw [hv0] at e0
    exact opG_of rfl (vv (op_load1 rfl ty_31 (tmp_ev (slot_ev e0 rfl)) (hS.bk 2 rfl) rfl) (And.intro rfl rfl))
   refine ⟨fun a w vs46 hA hS hd => ?_, ?_⟩
   ·skip
    exact opG_of rfl (vv (op_field rfl fd_26_0 (hA.ev rfl)) (And.intro rfl rfl))
   refine ⟨fun a w vs46 hA hS hd => ?_, ?_⟩
   ·skip
    obtain ⟨e2, rs2, hy2, hp2⟩ := hd 2 (by decide)
    obtain ⟨hv2, hr2⟩ := hy2; subst hr2
    rw [hv2] at e2
    exact opG_of rfl (vv (op_load1 rfl ty_22 (tmp_ev (slot_ev e2 rfl)) (hS.bk 4 rfl) rfl) (And.intro rfl rfl))
   refine ⟨fun a w vs46 hA hS hd => ?_, ?_⟩
   ·skip
    exact opG_of rfl (vv (op_move rfl (hA.ev rfl)) (And.intro rfl rfl))
   refine ⟨fun a w vs46 hA hS hd => ?_, ?_⟩
   ·skip
    obtain ⟨e3, rs3, hy3, hp3⟩ := hd 3 (by decide)
    obtain ⟨hv3, hr3⟩ := hy3; subst hr3
    rw [hv3] at e3
    obtain ⟨e4, rs4, hy4, hp4⟩ := hd 4 (by decide)
    obtain ⟨hv4, hr4⟩ := hy4; subst hr4
    rw [hv4] at e4
    exact opG_of rfl (vv (op_indexS rfl un_22 ty_44 (tmp_ev (slot_ev e3 rfl)) (i := k) (tmp_ev (slot_ev e4 rfl)) (rnd_at (hS.ok 5 _ rfl)).lots (by decide) (by omega)) (And.intro rfl rfl))
   refine ⟨fun a w vs46 hA hS hd => ?_, ?_⟩
   ·skip
    obtain ⟨e5, rs5, hy5, hp5⟩ := hd 5 (by decide)
    obtain ⟨hv5, hr5⟩ := hy5; subst hr5
    rw [hv5] at e5
    exact opG_of rfl (vv (op_fieldS rfl fd_44_0 (tmp_ev (slot_ev e5 rfl)) (rnd_at (hS.ok 5 _ rfl)).lots (by rw [((rnd_at (hS.ok 5 _ rfl)).lots).1]; omega)) (And.intro rfl rfl))
   refine ⟨fun a w vs46 hA hS hd => ?_, ?_⟩
   ·skip
    obtain ⟨e6, rs6, hy6, hp6⟩ := hd 6 (by decide)
    obtain ⟨hv6, hr6⟩ := hy6; subst hr6
    rw [hv6] at e6
    exact opG_of rfl (vv (op_load1E rfl ty_3 (tmp_ev (slot_ev e6 rfl)) (rnd_at (hS.ok 5 _ rfl)).lots (pairs_at0 (by omega))) (And.intro rfl rfl))
   refine ⟨fun a w vs46 hA hS hd => ?_, ?_⟩
   ·skip
    exact opG_of rfl (vv (op_field rfl fd_26_0 (hA.ev rfl)) (And.intro rfl rfl))
   refine ⟨fun a w vs46 hA hS hd => ?_, ?_⟩
   ·skip
    obtain ⟨e8, rs8, hy8, hp8⟩ := hd 8 (by decide)
    obtain ⟨hv8, hr8⟩ := hy8; subst hr8
    rw [hv8] at e8
    exact opG_of rfl (vv (op_load1 rfl ty_22 (tmp_ev (slot_ev e8 rfl)) (hS.bk 4 rfl) rfl) (And.intro rfl rfl))
   refine ⟨fun a w vs46 hA hS hd => ?_, ?_⟩
   ·skip
    exact opG_of rfl (vv (op_move rfl (hA.ev rfl)) (And.intro rfl rfl))
   refine ⟨fun a w vs46 hA hS hd => ?_, ?_⟩
   ·skip
    obtain ⟨e9, rs9, hy9, hp9⟩ := hd 9 (by decide)
    obtain ⟨hv9, hr9⟩ := hy9; subst hr9
    rw [hv9] at e9
    obtain ⟨e10, rs10, hy10, hp10⟩ := hd 10 (by decide)
    obtain ⟨hv10, hr10⟩ := hy10; subst hr10
    rw [hv10] at e10
    exact opG_of rfl (vv (op_indexS rfl un_22 ty_44 (tmp_ev (slot_ev e9 rfl)) (i := k) (tmp_ev (slot_ev e10 rfl)) (rnd_at (hS.ok 5 _ rfl)).lots (by decide) (by omega)) (And.intro rfl rfl))
   refine ⟨fun a w vs46 hA hS hd => ?_, ?_⟩
   ·skip
    obtain ⟨e11, rs11, hy11, hp11⟩ := hd 11 (by decide)
    obtain ⟨hv11, hr11⟩ := hy11; subst hr11
    rw [hv11] at e11
    exact opG_of rfl (vv (op_fieldS rfl fd_44_1 (tmp_ev (slot_ev e11 rfl)) (rnd_at (hS.ok 5 _ rfl)).lots (by rw [((rnd_at (hS.ok 5 _ rfl)).lots).1]; omega)) (And.intro rfl rfl))
   refine ⟨fun a w vs46 hA hS hd => ?_, ?_⟩
   ·skip
    obtain ⟨e12, rs12, hy12, hp12⟩ := hd 12 (by decide)
    obtain ⟨hv12, hr12⟩ := hy12; subst hr12
    rw [hv12] at e12
    exact opG_of rfl (vv (op_load1E rfl ty_3 (tmp_ev (slot_ev e12 rfl)) (rnd_at (hS.ok 5 _ rfl)).lots (pairs_at1 (by omega))) (And.intro rfl rfl))
   refine ⟨fun a w vs46 hA hS hd => ?_, ?_⟩
   ·skip
    obtain ⟨e7, rs7, hy7, hp7⟩ := hd 7 (by decide)
    obtain ⟨hv7, hr7⟩ := hy7; subst hr7
    rw [hv7] at e7
    obtain ⟨e13, rs13, hy13, hp13⟩ := hd 13 (by decide)
    obtain ⟨hv13, hr13⟩ := hy13; subst hr13
    rw [hv13] at e13
    exact opG_of rfl (vv (op_build rfl (pv2 (tmp_ev (slot_ev e7 rfl)) (tmp_ev (slot_ev e13 rfl))) (bd_46_0i_1i _ _)) (And.intro rfl rfl))
   refine ⟨fun a w vs46 hA hS hd => ?_, ?_⟩
   ·skip
    obtain ⟨e14, rs14, hy14, hp14⟩ := hd 14 (by decide)
    obtain ⟨hv14, hr14⟩ := hy14; subst hr14
    rw [hv14] at e14
    exact opG_of rfl (vblt rfl (pv1 (tmp_ev (slot_ev e14 rfl))) un_31 ty_46 ze_46 (by decide) (cs := [(Value.int .i64 ((d.lots.getD k (0, 0)).1)), (Value.int .i64 ((d.lots.getD k (0, 0)).2))]) (bs_46_1_0iia _ _) rfl (by decide) (fun _ => And.intro trivial rfl))
   trivial
  intro a47 w48 vs46 rsf52 hA49 hH51 hS50; clear hA45 hS33
  obtain ⟨hs_0, hy_0⟩ := hH51 0 (by decide)
  obtain ⟨hv_0, hr_0⟩ := hy_0
  obtain ⟨hs_1, hy_1⟩ := hH51 1 (by decide)
  obtain ⟨hv_1, hr_1⟩ := hy_1
  obtain ⟨hs_2, hy_2⟩ := hH51 2 (by decide)
  obtain ⟨hv_2, hr_2⟩ := hy_2
  obtain ⟨hs_3, hy_3⟩ := hH51 3 (by decide)
  obtain ⟨hv_3, hr_3⟩ := hy_3
  obtain ⟨hs_4, hy_4⟩ := hH51 4 (by decide)
  obtain ⟨hv_4, hr_4⟩ := hy_4
  obtain ⟨hs_5, hy_5⟩ := hH51 5 (by decide)
  obtain ⟨hv_5, hr_5⟩ := hy_5
  obtain ⟨hs_6, hy_6⟩ := hH51 6 (by decide)
  obtain ⟨hv_6, hr_6⟩ := hy_6
  obtain ⟨hs_7, hy_7⟩ := hH51 7 (by decide)
  obtain ⟨hv_7, hr_7⟩ := hy_7
  obtain ⟨hs_8, hy_8⟩ := hH51 8 (by decide)
  obtain ⟨hv_8, hr_8⟩ := hy_8
  obtain ⟨hs_9, hy_9⟩ := hH51 9 (by decide)
  obtain ⟨hv_9, hr_9⟩ := hy_9
  obtain ⟨hs_10, hy_10⟩ := hH51 10 (by decide)
  obtain ⟨hv_10, hr_10⟩ := hy_10
  obtain ⟨hs_11, hy_11⟩ := hH51 11 (by decide)
  obtain ⟨hv_11, hr_11⟩ := hy_11
  obtain ⟨hs_12, hy_12⟩ := hH51 12 (by decide)
  obtain ⟨hv_12, hr_12⟩ := hy_12
  obtain ⟨hs_13, hy_13⟩ := hH51 13 (by decide)
  obtain ⟨hv_13, hr_13⟩ := hy_13
  obtain ⟨hs_14, hy_14⟩ := hH51 14 (by decide)
  obtain ⟨hv_14, hr_14⟩ := hy_14
  obtain ⟨hs_15, hy_15⟩ := hH51 15 (by decide)
  obtain ⟨hv_15, hr_15⟩ := hy_15
  have hS53 : Sep NoB w w48 [(row (vs46 15) 46 2 1 [(Value.int .i64 ((d.lots.getD k (0, 0)).1)), (Value.int .i64 ((d.lots.getD k (0, 0)).2))]), (row vl_ 46 2 ((d.lots.take k).length) (pairs (d.lots.take k))), (row (vs12 2) 3 1 d.samples.length (ints d.samples)), (blk b6_ 34 [vl_, (vs12 2), (Value.int .i64 d.spread), (Value.slice none 0 0)]), (blk b9 34 [(Value.slice none 0 0), (Value.slice none 0 0), (Value.int .i64 0), (Value.slice none 0 0)]), (blk b4 26 [rl, rs, (Value.int .i64 d.spread), rb]), (rndR false rl rs rb rlv d)] := by rw [show catR rsf52 0 16 = ([(row (vs46 15) 46 2 1 [(Value.int .i64 ((d.lots.getD k (0, 0)).1)), (Value.int .i64 ((d.lots.getD k (0, 0)).2))])] : List Res) by (try simp only [catR, hr_0, hr_1, hr_2, hr_3, hr_4, hr_5, hr_6, hr_7, hr_8, hr_9, hr_10, hr_11, hr_12, hr_13, hr_14, hr_15]); (try rfl)] at hS50; exact hS50
  rw [hv_1] at hs_1
  have hA54 : Fr 64 [] [(20, vl_), (4, (Value.int .i64 (k : Int))), (3, (bptr b6_ 0)), (2, (bptr b9 0)), (1, (bptr b4 0))] a47 := hA49.add (slot_ev hs_1 rfl); clear hA49
  have hA55 : Fr 64 [] [(34, (vs46 15)), (20, vl_), (4, (Value.int .i64 (k : Int))), (3, (bptr b6_ 0)), (2, (bptr b9 0)), (1, (bptr b4 0))] a47 := hA54.add (slot_ev hs_15 rfl); clear hA54
  clear hH51 hS50 hs_0 hs_1 hs_2 hs_3 hs_4 hs_5 hs_6 hs_7 hs_8 hs_9 hs_10 hs_11 hs_12 hs_13 hs_14 hs_15
  clear hr_0
  clear hv_0
  clear hr_1
  clear hv_1
  clear hr_2
  clear hv_2
  clear hr_3
  clear hv_3
  clear hr_4
  clear hv_4
  clear hr_5
  clear hv_5
  clear hr_6
  clear hv_6
  clear hr_7
  clear hv_7
  clear hr_8
  clear hv_8
  clear hr_9
  clear hv_9
  clear hr_10
  clear hv_10
  clear hr_11
  clear hv_11
  clear hr_12
  clear hv_12
  clear hr_13
  clear hv_13
  clear hr_14
  clear hv_14
  clear hr_15
  clear hv_15
  refine stw hA55 (op_append hS53 rfl un_31 el_46 (hA55.ev rfl) (hA55.ev rfl) (i := 1) rfl (SlAt.of_row (hS53.ok_row 0 rfl)) rfl (by simp only [maxLen]; omega) (by omega)) rfl rfl (by decide) ?_
  intro a56 v59 w58 hS60 hA57
  have hS61 := hS60.row_say (i := 1) rfl (n' := ((d.lots.take k) ++ [((d.lots.getD k (0, 0)).1, (d.lots.getD k (0, 0)).2)]).length) (xs' := (pairs ((d.lots.take k) ++ [((d.lots.getD k (0, 0)).1, (d.lots.getD k (0, 0)).2)]))) (by simp) (by simp [pairs]); clear hS60 hA55 hS53 a47
  refine st hA57 (op_field rfl fd_34_0 (hA57.ev rfl)) rfl rfl (by decide) fun a62 hA63 => ?_; clear hA57 a56
  refine sts hA63 (op_store hS61 rfl ty_31 (hA63.ev rfl) (hA63.ev rfl) (i := 3) rfl (vs := [v59]) (isSl_cells (SlAt.isSl (SlAt.of_row (hS61.ok_row 1 rfl)))) rfl (all_c (SlAt.one (SlAt.of_row (hS61.ok_row 1 rfl))) all_n) (Nat.le_of_ble_eq_true rfl)) rfl rfl ?_
  intro _ w64 hS65 hA66; clear hA63
  have hS67 : Sep NoB w w64 [(row (vs46 15) 46 2 1 [(Value.int .i64 ((d.lots.getD k (0, 0)).1)), (Value.int .i64 ((d.lots.getD k (0, 0)).2))]), (row v59 46 2 (((d.lots.take k) ++ [((d.lots.getD k (0, 0)).1, (d.lots.getD k (0, 0)).2)]).length) (pairs ((d.lots.take k) ++ [((d.lots.getD k (0, 0)).1, (d.lots.getD k (0, 0)).2)]))), (row (vs12 2) 3 1 d.samples.length (ints d.samples)), (blk b6_ 34 [v59, (vs12 2), (Value.int .i64 d.spread), (Value.slice none 0 0)]), (blk b9 34 [(Value.slice none 0 0), (Value.slice none 0 0), (Value.int .i64 0), (Value.slice none 0 0)]), (blk b4 26 [rl, rs, (Value.int .i64 d.spread), rb]), (rndR false rl rs rb rlv d)] := hS65; clear hS65 hS61
  refine wl_nil ?_
  refine blk_n ?_
  refine then_n ?_
  refine c_region ?_
  refine st hA66 (op_move rfl (hA66.ev rfl)) rfl rfl (by decide) fun a68 hA69 => ?_; clear hA66 a62
  refine st hA69 (op_add rfl (hA69.ev rfl) (evc _ _) (by omega) (by omega)) rfl rfl (by decide) fun a70 hA71 => ?_; clear hA69 a68
  refine st hA71 (op_assign rfl (hA71.ev rfl)) rfl rfl (by decide) fun a72 hA73 => ?_; clear hA71 a70
  refine wl_nil ?_
  have hS74 : Sep NoB w w64 [(row v59 46 2 (((d.lots.take k) ++ [((d.lots.getD k (0, 0)).1, (d.lots.getD k (0, 0)).2)]).length) (pairs ((d.lots.take k) ++ [((d.lots.getD k (0, 0)).1, (d.lots.getD k (0, 0)).2)]))), (row (vs12 2) 3 1 d.samples.length (ints d.samples)), (blk b6_ 34 [v59, (vs12 2), (Value.int .i64 d.spread), (Value.slice none 0 0)]), (blk b9 34 [(Value.slice none 0 0), (Value.slice none 0 0), (Value.int .i64 0), (Value.slice none 0 0)]), (blk b4 26 [rl, rs, (Value.int .i64 d.spread), rb]), (rndR false rl rs rb rlv d)] := hS67.keep [1, 2, 3, 4, 5, 6] (by decide) _ rfl rfl; clear hS67
  exact then_n ⟨k + 1, ⟨v59, hA73.as _ rfl, (hS74.row_say (i := 0) rfl (by rw [take_snocL _ _ (0, 0) (by omega)]) (by rw [take_snocL _ _ (0, 0) (by omega)])), by omega⟩, by omega⟩
 ·skip
  rw [decide_eq_false hb44] at hA43
  refine c_false hA43 rfl ?_
  refine c_exit ?_
  refine then_exit ?_
  refine then_exit ?_
  refine blk_hit ?_
  refine then_n ?_
  refine c_seq ?_
  refine c_seq ?_
  have hA75 := hA43.as [(3, (bptr b6_ 0)), (2, (bptr b9 0)), (1, (bptr b4 0))] rfl; clear hA43
  refine c_region ?_
  refine st hA75 (op_assign rfl (evc _ _)) rfl rfl (by decide) fun a76 hA77 => ?_; clear hA75 a42
  refine wl_nil ?_
  refine then_n ?_
  refine c_block ?_
  have hS78 := (hS33.nil_row 75 2).lst_nil; clear hS33
  have hS79 := hS78.row_say (i := 2) rfl (n' := d.lots.length) (xs' := pairs d.lots) (by rw [List.take_of_length_le (by omega)]) (by rw [List.take_of_length_le (by omega)]); clear hS78
  have hA80 := hA77.as [(5, (Value.int .i64 0)), (3, (bptr b6_ 0)), (2, (bptr b9 0)), (1, (bptr b4 0))] rfl; clear hA77
  refine c_loop (G := Nat) (fun (k2 : Nat) a_ w_ => ∃ vb_ : Value, ∃ lv_ : List Value, Fr 64 [] [(5, (Value.int .i64 (k2 : Int))), (3, (bptr b6_ 0)), (2, (bptr b9 0)), (1, (bptr b4 0))] a_ ∧ Sep NoB w w_ [(lstR lv_ (d.rds.take k2)), (row vb_ 75 2 ((d.tols.take k2).length) (vpairs ((d.tols.take k2).zip lv_))), (row vl_ 46 2 d.lots.length (pairs d.lots)), (row (vs12 2) 3 1 d.samples.length (ints d.samples)), (blk b6_ 34 [vl_, (vs12 2), (Value.int .i64 d.spread), vb_]), (blk b9 34 [(Value.slice none 0 0), (Value.slice none 0 0), (Value.int .i64 0), (Value.slice none 0 0)]), (blk b4 26 [rl, rs, (Value.int .i64 d.spread), rb]), (rndR false rl rs rb rlv d)] ∧ (k2 ≤ d.tols.length)) (fun k2 => d.tols.length - k2) 0 ⟨(Value.slice none 0 0), [], hA80.as _ rfl, hS79, by omega⟩ ?_
  clear hA80 hS79 a76
  rintro k2 a81 w83 ⟨vb_, lv_, hA82, hS84, hk2⟩
  have hol := hS84.lst_len 0 rfl; have htk : (d.tols.take k2).length = k2 := by simp; omega
  have hrk : (d.rds.take k2).length = k2 := by rw [List.length_take, hR.rdl]; omega
  refine c_seq ?_
  refine c_seq ?_
  refine c_region ?_
  refine st hA82 (op_move rfl (hA82.ev rfl)) rfl rfl (by decide) fun a85 hA86 => ?_; clear hA82 a81
  refine st hA86 (op_field rfl fd_26_3 (hA86.ev rfl)) rfl rfl (by decide) fun a87 hA88 => ?_; clear hA86 a85
  refine st hA88 (op_load1 rfl ty_24 (hA88.ev rfl) (hS84.bk 6 rfl) rfl) rfl rfl (by decide) fun a89 hA90 => ?_; clear hA88 a87
  refine st hA90 (op_lenS rfl un_24 (hA90.ev rfl) (rnd_at (hS84.ok 7 _ rfl)).labs) rfl rfl (by decide) fun a91 hA92 => ?_; clear hA90 a89
  refine st hA92 (op_lss rfl (hA92.ev rfl) (hA92.ev rfl)) rfl rfl (by decide) fun a93 hA94 => ?_; clear hA92 a91
  refine wl_nil ?_
  refine then_n ?_
  by_cases hb95 : (k2 : Int) < (d.tols.length : Int)
  ·skip
   rw [decide_eq_true hb95] at hA94
   refine c_true hA94 rfl ?_
   refine c_skip ?_
   refine then_n ?_
   refine c_seq ?_
   refine c_block ?_
   have hA96 := hA94.as [(5, (Value.int .i64 (k2 : Int))), (3, (bptr b6_ 0)), (2, (bptr b9 0)), (1, (bptr b4 0))] rfl; clear hA94
   refine c_drawV mixed hA96 hS84 17 [[], [0], [], [2], [], [3, 4], [5], [6], [], [8], [], [9, 10], [11], [12], [13], [7, 14], [14, 15]] [(fun (vs97 : Nat → Value) (v_ : Value) (rs_ : List Res) => v_ = (bptr b6_ 3) ∧ rs_ = []), (fun (vs97 : Nat → Value) (v_ : Value) (rs_ : List Res) => v_ = vb_ ∧ rs_ = []), (fun (vs97 : Nat → Value) (v_ : Value) (rs_ : List Res) => v_ = (bptr b4 3) ∧ rs_ = []), (fun (vs97 : Nat → Value) (v_ : Value) (rs_ : List Res) => v_ = rb ∧ rs_ = []), (fun (vs97 : Nat → Value) (v_ : Value) (rs_ : List Res) => v_ = (Value.int .i64 (k2 : Int)) ∧ rs_ = []), (fun (vs97 : Nat → Value) (v_ : Value) (rs_ : List Res) => v_ = (eptr rb (k2 * 2)) ∧ rs_ = []), (fun (vs97 : Nat → Value) (v_ : Value) (rs_ : List Res) => v_ = (eptr rb (k2 * 2 + 0)) ∧ rs_ = []), (fun (vs97 : Nat → Value) (v_ : Value) (rs_ : List Res) => v_ = (Value.int .i64 (d.tols.getD k2 0)) ∧ rs_ = []), (fun (vs97 : Nat → Value) (v_ : Value) (rs_ : List Res) => v_ = (bptr b4 3) ∧ rs_ = []), (fun (vs97 : Nat → Value) (v_ : Value) (rs_ : List Res) => v_ = rb ∧ rs_ = []), (fun (vs97 : Nat → Value) (v_ : Value) (rs_ : List Res) => v_ = (Value.int .i64 (k2 : Int)) ∧ rs_ = []), (fun (vs97 : Nat → Value) (v_ : Value) (rs_ : List Res) => v_ = (eptr rb (k2 * 2)) ∧ rs_ = []), (fun (vs97 : Nat → Value) (v_ : Value) (rs_ : List Res) => v_ = (eptr rb (k2 * 2 + 1)) ∧ rs_ = []), (fun (vs97 : Nat → Value) (v_ : Value) (rs_ : List Res) => v_ = (rlv.getD k2 nilS) ∧ rs_ = []), (fun (vs97 : Nat → Value) (v_ : Value) (rs_ : List Res) => True ∧ rs_ = [(row v_ 3 1 ((d.rds.getD k2 []).length) (ints (d.rds.getD k2 [])))]), (fun (vs97 : Nat → Value) (v_ : Value) (rs_ : List Res) => v_ = (Value.agg #[(Value.int .i64 (d.tols.getD k2 0)), (vs97 14)]) ∧ rs_ = []), (fun (vs97 : Nat → Value) (v_ : Value) (rs_ : List Res) => True ∧ rs_ = [(row v_ 75 2 1 [(Value.int .i64 (d.tols.getD k2 0)), (vs97 14)])])] (by decide +kernel) (by decide +kernel) rfl rfl ⟨(fun _ _ _ _ _ h_ => h_), (fun _ _ _ _ _ h_ => h_), (fun _ _ _ _ _ h_ => h_), (fun _ _ _ _ _ h_ => h_), (fun _ _ _ _ _ h_ => h_), (fun _ _ _ _ _ h_ => h_), (fun _ _ _ _ _ h_ => h_), (fun _ _ _ _ _ h_ => h_), (fun _ _ _ _ _ h_ => h_), (fun _ _ _ _ _ h_ => h_), (fun _ _ _ _ _ h_ => h_), (fun _ _ _ _ _ h_ => h_), (fun _ _ _ _ _ h_ => h_), (fun _ _ _ _ _ h_ => h_), (fun _ _ _ _ _ h_ => h_), (fun _ _ _ _ he_ h_ => by dsimp only at h_ ⊢; rw [← he_ 14 (by decide)]; exact h_), (fun _ _ _ _ he_ h_ => by dsimp only at h_ ⊢; rw [← he_ 14 (by decide)]; exact h_), trivial⟩ ?_ ?_
   ·skip
    refine ⟨fun a w vs97 hA hS hd => ?_, ?_⟩
    ·skip
     exact opG_of rfl (vv (op_field rfl fd_34_3 (hA.ev rfl)) (And.intro rfl rfl))
    refine ⟨fun a w vs97 hA hS hd => ?_, ?_⟩
    ·skip
     obtain ⟨e0, rs0, hy0, hp0⟩ := hd 0 (by decide)
     obtain ⟨hv0, hr0⟩ := hy0; subst hr0
     rw [hv0] at e0
     exact opG_of rfl (vv (op_load1 rfl ty_32 (tmp_ev (slot_ev e0 rfl)) (hS.bk 4 rfl) rfl) (And.intro rfl rfl))
    refine ⟨fun a w vs97 hA hS hd => ?_, ?_⟩
    ·skip
     exact opG_of rfl (vv (op_field rfl fd_26_3 (hA.ev rfl)) (And.intro rfl rfl))
    refine ⟨fun a w vs97 hA hS hd => ?_, ?_⟩
    ·skip
     obtain ⟨e2, rs2, hy2, hp2⟩ := hd 2 (by decide)
     obtain ⟨hv2, hr2⟩ := hy2; subst hr2
     rw [hv2] at e2
     exact opG_of rfl (vv (op_load1 rfl ty_24 (tmp_ev (slot_ev e2 rfl)) (hS.bk 6 rfl) rfl) (And.intro rfl rfl))
    refine ⟨fun a w vs97 hA hS hd => ?_, ?_⟩
    ·skip
     exact opG_of rfl (vv (op_move rfl (hA.ev rfl)) (And.intro rfl rfl))
    refine ⟨fun a w vs97 hA hS hd => ?_, ?_⟩
    ·skip
     obtain ⟨e3, rs3, hy3, hp3⟩ := hd 3 (by decide)
     obtain ⟨hv3, hr3⟩ := hy3; subst hr3
     rw [hv3] at e3
     obtain ⟨e4, rs4, hy4, hp4⟩ := hd 4 (by decide)
     obtain ⟨hv4, hr4⟩ := hy4; subst hr4
     rw [hv4] at e4
     exact opG_of rfl (vv (op_indexS rfl un_24 ty_62 (tmp_ev (slot_ev e3 rfl)) (i := k2) (tmp_ev (slot_ev e4 rfl)) (rnd_at (hS.ok 7 _ rfl)).labs (by decide) (by omega)) (And.intro rfl rfl))
    refine ⟨fun a w vs97 hA hS hd => ?_, ?_⟩
    ·skip
     obtain ⟨e5, rs5, hy5, hp5⟩ := hd 5 (by decide)
     obtain ⟨hv5, hr5⟩ := hy5; subst hr5
     rw [hv5] at e5
     exact opG_of rfl (vv (op_fieldS rfl fd_62_0 (tmp_ev (slot_ev e5 rfl)) (rnd_at (hS.ok 7 _ rfl)).labs (by rw [((rnd_at (hS.ok 7 _ rfl)).labs).1]; omega)) (And.intro rfl rfl))
    refine ⟨fun a w vs97 hA hS hd => ?_, ?_⟩
    ·skip
     obtain ⟨e6, rs6, hy6, hp6⟩ := hd 6 (by decide)
     obtain ⟨hv6, hr6⟩ := hy6; subst hr6
     rw [hv6] at e6
     exact opG_of rfl (vv (op_load1E rfl ty_3 (tmp_ev (slot_ev e6 rfl)) (rnd_at (hS.ok 7 _ rfl)).labs (labs_at0 (rnd_at (hS.ok 7 _ rfl)).lvl (by omega))) (And.intro rfl rfl))
    refine ⟨fun a w vs97 hA hS hd => ?_, ?_⟩
    ·skip
     exact opG_of rfl (vv (op_field rfl fd_26_3 (hA.ev rfl)) (And.intro rfl rfl))
    refine ⟨fun a w vs97 hA hS hd => ?_, ?_⟩
    ·skip
     obtain ⟨e8, rs8, hy8, hp8⟩ := hd 8 (by decide)
     obtain ⟨hv8, hr8⟩ := hy8; subst hr8
     rw [hv8] at e8
     exact opG_of rfl (vv (op_load1 rfl ty_24 (tmp_ev (slot_ev e8 rfl)) (hS.bk 6 rfl) rfl) (And.intro rfl rfl))
    refine ⟨fun a w vs97 hA hS hd => ?_, ?_⟩
    ·skip
     exact opG_of rfl (vv (op_move rfl (hA.ev rfl)) (And.intro rfl rfl))
    refine ⟨fun a w vs97 hA hS hd => ?_, ?_⟩
    ·skip
     obtain ⟨e9, rs9, hy9, hp9⟩ := hd 9 (by decide)
     obtain ⟨hv9, hr9⟩ := hy9; subst hr9
     rw [hv9] at e9
     obtain ⟨e10, rs10, hy10, hp10⟩ := hd 10 (by decide)
     obtain ⟨hv10, hr10⟩ := hy10; subst hr10
     rw [hv10] at e10
     exact opG_of rfl (vv (op_indexS rfl un_24 ty_62 (tmp_ev (slot_ev e9 rfl)) (i := k2) (tmp_ev (slot_ev e10 rfl)) (rnd_at (hS.ok 7 _ rfl)).labs (by decide) (by omega)) (And.intro rfl rfl))
    refine ⟨fun a w vs97 hA hS hd => ?_, ?_⟩
    ·skip
     obtain ⟨e11, rs11, hy11, hp11⟩ := hd 11 (by decide)
     obtain ⟨hv11, hr11⟩ := hy11; subst hr11
     rw [hv11] at e11
     exact opG_of rfl (vv (op_fieldS rfl fd_62_1 (tmp_ev (slot_ev e11 rfl)) (rnd_at (hS.ok 7 _ rfl)).labs (by rw [((rnd_at (hS.ok 7 _ rfl)).labs).1]; omega)) (And.intro rfl rfl))
    refine ⟨fun a w vs97 hA hS hd => ?_, ?_⟩
    ·skip
     obtain ⟨e12, rs12, hy12, hp12⟩ := hd 12 (by decide)
     obtain ⟨hv12, hr12⟩ := hy12; subst hr12
     rw [hv12] at e12
     exact opG_of rfl (vv (op_load1E rfl ty_23 (tmp_ev (slot_ev e12 rfl)) (rnd_at (hS.ok 7 _ rfl)).labs (labs_at1 (rnd_at (hS.ok 7 _ rfl)).lvl (by omega))) (And.intro rfl rfl))
    refine ⟨fun a w vs97 hA hS hd => ?_, ?_⟩
    ·skip
     obtain ⟨e13, rs13, hy13, hp13⟩ := hd 13 (by decide)
     obtain ⟨hv13, hr13⟩ := hy13; subst hr13
     rw [hv13] at e13
     exact opG_of rfl (vn (op_call rfl en_22 (ev1 (tmp_ev (slot_ev e13 rfl))) (list_ok (d.rds.getD k2 []) _ _ ((rnd_at (hS.ok 7 _ rfl)).rds k2 (by rw [(rnd_at (hS.ok 7 _ rfl)).rdl]; omega)) (by have := hth.2.2.2 k2 (by omega); omega))) (fun v w' h => ⟨_, And.intro trivial rfl, (Sep.start NoB _).new_row h.1 h.2, rfl⟩))
    refine ⟨fun a w vs97 hA hS hd => ?_, ?_⟩
    ·skip
     obtain ⟨e7, rs7, hy7, hp7⟩ := hd 7 (by decide)
     obtain ⟨hv7, hr7⟩ := hy7; subst hr7
     rw [hv7] at e7
     obtain ⟨e14, rs14, hy14, hp14⟩ := hd 14 (by decide)
     obtain ⟨hv14, hr14⟩ := hy14; subst hr14
     have hp14_0 := hp14 _ (List.mem_of_getElem? (i := 0) rfl)
     exact opG_of rfl (vv (op_build rfl (pv2 (tmp_ev (slot_ev e7 rfl)) (tmp_ev (slot_ev e14 rfl))) (bd_75_0i_1s _ _ (SlAt.isSl (SlAt.of_row hp14_0)))) (And.intro rfl rfl))
    refine ⟨fun a w vs97 hA hS hd => ?_, ?_⟩
    ·skip
     obtain ⟨e14, rs14, hy14, hp14⟩ := hd 14 (by decide)
     obtain ⟨hv14, hr14⟩ := hy14; subst hr14
     have hp14_0 := hp14 _ (List.mem_of_getElem? (i := 0) rfl)
     obtain ⟨e15, rs15, hy15, hp15⟩ := hd 15 (by decide)
     obtain ⟨hv15, hr15⟩ := hy15; subst hr15
     rw [hv15] at e15
     exact opG_of rfl (vblt rfl (pv1 (tmp_ev (slot_ev e15 rfl))) un_32 ty_75 ze_75 (by decide) (cs := [(Value.int .i64 (d.tols.getD k2 0)), (vs97 14)]) (bs_75_1_0iva _ _) rfl (by decide) (fun _ => And.intro trivial rfl))
    trivial
   intro a98 w99 vs97 rsf103 hA100 hH102 hS101; clear hA96 hS84
   obtain ⟨hs_0, hy_0⟩ := hH102 0 (by decide)
   obtain ⟨hv_0, hr_0⟩ := hy_0
   obtain ⟨hs_1, hy_1⟩ := hH102 1 (by decide)
   obtain ⟨hv_1, hr_1⟩ := hy_1
   obtain ⟨hs_2, hy_2⟩ := hH102 2 (by decide)
   obtain ⟨hv_2, hr_2⟩ := hy_2
   obtain ⟨hs_3, hy_3⟩ := hH102 3 (by decide)
   obtain ⟨hv_3, hr_3⟩ := hy_3
   obtain ⟨hs_4, hy_4⟩ := hH102 4 (by decide)
   obtain ⟨hv_4, hr_4⟩ := hy_4
   obtain ⟨hs_5, hy_5⟩ := hH102 5 (by decide)
   obtain ⟨hv_5, hr_5⟩ := hy_5
   obtain ⟨hs_6, hy_6⟩ := hH102 6 (by decide)
   obtain ⟨hv_6, hr_6⟩ := hy_6
   obtain ⟨hs_7, hy_7⟩ := hH102 7 (by decide)
   obtain ⟨hv_7, hr_7⟩ := hy_7
   obtain ⟨hs_8, hy_8⟩ := hH102 8 (by decide)
   obtain ⟨hv_8, hr_8⟩ := hy_8
   obtain ⟨hs_9, hy_9⟩ := hH102 9 (by decide)
   obtain ⟨hv_9, hr_9⟩ := hy_9
   obtain ⟨hs_10, hy_10⟩ := hH102 10 (by decide)
   obtain ⟨hv_10, hr_10⟩ := hy_10
   obtain ⟨hs_11, hy_11⟩ := hH102 11 (by decide)
   obtain ⟨hv_11, hr_11⟩ := hy_11
   obtain ⟨hs_12, hy_12⟩ := hH102 12 (by decide)
   obtain ⟨hv_12, hr_12⟩ := hy_12
   obtain ⟨hs_13, hy_13⟩ := hH102 13 (by decide)
   obtain ⟨hv_13, hr_13⟩ := hy_13
   obtain ⟨hs_14, hy_14⟩ := hH102 14 (by decide)
   obtain ⟨hv_14, hr_14⟩ := hy_14
   obtain ⟨hs_15, hy_15⟩ := hH102 15 (by decide)
   obtain ⟨hv_15, hr_15⟩ := hy_15
   obtain ⟨hs_16, hy_16⟩ := hH102 16 (by decide)
   obtain ⟨hv_16, hr_16⟩ := hy_16
   have hS104 : Sep NoB w w99 [(row (vs97 14) 3 1 ((d.rds.getD k2 []).length) (ints (d.rds.getD k2 []))), (row (vs97 16) 75 2 1 [(Value.int .i64 (d.tols.getD k2 0)), (vs97 14)]), (lstR lv_ (d.rds.take k2)), (row vb_ 75 2 ((d.tols.take k2).length) (vpairs ((d.tols.take k2).zip lv_))), (row vl_ 46 2 d.lots.length (pairs d.lots)), (row (vs12 2) 3 1 d.samples.length (ints d.samples)), (blk b6_ 34 [vl_, (vs12 2), (Value.int .i64 d.spread), vb_]), (blk b9 34 [(Value.slice none 0 0), (Value.slice none 0 0), (Value.int .i64 0), (Value.slice none 0 0)]), (blk b4 26 [rl, rs, (Value.int .i64 d.spread), rb]), (rndR false rl rs rb rlv d)] := by rw [show catR rsf103 0 17 = ([(row (vs97 14) 3 1 ((d.rds.getD k2 []).length) (ints (d.rds.getD k2 []))), (row (vs97 16) 75 2 1 [(Value.int .i64 (d.tols.getD k2 0)), (vs97 14)])] : List Res) by (try simp only [catR, hr_0, hr_1, hr_2, hr_3, hr_4, hr_5, hr_6, hr_7, hr_8, hr_9, hr_10, hr_11, hr_12, hr_13, hr_14, hr_15, hr_16]); (try rfl)] at hS101; exact hS101
   rw [hv_1] at hs_1
   have hA105 : Fr 64 [] [(45, vb_), (5, (Value.int .i64 (k2 : Int))), (3, (bptr b6_ 0)), (2, (bptr b9 0)), (1, (bptr b4 0))] a98 := hA100.add (slot_ev hs_1 rfl); clear hA100
   have hA106 : Fr 64 [] [(60, (vs97 16)), (45, vb_), (5, (Value.int .i64 (k2 : Int))), (3, (bptr b6_ 0)), (2, (bptr b9 0)), (1, (bptr b4 0))] a98 := hA105.add (slot_ev hs_16 rfl); clear hA105
   clear hH102 hS101 hs_0 hs_1 hs_2 hs_3 hs_4 hs_5 hs_6 hs_7 hs_8 hs_9 hs_10 hs_11 hs_12 hs_13 hs_14 hs_15 hs_16
   clear hr_0
   clear hv_0
   clear hr_1
   clear hv_1
   clear hr_2
   clear hv_2
   clear hr_3
   clear hv_3
   clear hr_4
   clear hv_4
   clear hr_5
   clear hv_5
   clear hr_6
   clear hv_6
   clear hr_7
   clear hv_7
   clear hr_8
   clear hv_8
   clear hr_9
   clear hv_9
   clear hr_10
   clear hv_10
   clear hr_11
   clear hv_11
   clear hr_12
   clear hv_12
   clear hr_13
   clear hv_13
   clear hr_14
   clear hv_14
   clear hr_15
   clear hv_15
   clear hr_16
   clear hv_16
   refine stw hA106 (op_append hS104 rfl un_32 el_75 (hA106.ev rfl) (hA106.ev rfl) (i := 3) rfl (SlAt.of_row (hS104.ok_row 1 rfl)) (all_c rfl (all_c (SlAt.one (SlAt.of_row (hS104.ok_row 0 rfl))) all_n)) (by simp only [maxLen]; omega) (by omega)) rfl rfl (by decide) ?_
   intro a107 v110 w109 hS111 hA108
   have hS112 := hS111.row_say (i := 3) rfl (n' := ((d.tols.take k2).length + 1)) (xs' := (vpairs (((d.tols.take k2).zip lv_) ++ [(d.tols.getD k2 0, (vs97 14))]))) rfl (by simp [vpairs]); clear hS111 hA106 hS104 a98
   refine st hA108 (op_field rfl fd_34_3 (hA108.ev rfl)) rfl rfl (by decide) fun a113 hA114 => ?_; clear hA108 a107
   refine sts hA114 (op_store hS112 rfl ty_32 (hA114.ev rfl) (hA114.ev rfl) (i := 6) rfl (vs := [v110]) (isSl_cells (SlAt.isSl (SlAt.of_row (hS112.ok_row 3 rfl)))) rfl (all_c (SlAt.one (SlAt.of_row (hS112.ok_row 3 rfl))) all_n) (Nat.le_of_ble_eq_true rfl)) rfl rfl ?_
   intro _ w115 hS116 hA117; clear hA114
   have hS118 : Sep NoB w w115 [(row (vs97 14) 3 1 ((d.rds.getD k2 []).length) (ints (d.rds.getD k2 []))), (row (vs97 16) 75 2 1 [(Value.int .i64 (d.tols.getD k2 0)), (vs97 14)]), (lstR lv_ (d.rds.take k2)), (row v110 75 2 ((d.tols.take k2).length + 1) (vpairs (((d.tols.take k2).zip lv_) ++ [(d.tols.getD k2 0, (vs97 14))]))), (row vl_ 46 2 d.lots.length (pairs d.lots)), (row (vs12 2) 3 1 d.samples.length (ints d.samples)), (blk b6_ 34 [vl_, (vs12 2), (Value.int .i64 d.spread), v110]), (blk b9 34 [(Value.slice none 0 0), (Value.slice none 0 0), (Value.int .i64 0), (Value.slice none 0 0)]), (blk b4 26 [rl, rs, (Value.int .i64 d.spread), rb]), (rndR false rl rs rb rlv d)] := hS116; clear hS116 hS112
   refine wl_nil ?_
   refine blk_n ?_
   refine then_n ?_
   refine c_region ?_
   refine st hA117 (op_move rfl (hA117.ev rfl)) rfl rfl (by decide) fun a119 hA120 => ?_; clear hA117 a113
   refine st hA120 (op_add rfl (hA120.ev rfl) (evc _ _) (by omega) (by omega)) rfl rfl (by decide) fun a121 hA122 => ?_; clear hA120 a119
   refine st hA122 (op_assign rfl (hA122.ev rfl)) rfl rfl (by decide) fun a123 hA124 => ?_; clear hA122 a121
   refine wl_nil ?_
   have hS125 : Sep NoB w w115 [(row (vs97 14) 3 1 ((d.rds.getD k2 []).length) (ints (d.rds.getD k2 []))), (lstR lv_ (d.rds.take k2)), (row (vs97 16) 75 2 1 [(Value.int .i64 (d.tols.getD k2 0)), (vs97 14)]), (row v110 75 2 ((d.tols.take k2).length + 1) (vpairs (((d.tols.take k2).zip lv_) ++ [(d.tols.getD k2 0, (vs97 14))]))), (row vl_ 46 2 d.lots.length (pairs d.lots)), (row (vs12 2) 3 1 d.samples.length (ints d.samples)), (blk b6_ 34 [vl_, (vs12 2), (Value.int .i64 d.spread), v110]), (blk b9 34 [(Value.slice none 0 0), (Value.slice none 0 0), (Value.int .i64 0), (Value.slice none 0 0)]), (blk b4 26 [rl, rs, (Value.int .i64 d.spread), rb]), (rndR false rl rs rb rlv d)] := hS118.keep [0, 2, 1, 3, 4, 5, 6, 7, 8, 9] (by decide) _ rfl rfl; clear hS118
   have hS126 := hS125.lst_snoc; clear hS125
   have hS127 : Sep NoB w w115 [(lstR (lv_ ++ [(vs97 14)]) (d.rds.take k2 ++ [(d.rds.getD k2 [])])), (row v110 75 2 ((d.tols.take k2).length + 1) (vpairs (((d.tols.take k2).zip lv_) ++ [(d.tols.getD k2 0, (vs97 14))]))), (row vl_ 46 2 d.lots.length (pairs d.lots)), (row (vs12 2) 3 1 d.samples.length (ints d.samples)), (blk b6_ 34 [vl_, (vs12 2), (Value.int .i64 d.spread), v110]), (blk b9 34 [(Value.slice none 0 0), (Value.slice none 0 0), (Value.int .i64 0), (Value.slice none 0 0)]), (blk b4 26 [rl, rs, (Value.int .i64 d.spread), rb]), (rndR false rl rs rb rlv d)] := hS126.keep [0, 2, 3, 4, 5, 6, 7, 8] (by decide) _ rfl rfl; clear hS126
   exact then_n ⟨k2 + 1, ⟨v110, (lv_ ++ [(vs97 14)]), hA124.as _ rfl, ((hS127.row_say (i := 1) rfl (by rw [take_snocL d.tols _ 0 (by omega)]; simp) (by rw [take_snocL d.tols _ 0 (by omega), zip_snoc (by omega)])).lst_say (i := 0) rfl (by rw [take_snocL d.rds _ [] (by rw [hR.rdl]; omega)])), by omega⟩, by omega⟩
  ·skip
   rw [decide_eq_false hb95] at hA94
   refine c_false hA94 rfl ?_
   refine c_exit ?_
   refine then_exit ?_
   refine then_exit ?_
   refine blk_hit ?_
   refine then_n ?_
   refine c_seq ?_
   have hA128 := hA94.as [(3, (bptr b6_ 0)), (2, (bptr b9 0))] rfl; clear hA94
   refine c_region ?_
   refine st hA128 (op_loadA rfl ty_34 (hA128.ev rfl) (hS84.bk 4 rfl) (l := [vl_, (vs12 2), (Value.int .i64 d.spread), vb_]) rfl rfl) rfl rfl (by decide) fun a129 hA130 => ?_; clear hA128 a93
   refine sts hA130 (op_store hS84 rfl ty_34 (hA130.ev rfl) (hA130.ev rfl) (i := 5) rfl (vs := [vl_, (vs12 2), (Value.int .i64 d.spread), vb_]) rfl rfl (all_c (SlAt.one (SlAt.of_row (hS84.ok_row 2 rfl))) (all_c (SlAt.one (SlAt.of_row (hS84.ok_row 3 rfl))) (all_c rfl (all_c (SlAt.one (SlAt.of_row (hS84.ok_row 1 rfl))) all_n)))) (Nat.le_of_ble_eq_true rfl)) rfl rfl ?_
   intro _ w131 hS132 hA133; clear hA130
   have hS134 : Sep NoB w w131 [(lstR lv_ (d.rds.take k2)), (row vb_ 75 2 ((d.tols.take k2).length) (vpairs ((d.tols.take k2).zip lv_))), (row vl_ 46 2 d.lots.length (pairs d.lots)), (row (vs12 2) 3 1 d.samples.length (ints d.samples)), (blk b6_ 34 [vl_, (vs12 2), (Value.int .i64 d.spread), vb_]), (blk b9 34 [vl_, (vs12 2), (Value.int .i64 d.spread), vb_]), (blk b4 26 [rl, rs, (Value.int .i64 d.spread), rb]), (rndR false rl rs rb rlv d)] := hS132; clear hS132 hS84
   refine wl_nil ?_
   refine then_n ?_
   refine c_ret ?_
   refine fin_run hA133 (.inl rfl) (run_results1 hA133 rfl (.cellA rfl ty_34 (hS134.bk 5 rfl) (l := [vl_, (vs12 2), (Value.int .i64 d.spread), vb_]) rfl rfl)) ?_
   have hS135 : Sep NoB w w131 [(row vl_ 46 2 d.lots.length (pairs d.lots)), (row (vs12 2) 3 1 d.samples.length (ints d.samples)), (row vb_ 75 2 ((d.tols.take k2).length) (vpairs ((d.tols.take k2).zip lv_))), (lstR lv_ (d.rds.take k2))] := hS134.keep [2, 3, 1, 0] (by decide) _ rfl rfl; clear hS134
   have ht1 : d.tols.take k2 = d.tols := List.take_of_length_le (by omega)
   have ht2 : d.rds.take k2 = d.rds := List.take_of_length_le (by rw [hR.rdl]; omega)
   rw [ht1, ht2] at hS135
   rw [ht2] at hol
   exact ⟨_, _, _, _, rfl, rnd_join (by rw [hol, hR.rdl]) hR.rdl hS135⟩

end Go.Proofs.Ytfhmigoddaaljaa
