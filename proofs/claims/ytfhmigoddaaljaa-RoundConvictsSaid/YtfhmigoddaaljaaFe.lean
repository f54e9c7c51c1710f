/-
  Walks through the functions of the seat, printed by a program of ours (gowalk), a theorem a function: what the call returns and what it leaves in memory.
-/
import Derived.Test.YtfhmigoddaaljaaFd
set_option linter.unusedSimpArgs false
set_option linter.unusedVariables false
namespace Go.Proofs.Ytfhmigoddaaljaa
open Go.RowKit Go.Shelf Go.Eng
theorem Few_ok (rl rs rb : Value) (rlv : List Value) (d : RD) (w : World) (hR : RoundAt w rl rs rb rlv d) :
  Calls Try.prog 17 #[(Value.agg #[rl, rs, (Value.int .i64 d.spread), rb])] w (Ret fun v w' => v = .bool (fewB d) ∧ Ext NoB w w') := by
 refine calls_enter Try.func17 rfl fun a0 hA0 => ?_
 replace hA0 : Fr 47 [] [(0, (Value.agg #[rl, rs, (Value.int .i64 d.spread), rb]))] a0 := hA0
 have hS0 : Sep NoB w w [(rndR false rl rs rb rlv d)] := sep_ro ⟨rfl, hR, trivial⟩
 refine c_seq ?_
 refine c_region ?_
 refine stw hA0 (op_box hS0 rfl (hA0.ev rfl) (cs := [rl, rs, (Value.int .i64 d.spread), rb]) rfl) rfl rfl (by decide) ?_
 rintro a1 _ w3 ⟨b4, rfl, hS5⟩ hA2; clear hA0 hS0 a0
 refine st hA2 (op_assign rfl (evc _ _)) rfl rfl (by decide) fun a6 hA7 => ?_; clear hA2 a1
 refine wl_nil ?_
 refine then_n ?_
 refine c_seq ?_
 refine c_seq ?_
 refine c_region ?_
 refine st hA7 (op_loadA rfl ty_26 (hA7.ev rfl) (hS5.bk 0 rfl) (l := [rl, rs, (Value.int .i64 d.spread), rb]) rfl rfl) rfl rfl (by decide) fun a8 hA9 => ?_; clear hA7 a6
 refine stw hA9 (op_call rfl en_42 (ev1 (hA9.ev rfl)) (Thin_ok rl rs rb rlv d _ (rnd_at (hS5.ok 1 _ rfl)))) rfl rfl (by decide) ?_
 rintro a10 _ w12 ⟨rfl, hE13⟩ hA11; have hS14 := hS5.step hE13; clear hE13 hA9 hS5 a8
 refine st hA11 (op_not rfl (hA11.ev rfl)) rfl rfl (by decide) fun a15 hA16 => ?_; clear hA11 a10
 refine wl_nil ?_
 refine then_n ?_
 rcases Bool.eq_false_or_eq_true ((thinB d)) with hb17 | hb17
 ·skip
  rw [hb17] at hA16
  refine c_false hA16 rfl ?_
  refine c_skip ?_
  refine then_n ?_
  refine c_seq ?_
  refine c_region ?_
  refine st hA16 (op_assign rfl (evc _ _)) rfl rfl (by decide) fun a18 hA19 => ?_; clear hA16 a15
  refine wl_nil ?_
  refine then_n ?_
  refine c_seq ?_
  refine c_seq ?_
  refine c_region ?_
  refine st hA19 (op_assign rfl (evc _ _)) rfl rfl (by decide) fun a20 hA21 => ?_; clear hA19 a18
  refine wl_nil ?_
  refine then_n ?_
  refine c_block ?_
  have hA22 := hA21.as [(4, (Value.int .i64 0)), (3, (Value.int .i64 0)), (1, (bptr b4 0))] rfl; clear hA21
  refine c_loop (G := Nat) (fun (k : Nat) a_ w_ => Fr 47 [] [(4, (Value.int .i64 (k : Int))), (3, (Value.int .i64 (wideUpto d k))), (1, (bptr b4 0))] a_ ∧ Sep NoB w w_ [(blk b4 26 [rl, rs, (Value.int .i64 d.spread), rb]), (rndR false rl rs rb rlv d)] ∧ (k ≤ d.lots.length) ∧ (k = 0 ∨ checkR d = 0)) (fun k => d.lots.length - k) 0 ⟨hA22.as _ rfl, hS14, by omega, .inl rfl⟩ ?_
  clear hA22 hS14 a20
  rintro k a23 w25 ⟨hA24, hS26, hk, hk0⟩
  have hthin := thin_of (d := d) (by assumption)
  refine c_seq ?_
  refine c_seq ?_
  refine c_region ?_
  refine st hA24 (op_move rfl (hA24.ev rfl)) rfl rfl (by decide) fun a27 hA28 => ?_; clear hA24 a23
  refine st hA28 (op_field rfl fd_26_0 (hA28.ev rfl)) rfl rfl (by decide) fun a29 hA30 => ?_; clear hA28 a27
  refine st hA30 (op_load1 rfl ty_22 (hA30.ev rfl) (hS26.bk 0 rfl) rfl) rfl rfl (by decide) fun a31 hA32 => ?_; clear hA30 a29
  refine st hA32 (op_lenS rfl un_22 (hA32.ev rfl) (rnd_at (hS26.ok 1 _ rfl)).lots) rfl rfl (by decide) fun a33 hA34 => ?_; clear hA32 a31
  refine st hA34 (op_lss rfl (hA34.ev rfl) (hA34.ev rfl)) rfl rfl (by decide) fun a35 hA36 => ?_; clear hA34 a33
  refine st hA36 (op_move rfl (hA36.ev rfl)) rfl rfl (by decide) fun a37 hA38 => ?_; clear hA36 a35
  by_cases hb39 : (k : Int) < (d.lots.length : Int)
  ·skip
   rw [decide_eq_true hb39] at hA38
   refine stg hA38 (op_loadA rfl ty_26 (hA38.ev rfl) (hS26.bk 0 rfl) (l := [rl, rs, (Value.int .i64 d.spread), rb]) rfl rfl) rfl rfl rfl rfl (by decide) fun a40 hA41 => ?_; clear hA38 a37
   refine stwg hA41 (op_call rfl en_28 (ev1 (hA41.ev rfl)) (Fault_ok rl rs rb rlv d _ (rnd_at (hS26.ok 1 _ rfl)))) rfl rfl rfl rfl (by decide) ?_
   rintro a42 _ w44 ⟨rfl, hE45⟩ hA43; have hS46 := hS26.step hE45; clear hE45 hA41 hS26 a40
   refine stg hA43 (op_eql rfl (hA43.ev rfl) (evc _ _)) rfl rfl rfl rfl (by decide) fun a47 hA48 => ?_; clear hA43 a42
   refine st hA48 (op_pick_t rfl (hA48.ev rfl) (hA48.ev rfl)) rfl rfl (by decide) fun a49 hA50 => ?_; clear hA48 a47
   refine wl_nil ?_
   refine then_n ?_
   by_cases hb51 : (checkR d) = 0
   ·skip
    rw [decide_eq_true hb51] at hA50
    have hVd := valid_of (d := d) (by assumption); have hwd := wideUpto_bd hVd k (by omega); have hsp := hVd.spread; try have hlk := hVd.lots k (by omega)
    refine c_true hA50 rfl ?_
    refine c_skip ?_
    refine then_n ?_
    refine c_seq ?_
    refine c_block ?_
    have hA52 := hA50.as [(4, (Value.int .i64 (k : Int))), (3, (Value.int .i64 (wideUpto d k))), (1, (bptr b4 0))] rfl; clear hA50
    have hA53 := hA52.as [(4, (Value.int .i64 (k : Int))), (3, (Value.int .i64 (wideUpto d k))), (1, (bptr b4 0))] rfl; clear hA52
    refine c_drawV mixed hA53 hS46 14 [[], [], [1], [], [2, 3], [4], [5], [], [7], [], [8, 9], [10], [11], [6, 12]] [(fun (vs54 : Nat → Value) (v_ : Value) (rs_ : List Res) => v_ = (Value.int .i64 (wideUpto d k)) ∧ rs_ = []), (fun (vs54 : Nat → Value) (v_ : Value) (rs_ : List Res) => v_ = (bptr b4 0) ∧ rs_ = []), (fun (vs54 : Nat → Value) (v_ : Value) (rs_ : List Res) => v_ = rl ∧ rs_ = []), (fun (vs54 : Nat → Value) (v_ : Value) (rs_ : List Res) => v_ = (Value.int .i64 (k : Int)) ∧ rs_ = []), (fun (vs54 : Nat → Value) (v_ : Value) (rs_ : List Res) => v_ = (eptr rl (k * 2)) ∧ rs_ = []), (fun (vs54 : Nat → Value) (v_ : Value) (rs_ : List Res) => v_ = (eptr rl (k * 2 + 1)) ∧ rs_ = []), (fun (vs54 : Nat → Value) (v_ : Value) (rs_ : List Res) => v_ = (Value.int .i64 ((d.lots.getD k (0, 0)).2)) ∧ rs_ = []), (fun (vs54 : Nat → Value) (v_ : Value) (rs_ : List Res) => v_ = (bptr b4 0) ∧ rs_ = []), (fun (vs54 : Nat → Value) (v_ : Value) (rs_ : List Res) => v_ = rl ∧ rs_ = []), (fun (vs54 : Nat → Value) (v_ : Value) (rs_ : List Res) => v_ = (Value.int .i64 (k : Int)) ∧ rs_ = []), (fun (vs54 : Nat → Value) (v_ : Value) (rs_ : List Res) => v_ = (eptr rl (k * 2)) ∧ rs_ = []), (fun (vs54 : Nat → Value) (v_ : Value) (rs_ : List Res) => v_ = (eptr rl (k * 2 + 0)) ∧ rs_ = []), (fun (vs54 : Nat → Value) (v_ : Value) (rs_ : List Res) => v_ = (Value.int .i64 ((d.lots.getD k (0, 0)).1)) ∧ rs_ = []), (fun (vs54 : Nat → Value) (v_ : Value) (rs_ : List Res) => v_ = (Value.int .i64 (((d.lots.getD k (0, 0)).2) - ((d.lots.getD k (0, 0)).1))) ∧ rs_ = [])] (by decide +kernel) (by decide +kernel) rfl rfl ⟨(fun _ _ _ _ _ h_ => h_), (fun _ _ _ _ _ h_ => h_), (fun _ _ _ _ _ h_ => h_), (fun _ _ _ _ _ h_ => h_), (fun _ _ _ _ _ h_ => h_), (fun _ _ _ _ _ h_ => h_), (fun _ _ _ _ _ h_ => h_), (fun _ _ _ _ _ h_ => h_), (fun _ _ _ _ _ h_ => h_), (fun _ _ _ _ _ h_ => h_), (fun _ _ _ _ _ h_ => h_), (fun _ _ _ _ _ h_ => h_), (fun _ _ _ _ _ h_ => h_), (fun _ _ _ _ _ h_ => h_), trivial⟩ ?_ ?_
    ·skip
     refine ⟨fun a w vs54 hA hS hd => ?_, ?_⟩
     ·skip
      exact opG_of rfl (vv (op_move rfl (hA.ev rfl)) (And.intro rfl rfl))
     refine ⟨fun a w vs54 hA hS hd => ?_, ?_⟩
     ·skip
      exact opG_of rfl (vv (op_field rfl fd_26_0 (hA.ev rfl)) (And.intro rfl rfl))
     refine ⟨fun a w vs54 hA hS hd => ?_, ?_⟩
     ·skip
      obtain ⟨e1, rs1, hy1, hp1⟩ := hd 1 (by decide)
      obtain ⟨hv1, hr1⟩ := hy1; subst hr1
      rw [hv1] at e1
      exact opG_of rfl (vv (op_load1 rfl ty_22 (tmp_ev (slot_ev e1 rfl)) (hS.bk 0 rfl) rfl) (And.intro rfl rfl))
     refine ⟨fun a w vs54 hA hS hd => ?_, ?_⟩
     ·skip
      exact opG_of rfl (vv (op_move rfl (hA.ev rfl)) (And.intro rfl rfl))
     refine ⟨fun a w vs54 hA hS hd => ?_, ?_⟩
     ·skip
      obtain ⟨e2, rs2, hy2, hp2⟩ := hd 2 (by decide)
      obtain ⟨hv2, hr2⟩ := hy2; subst hr2
      rw [hv2] at e2
      obtain ⟨e3, rs3, hy3, hp3⟩ := hd 3 (by decide)
      obtain ⟨hv3, hr3⟩ := hy3; subst hr3
      rw [hv3] at e3
      exact opG_of rfl (vv (op_indexS rfl un_22 ty_44 (tmp_ev (slot_ev e2 rfl)) (i := k) (tmp_ev (slot_ev e3 rfl)) (rnd_at (hS.ok 1 _ rfl)).lots (by decide) (by omega)) (And.intro rfl rfl))
     refine ⟨fun a w vs54 hA hS hd => ?_, ?_⟩
     ·skip
      obtain ⟨e4, rs4, hy4, hp4⟩ := hd 4 (by decide)
      obtain ⟨hv4, hr4⟩ := hy4; subst hr4
      rw [hv4] at e4
      exact opG_of rfl (vv (op_fieldS rfl fd_44_1 (tmp_ev (slot_ev e4 rfl)) (rnd_at (hS.ok 1 _ rfl)).lots (by rw [((rnd_at (hS.ok 1 _ rfl)).lots).1]; omega)) (And.intro rfl rfl))
     refine ⟨fun a w vs54 hA hS hd => ?_, ?_⟩
     ·skip
      obtain ⟨e5, rs5, hy5, hp5⟩ := hd 5 (by decide)
      obtain ⟨hv5, hr5⟩ := hy5; subst hr5
      rw [hv5] at e5
      exact opG_of rfl (vv (op_load1E rfl ty_3 (tmp_ev (slot_ev e5 rfl)) (rnd_at (hS.ok 1 _ rfl)).lots (pairs_at1 (by omega))) (And.intro rfl rfl))
     refine ⟨fun a w vs54 hA hS hd => ?_, ?_⟩
     ·skip
      exact opG_of rfl (vv (op_field rfl fd_26_0 (hA.ev rfl)) (And.intro rfl rfl))
     refine ⟨fun a w vs54 hA hS hd => ?_, ?_⟩
     ·skip
      obtain ⟨e7, rs7, hy7, hp7⟩ := hd 7 (by decide)
      obtain ⟨hv7, hr7⟩ := hy7; subst hr7
      rw [hv7] at e7
      exact opG_of rfl (vv (op_load1 rfl ty_22 (tmp_ev (slot_ev e7 rfl)) (hS.bk 0 rfl) rfl) (And.intro rfl rfl))
     refine ⟨fun a w vs54 hA hS hd => ?_, ?_⟩
     ·skip
      exact opG_of rfl (vv (op_move rfl (hA.ev rfl)) (And.intro rfl rfl))
     refine ⟨fun a w vs54 hA hS hd => ?_, ?_⟩
     ·skip
      obtain ⟨e8, rs8, hy8, hp8⟩ := hd 8 (by decide)
      obtain ⟨hv8, hr8⟩ := hy8; subst hr8
      rw [hv8] at e8
      obtain ⟨e9, rs9, hy9, hp9⟩ := hd 9 (by decide)
      obtain ⟨hv9, hr9⟩ := hy9; subst hr9
      rw [hv9] at e9
      exact opG_of rfl (vv (op_indexS rfl un_22 ty_44 (tmp_ev (slot_ev e8 rfl)) (i := k) (tmp_ev (slot_ev e9 rfl)) (rnd_at (hS.ok 1 _ rfl)).lots (by decide) (by omega)) (And.intro rfl rfl))
     refine ⟨fun a w vs54 hA hS hd => ?_, ?_⟩
     ·skip
      obtain ⟨e10, rs10, hy10, hp10⟩ := hd 10 (by decide)
      obtain ⟨hv10, hr10⟩ := hy10; subst hr10
      rw [hv10] at e10
      exact opG_of rfl (vv (op_fieldS rfl fd_44_0 (tmp_ev (slot_ev e10 rfl)) (rnd_at (hS.ok 1 _ rfl)).lots (by rw [((rnd_at (hS.ok 1 _ rfl)).lots).1]; omega)) (And.intro rfl rfl))
     refine ⟨fun a w vs54 hA hS hd => ?_, ?_⟩
     ·skip
      obtain ⟨e11, rs11, hy11, hp11⟩ := hd 11 (by decide)
      obtain ⟨hv11, hr11⟩ := hy11; subst hr11
      rw [hv11] at e11
      exact opG_of rfl (vv (op_load1E rfl ty_3 (tmp_ev (slot_ev e11 rfl)) (rnd_at (hS.ok 1 _ rfl)).lots (pairs_at0 (by omega))) (And.intro rfl rfl))
     refine ⟨fun a w vs54 hA hS hd => ?_, ?_⟩
     ·skip
      obtain ⟨e6, rs6, hy6, hp6⟩ := hd 6 (by decide)
      obtain ⟨hv6, hr6⟩ := hy6; subst hr6
      rw [hv6] at e6
      obtain ⟨e12, rs12, hy12, hp12⟩ := hd 12 (by decide)
      obtain ⟨hv12, hr12⟩ := hy12; subst hr12
      rw [hv12] at e12
      exact opG_of rfl (vv (op_sub rfl (tmp_ev (slot_ev e6 rfl)) (tmp_ev (slot_ev e12 rfl)) (by omega) (by omega)) (And.intro rfl rfl))
     trivial
    intro a55 w56 vs54 rsf60 hA57 hH59 hS58; clear hA53 hS46
    obtain ⟨hs_0, hy_0⟩ := hH59 0 (by decide)
    obtain ⟨hv_0, hr_0⟩ := hy_0
    obtain ⟨hs_1, hy_1⟩ := hH59 1 (by decide)
    obtain ⟨hv_1, hr_1⟩ := hy_1
    obtain ⟨hs_2, hy_2⟩ := hH59 2 (by decide)
    obtain ⟨hv_2, hr_2⟩ := hy_2
    obtain ⟨hs_3, hy_3⟩ := hH59 3 (by decide)
    obtain ⟨hv_3, hr_3⟩ := hy_3
    obtain ⟨hs_4, hy_4⟩ := hH59 4 (by decide)
    obtain ⟨hv_4, hr_4⟩ := hy_4
    obtain ⟨hs_5, hy_5⟩ := hH59 5 (by decide)
    obtain ⟨hv_5, hr_5⟩ := hy_5
    obtain ⟨hs_6, hy_6⟩ := hH59 6 (by decide)
    obtain ⟨hv_6, hr_6⟩ := hy_6
    obtain ⟨hs_7, hy_7⟩ := hH59 7 (by decide)
    obtain ⟨hv_7, hr_7⟩ := hy_7
    obtain ⟨hs_8, hy_8⟩ := hH59 8 (by decide)
    obtain ⟨hv_8, hr_8⟩ := hy_8
    obtain ⟨hs_9, hy_9⟩ := hH59 9 (by decide)
    obtain ⟨hv_9, hr_9⟩ := hy_9
    obtain ⟨hs_10, hy_10⟩ := hH59 10 (by decide)
    obtain ⟨hv_10, hr_10⟩ := hy_10
    obtain ⟨hs_11, hy_11⟩ := hH59 11 (by decide)
    obtain ⟨hv_11, hr_11⟩ := hy_11
    obtain ⟨hs_12, hy_12⟩ := hH59 12 (by decide)
    obtain ⟨hv_12, hr_12⟩ := hy_12
    obtain ⟨hs_13, hy_13⟩ := hH59 13 (by decide)
    obtain ⟨hv_13, hr_13⟩ := hy_13
    have hS61 : Sep NoB w w56 [(blk b4 26 [rl, rs, (Value.int .i64 d.spread), rb]), (rndR false rl rs rb rlv d)] := by rw [show catR rsf60 0 14 = ([] : List Res) by (try simp only [catR, hr_0, hr_1, hr_2, hr_3, hr_4, hr_5, hr_6, hr_7, hr_8, hr_9, hr_10, hr_11, hr_12, hr_13]); (try rfl)] at hS58; exact hS58
    rw [hv_0] at hs_0
    have hA62 : Fr 47 [] [(20, (Value.int .i64 (wideUpto d k))), (4, (Value.int .i64 (k : Int))), (3, (Value.int .i64 (wideUpto d k))), (1, (bptr b4 0))] a55 := hA57.add (slot_ev hs_0 rfl); clear hA57
    rw [hv_13] at hs_13
    have hA63 : Fr 47 [] [(33, (Value.int .i64 (((d.lots.getD k (0, 0)).2) - ((d.lots.getD k (0, 0)).1)))), (20, (Value.int .i64 (wideUpto d k))), (4, (Value.int .i64 (k : Int))), (3, (Value.int .i64 (wideUpto d k))), (1, (bptr b4 0))] a55 := hA62.add (slot_ev hs_13 rfl); clear hA62
    clear hH59 hS58 hs_0 hs_1 hs_2 hs_3 hs_4 hs_5 hs_6 hs_7 hs_8 hs_9 hs_10 hs_11 hs_12 hs_13
    clear hr_0
    clear hv_0
    clear hr_1
    clear hv_1
    clear hr_2
    clear hv_2
    clear hr_3
    clear hv_3
    clear hr_4
    clear hv_4
    clear hr_5
    clear hv_5
    clear hr_6
    clear hv_6
    clear hr_7
    clear hv_7
    clear hr_8
    clear hv_8
    clear hr_9
    clear hv_9
    clear hr_10
    clear hv_10
    clear hr_11
    clear hv_11
    clear hr_12
    clear hv_12
    clear hr_13
    clear hv_13
    refine st hA63 (op_add rfl (hA63.ev rfl) (hA63.ev rfl) (by omega) (by omega)) rfl rfl (by decide) fun a64 hA65 => ?_; clear hA63 a55
    refine st hA65 (op_assign rfl (hA65.ev rfl)) rfl rfl (by decide) fun a66 hA67 => ?_; clear hA65 a64
    refine wl_nil ?_
    refine blk_n ?_
    refine then_n ?_
    refine c_region ?_
    refine st hA67 (op_move rfl (hA67.ev rfl)) rfl rfl (by decide) fun a68 hA69 => ?_; clear hA67 a66
    refine st hA69 (op_add rfl (hA69.ev rfl) (evc _ _) (by omega) (by omega)) rfl rfl (by decide) fun a70 hA71 => ?_; clear hA69 a68
    refine st hA71 (op_assign rfl (hA71.ev rfl)) rfl rfl (by decide) fun a72 hA73 => ?_; clear hA71 a70
    refine wl_nil ?_
    exact then_n ⟨k + 1, ⟨hA73.as _ rfl, hS61, by omega, .inr (by assumption)⟩, by omega⟩
   ·skip
    rw [decide_eq_false hb51] at hA50
    refine c_false hA50 rfl ?_
    refine c_exit ?_
    refine then_exit ?_
    refine then_exit ?_
    refine blk_hit ?_
    refine then_n ?_
    refine c_seq ?_
    have hA74 := hA50.as [(3, (Value.int .i64 (wideUpto d k))), (1, (bptr b4 0))] rfl; clear hA50
    refine c_region ?_
    refine st hA74 (op_loadA rfl ty_26 (hA74.ev rfl) (hS46.bk 0 rfl) (l := [rl, rs, (Value.int .i64 d.spread), rb]) rfl rfl) rfl rfl (by decide) fun a75 hA76 => ?_; clear hA74 a49
    refine stw hA76 (op_call rfl en_28 (ev1 (hA76.ev rfl)) (Fault_ok rl rs rb rlv d _ (rnd_at (hS46.ok 1 _ rfl)))) rfl rfl (by decide) ?_
    rintro a77 _ w79 ⟨rfl, hE80⟩ hA78; have hS81 := hS46.step hE80; clear hE80 hA76 hS46 a75
    refine st hA78 (op_neq rfl (hA78.ev rfl) (evc _ _)) rfl rfl (by decide) fun a82 hA83 => ?_; clear hA78 a77
    rw [decide_eq_false hb51] at hA83
    refine st hA83 (op_move rfl (hA83.ev rfl)) rfl rfl (by decide) fun a84 hA85 => ?_; clear hA83 a82
    refine skp hA85 rfl rfl rfl rfl rfl (by decide) fun a86 hA87 => ?_; clear hA85 a84
    refine skp hA87 rfl rfl rfl rfl rfl (by decide) fun a88 hA89 => ?_; clear hA87 a86
    refine skp hA89 rfl rfl rfl rfl rfl (by decide) fun a90 hA91 => ?_; clear hA89 a88
    refine skpU hA91 rfl rfl rfl rfl (by decide) fun a92 hA93 => ?_; clear hA91 a90
    refine skpU hA93 rfl rfl rfl rfl (by decide) fun a94 hA95 => ?_; clear hA93 a92
    refine skpU hA95 rfl rfl rfl rfl (by decide) fun a96 hA97 => ?_; clear hA95 a94
    refine skp hA97 rfl rfl rfl rfl rfl (by decide) fun a98 hA99 => ?_; clear hA97 a96
    refine st hA99 (op_pick_t rfl (hA99.ev rfl) (evc _ _)) rfl rfl (by decide) fun a100 hA101 => ?_; clear hA99 a98
    refine st hA101 (op_assign rfl (hA101.ev rfl)) rfl rfl (by decide) fun a102 hA103 => ?_; clear hA101 a100
    refine wl_nil ?_
    refine then_n ?_
    refine c_ret ?_
    refine fin_run hA103 (.inl rfl) (run_results1 hA103 rfl (.tmp rfl)) ?_
    exact ⟨congrArg Value.bool (by first | (unfold fewB; rw [‹thinB d = false›]; rfl) | (unfold fewB; rw [‹thinB d = true›, decide_eq_false (show ¬ checkR d = 0 by assumption)]; rfl) | (unfold fewB; rw [‹thinB d = true›, decide_eq_true (show checkR d = 0 by assumption), show d.lots.length = k by omega]; (rw [Bool.eq_iff_iff]; (try simp only [Bool.true_and, Bool.false_and, Bool.and_true, Bool.and_false, Bool.false_or, Bool.true_or, Bool.or_false, Bool.or_true, true_and, and_true, false_and, and_false, false_or, or_false, true_or, or_true, Bool.and_eq_true, Bool.or_eq_true, Bool.not_eq_true', decide_eq_true_eq, decide_eq_false_iff_not, Bool.false_eq_true, Bool.true_eq_false, Bool.not_true, Bool.not_false, eq_self_iff_true, true_iff, false_iff, iff_true, iff_false, not_true, not_false_eq_true]); omega))), hS81.ext⟩
  ·skip
   rw [decide_eq_false hb39] at hA38
   refine skp hA38 rfl rfl rfl rfl rfl (by decide) fun a104 hA105 => ?_; clear hA38 a37
   refine skp hA105 rfl rfl rfl rfl rfl (by decide) fun a106 hA107 => ?_; clear hA105 a104
   refine skp hA107 rfl rfl rfl rfl rfl (by decide) fun a108 hA109 => ?_; clear hA107 a106
   refine st hA109 (op_pick_f rfl (hA109.ev rfl) (evc _ _)) rfl rfl (by decide) fun a110 hA111 => ?_; clear hA109 a108
   refine wl_nil ?_
   refine then_n ?_
   refine c_false hA111 rfl ?_
   refine c_exit ?_
   refine then_exit ?_
   refine then_exit ?_
   refine blk_hit ?_
   refine then_n ?_
   refine c_seq ?_
   have hA112 := hA111.as [(3, (Value.int .i64 (wideUpto d k))), (1, (bptr b4 0))] rfl; clear hA111
   refine c_region ?_
   refine st hA112 (op_loadA rfl ty_26 (hA112.ev rfl) (hS26.bk 0 rfl) (l := [rl, rs, (Value.int .i64 d.spread), rb]) rfl rfl) rfl rfl (by decide) fun a113 hA114 => ?_; clear hA112 a110
   refine stw hA114 (op_call rfl en_28 (ev1 (hA114.ev rfl)) (Fault_ok rl rs rb rlv d _ (rnd_at (hS26.ok 1 _ rfl)))) rfl rfl (by decide) ?_
   rintro a115 _ w117 ⟨rfl, hE118⟩ hA116; have hS119 := hS26.step hE118; clear hE118 hA114 hS26 a113
   refine st hA116 (op_neq rfl (hA116.ev rfl) (evc _ _)) rfl rfl (by decide) fun a120 hA121 => ?_; clear hA116 a115
   refine st hA121 (op_move rfl (hA121.ev rfl)) rfl rfl (by decide) fun a122 hA123 => ?_; clear hA121 a120
   by_cases hb124 : (checkR d) = 0
   ·skip
    rw [decide_eq_true hb124] at hA123
    have hVd := valid_of (d := d) (by assumption); have hwd := wideUpto_bd hVd k (by omega); have hsp := hVd.spread; try have hlk := hVd.lots k (by omega)
    refine stg hA123 (op_move rfl (hA123.ev rfl)) rfl rfl rfl rfl (by decide) fun a125 hA126 => ?_; clear hA123 a122
    refine stg hA126 (op_leq rfl (hA126.ev rfl) (evc _ _)) rfl rfl rfl rfl (by decide) fun a127 hA128 => ?_; clear hA126 a125
    refine stg hA128 (op_move rfl (hA128.ev rfl)) rfl rfl rfl rfl (by decide) fun a129 hA130 => ?_; clear hA128 a127
    by_cases hb131 : (wideUpto d k) ≤ 60
    ·skip
     rw [decide_eq_true hb131] at hA130
     refine stg hA130 (op_field rfl fd_26_2 (hA130.ev rfl)) rfl rfl rfl rfl (by decide) fun a132 hA133 => ?_; clear hA130 a129
     refine stg hA133 (op_load1 rfl ty_3 (hA133.ev rfl) (hS119.bk 0 rfl) rfl) rfl rfl rfl rfl (by decide) fun a134 hA135 => ?_; clear hA133 a132
     refine stg hA135 (op_leq rfl (hA135.ev rfl) (evc _ _)) rfl rfl rfl rfl (by decide) fun a136 hA137 => ?_; clear hA135 a134
     refine stg hA137 (op_pick_t rfl (hA137.ev rfl) (hA137.ev rfl)) rfl rfl rfl rfl (by decide) fun a138 hA139 => ?_; clear hA137 a136
     refine st hA139 (op_pick_f rfl (hA139.ev rfl) (hA139.ev rfl)) rfl rfl (by decide) fun a140 hA141 => ?_; clear hA139 a138
     refine st hA141 (op_assign rfl (hA141.ev rfl)) rfl rfl (by decide) fun a142 hA143 => ?_; clear hA141 a140
     refine wl_nil ?_
     refine then_n ?_
     refine c_ret ?_
     refine fin_run hA143 (.inl rfl) (run_results1 hA143 rfl (.tmp rfl)) ?_
     exact ⟨congrArg Value.bool (by first | (unfold fewB; rw [‹thinB d = false›]; rfl) | (unfold fewB; rw [‹thinB d = true›, decide_eq_false (show ¬ checkR d = 0 by assumption)]; rfl) | (unfold fewB; rw [‹thinB d = true›, decide_eq_true (show checkR d = 0 by assumption), show d.lots.length = k by omega]; (rw [Bool.eq_iff_iff]; (try simp only [Bool.true_and, Bool.false_and, Bool.and_true, Bool.and_false, Bool.false_or, Bool.true_or, Bool.or_false, Bool.or_true, true_and, and_true, false_and, and_false, false_or, or_false, true_or, or_true, Bool.and_eq_true, Bool.or_eq_true, Bool.not_eq_true', decide_eq_true_eq, decide_eq_false_iff_not, Bool.false_eq_true, Bool.true_eq_false, Bool.not_true, Bool.not_false, eq_self_iff_true, true_iff, false_iff, iff_true, iff_false, not_true, not_false_eq_true]); omega))), hS119.ext⟩
    ·skip
     rw [decide_eq_false hb131] at hA130
     refine skp hA130 rfl rfl rfl rfl rfl (by decide) fun a144 hA145 => ?_; clear hA130 a129
     refine skp hA145 rfl rfl rfl rfl rfl (by decide) fun a146 hA147 => ?_; clear hA145 a144
     refine skp hA147 rfl rfl rfl rfl rfl (by decide) fun a148 hA149 => ?_; clear hA147 a146
     refine stg hA149 (op_pick_f rfl (hA149.ev rfl) (evc _ _)) rfl rfl rfl rfl (by decide) fun a150 hA151 => ?_; clear hA149 a148
     refine st hA151 (op_pick_f rfl (hA151.ev rfl) (hA151.ev rfl)) rfl rfl (by decide) fun a152 hA153 => ?_; clear hA151 a150
     refine st hA153 (op_assign rfl (hA153.ev rfl)) rfl rfl (by decide) fun a154 hA155 => ?_; clear hA153 a152
     refine wl_nil ?_
     refine then_n ?_
     refine c_ret ?_
     refine fin_run hA155 (.inl rfl) (run_results1 hA155 rfl (.tmp rfl)) ?_
     exact ⟨congrArg Value.bool (by first | (unfold fewB; rw [‹thinB d = false›]; rfl) | (unfold fewB; rw [‹thinB d = true›, decide_eq_false (show ¬ checkR d = 0 by assumption)]; rfl) | (unfold fewB; rw [‹thinB d = true›, decide_eq_true (show checkR d = 0 by assumption), show d.lots.length = k by omega]; (rw [Bool.eq_iff_iff]; (try simp only [Bool.true_and, Bool.false_and, Bool.and_true, Bool.and_false, Bool.false_or, Bool.true_or, Bool.or_false, Bool.or_true, true_and, and_true, false_and, and_false, false_or, or_false, true_or, or_true, Bool.and_eq_true, Bool.or_eq_true, Bool.not_eq_true', decide_eq_true_eq, decide_eq_false_iff_not, Bool.false_eq_true, Bool.true_eq_false, Bool.not_true, Bool.not_false, eq_self_iff_true, true_iff, false_iff, iff_true, iff_false, not_true, not_false_eq_true]); omega))), hS119.ext⟩
   ·skip
    rw [decide_eq_false hb124] at hA123
    refine skp hA123 rfl rfl rfl rfl rfl (by decide) fun a156 hA157 => ?_; clear hA123 a122
    refine skp hA157 rfl rfl rfl rfl rfl (by decide) fun a158 hA159 => ?_; clear hA157 a156
    refine skp hA159 rfl rfl rfl rfl rfl (by decide) fun a160 hA161 => ?_; clear hA159 a158
    refine skpU hA161 rfl rfl rfl rfl (by decide) fun a162 hA163 => ?_; clear hA161 a160
    refine skpU hA163 rfl rfl rfl rfl (by decide) fun a164 hA165 => ?_; clear hA163 a162
    refine skpU hA165 rfl rfl rfl rfl (by decide) fun a166 hA167 => ?_; clear hA165 a164
    refine skp hA167 rfl rfl rfl rfl rfl (by decide) fun a168 hA169 => ?_; clear hA167 a166
    refine st hA169 (op_pick_t rfl (hA169.ev rfl) (evc _ _)) rfl rfl (by decide) fun a170 hA171 => ?_; clear hA169 a168
    refine st hA171 (op_assign rfl (hA171.ev rfl)) rfl rfl (by decide) fun a172 hA173 => ?_; clear hA171 a170
    refine wl_nil ?_
    refine then_n ?_
    refine c_ret ?_
    refine fin_run hA173 (.inl rfl) (run_results1 hA173 rfl (.tmp rfl)) ?_
    exact ⟨congrArg Value.bool (by first | (unfold fewB; rw [‹thinB d = false›]; rfl) | (unfold fewB; rw [‹thinB d = true›, decide_eq_false (show ¬ checkR d = 0 by assumption)]; rfl) | (unfold fewB; rw [‹thinB d = true›, decide_eq_true (show checkR d = 0 by assumption), show d.lots.length = k by omega]; (rw [Bool.eq_iff_iff]; (try simp only [Bool.true_and, Bool.false_and, Bool.and_true, Bool.and_false, Bool.false_or, Bool.true_or, Bool.or_false, Bool.or_true, true_and, and_true, false_and, and_false, false_or, or_false, true_or, or_true, Bool.and_eq_true, Bool.or_eq_true, Bool.not_eq_true', decide_eq_true_eq, decide_eq_false_iff_not, Bool.false_eq_true, Bool.true_eq_false, Bool.not_true, Bool.not_false, eq_self_iff_true, true_iff, false_iff, iff_true, iff_false, not_true, not_false_eq_true]); omega))), hS119.ext⟩
 ·skip
  rw [hb17] at hA16
  refine c_true hA16 rfl ?_
  refine c_seq ?_
  have hA174 := hA16.as [] rfl; clear hA16
  refine c_region ?_
  refine st hA174 (op_assign rfl (evc _ _)) rfl rfl (by decide) fun a175 hA176 => ?_; clear hA174 a15
  refine wl_nil ?_
  refine then_n ?_
  refine c_ret ?_
  refine then_ret ?_
  refine fin_run hA176 (.inl rfl) (run_results1 hA176 rfl (.tmp rfl)) ?_
  exact ⟨congrArg Value.bool (by first | (unfold fewB; rw [‹thinB d = false›]; rfl) | (unfold fewB; rw [‹thinB d = true›, decide_eq_false (show ¬ checkR d = 0 by assumption)]; rfl) | (unfold fewB; rw [‹thinB d = true›, decide_eq_true (show checkR d = 0 by assumption), show d.lots.length = k by omega]; (rw [Bool.eq_iff_iff]; (try simp only [Bool.true_and, Bool.false_and, Bool.and_true, Bool.and_false, Bool.false_or, Bool.true_or, Bool.or_false, Bool.or_true, true_and, and_true, false_and, and_false, false_or, or_false, true_or, or_true, Bool.and_eq_true, Bool.or_eq_true, Bool.not_eq_true', decide_eq_true_eq, decide_eq_false_iff_not, Bool.false_eq_true, Bool.true_eq_false, Bool.not_true, Bool.not_false, eq_self_iff_true, true_iff, false_iff, iff_true, iff_false, not_true, not_false_eq_true]); omega))), hS14.ext⟩

theorem Has_ok (xl : Value) (l : List Int) (n : Int) (w : World) (hx : SlAt w xl 1 l.length (ints l)) (hlen : l.length ≤ 1000000) :
  Calls Try.prog 39 #[xl, (Value.int .i64 n)] w (Ret fun v w' => v = .bool (hasB l n) ∧ Ext NoB w w') := by
 refine calls_enter Try.func39 rfl fun a0 hA0 => ?_
 replace hA0 : Fr 18 [] [(0, xl), (1, (Value.int .i64 n))] a0 := hA0
 have hS0 : Sep NoB w w [(sl xl 1 l.length (ints l))] := sep_ro ⟨rfl, hx, trivial⟩
 refine c_seq ?_
 refine c_region ?_
 refine st hA0 (op_assign rfl (evc _ _)) rfl rfl (by decide) fun a1 hA2 => ?_; clear hA0 a0
 refine wl_nil ?_
 refine then_n ?_
 refine c_seq ?_
 refine c_seq ?_
 refine c_region ?_
 refine st hA2 (op_assign rfl (evc _ _)) rfl rfl (by decide) fun a3 hA4 => ?_; clear hA2 a1
 refine wl_nil ?_
 refine then_n ?_
 refine c_block ?_
 have hA5 := hA4.as [(5, (Value.int .i64 0)), (0, xl), (1, (Value.int .i64 n))] rfl; clear hA4
 refine c_loop (G := Nat) (fun (k : Nat) a_ w_ => Fr 18 [] [(5, (Value.int .i64 (k : Int))), (0, xl), (1, (Value.int .i64 n))] a_ ∧ Sep NoB w w_ [(sl xl 1 l.length (ints l))] ∧ (k ≤ l.length) ∧ (∀ i, i < k → decide (n = l.getD i 0) = false)) (fun k => l.length - k) 0 ⟨hA5.as _ rfl, hS0, by omega, (fun _ h => absurd h (Nat.not_lt_zero _))⟩ ?_
 clear hA5 hS0 a3
 rintro k a6 w8 ⟨hA7, hS9, hkk, hn⟩
 refine c_seq ?_
 refine c_seq ?_
 refine c_region ?_
 refine st hA7 (op_move rfl (hA7.ev rfl)) rfl rfl (by decide) fun a10 hA11 => ?_; clear hA7 a6
 refine st hA11 (op_move rfl (hA11.ev rfl)) rfl rfl (by decide) fun a12 hA13 => ?_; clear hA11 a10
 refine st hA13 (op_lenS rfl un_23 (hA13.ev rfl) (hS9.sk 0 rfl)) rfl rfl (by decide) fun a14 hA15 => ?_; clear hA13 a12
 refine st hA15 (op_lss rfl (hA15.ev rfl) (hA15.ev rfl)) rfl rfl (by decide) fun a16 hA17 => ?_; clear hA15 a14
 refine wl_nil ?_
 refine then_n ?_
 by_cases hb18 : (k : Int) < (l.length : Int)
 ·skip
  rw [decide_eq_true hb18] at hA17
  refine c_true hA17 rfl ?_
  refine c_skip ?_
  refine then_n ?_
  refine c_seq ?_
  refine c_block ?_
  refine c_seq ?_
  refine c_region ?_
  refine st hA17 (op_move rfl (hA17.ev rfl)) rfl rfl (by decide) fun a19 hA20 => ?_; clear hA17 a16
  refine st hA20 (op_move rfl (hA20.ev rfl)) rfl rfl (by decide) fun a21 hA22 => ?_; clear hA20 a19
  refine st hA22 (op_indexS rfl un_23 ty_3 (hA22.ev rfl) (i := k) (hA22.ev rfl) (hS9.sk 0 rfl) (by decide) (by omega)) rfl rfl (by decide) fun a23 hA24 => ?_; clear hA22 a21
  refine st hA24 (op_load1E rfl ty_3 (hA24.ev rfl) (hS9.sk 0 rfl) (ints_at (by omega))) rfl rfl (by decide) fun a25 hA26 => ?_; clear hA24 a23
  refine st hA26 (op_move rfl (hA26.ev rfl)) rfl rfl (by decide) fun a27 hA28 => ?_; clear hA26 a25
  refine st hA28 (op_eql rfl (hA28.ev rfl) (hA28.ev rfl)) rfl rfl (by decide) fun a29 hA30 => ?_; clear hA28 a27
  refine wl_nil ?_
  refine then_n ?_
  by_cases hb31 : (l.getD k 0) = n
  ·skip
   rw [decide_eq_true hb31] at hA30
   refine c_true hA30 rfl ?_
   refine c_seq ?_
   have hA32 := hA30.as [] rfl; clear hA30
   refine c_region ?_
   refine st hA32 (op_assign rfl (evc _ _)) rfl rfl (by decide) fun a33 hA34 => ?_; clear hA32 a29
   refine wl_nil ?_
   refine then_n ?_
   refine c_ret ?_
   refine blk_ret ?_
   refine then_ret ?_
   refine then_ret ?_
   refine blk_ret ?_
   refine then_ret ?_
   refine fin_run hA34 (.inl rfl) (run_results1 hA34 rfl (.tmp rfl)) ?_
   exact ⟨congrArg Value.bool (by unfold hasB; first | rw [any_no (fun i hi => hn i (by omega))] | rw [any_yes (k := k) (by omega) (decide_eq_true (by omega))]), hS9.ext⟩
  ·skip
   rw [decide_eq_false hb31] at hA30
   refine c_false hA30 rfl ?_
   refine c_skip ?_
   refine blk_n ?_
   refine then_n ?_
   have hA35 := hA30.as [(5, (Value.int .i64 (k : Int))), (0, xl), (1, (Value.int .i64 n))] rfl; clear hA30
   refine c_region ?_
   refine st hA35 (op_move rfl (hA35.ev rfl)) rfl rfl (by decide) fun a36 hA37 => ?_; clear hA35 a29
   refine st hA37 (op_add rfl (hA37.ev rfl) (evc _ _) (by omega) (by omega)) rfl rfl (by decide) fun a38 hA39 => ?_; clear hA37 a36
   refine st hA39 (op_assign rfl (hA39.ev rfl)) rfl rfl (by decide) fun a40 hA41 => ?_; clear hA39 a38
   refine wl_nil ?_
   exact then_n ⟨k + 1, ⟨hA41.as _ rfl, hS9, by omega, (fun i hi => by rcases Nat.lt_succ_iff_lt_or_eq.1 hi with h | h; exact hn i h; subst h; exact decide_eq_false (fun e => by omega))⟩, by omega⟩
 ·skip
  rw [decide_eq_false hb18] at hA17
  refine c_false hA17 rfl ?_
  refine c_exit ?_
  refine then_exit ?_
  refine then_exit ?_
  refine blk_hit ?_
  refine then_n ?_
  refine c_seq ?_
  have hA42 := hA17.as [] rfl; clear hA17
  refine c_region ?_
  refine st hA42 (op_assign rfl (evc _ _)) rfl rfl (by decide) fun a43 hA44 => ?_; clear hA42 a16
  refine wl_nil ?_
  refine then_n ?_
  refine c_ret ?_
  refine fin_run hA44 (.inl rfl) (run_results1 hA44 rfl (.tmp rfl)) ?_
  exact ⟨congrArg Value.bool (by unfold hasB; first | rw [any_no (fun i hi => hn i (by omega))] | rw [any_yes (k := k) (by omega) (decide_eq_true (by omega))]), hS9.ext⟩

theorem Rising_ok (rl rs rb : Value) (rlv : List Value) (d : RD) (w : World) (hR : RoundAt w rl rs rb rlv d) (xl : Value) (l : List Int) (hx : SlAt w xl 1 l.length (ints l)) (hlen : l.length ≤ 1000000) (hnb : d.tols.length ≤ 1000000) :
  Calls Try.prog 24 #[(Value.agg #[rl, rs, (Value.int .i64 d.spread), rb]), xl] w (Ret fun v w' => v = .bool (riseB d.tols.length l) ∧ Ext NoB w w') := by
 refine calls_enter Try.func24 rfl fun a0 hA0 => ?_
 replace hA0 : Fr 38 [] [(0, (Value.agg #[rl, rs, (Value.int .i64 d.spread), rb])), (1, xl)] a0 := hA0
 have hS0 : Sep NoB w w [(sl xl 1 l.length (ints l)), (rndR false rl rs rb rlv d)] := sep_ro ⟨rfl, hx, rfl, hR, trivial⟩
 refine c_seq ?_
 refine c_region ?_
 refine stw hA0 (op_box hS0 rfl (hA0.ev rfl) (cs := [rl, rs, (Value.int .i64 d.spread), rb]) rfl) rfl rfl (by decide) ?_
 rintro a1 _ w3 ⟨b4, rfl, hS5⟩ hA2; clear hA0 hS0 a0
 refine st hA2 (op_assign rfl (evc _ _)) rfl rfl (by decide) fun a6 hA7 => ?_; clear hA2 a1
 refine wl_nil ?_
 refine then_n ?_
 refine c_seq ?_
 refine c_seq ?_
 refine c_region ?_
 refine st hA7 (op_assign rfl (evc _ _)) rfl rfl (by decide) fun a8 hA9 => ?_; clear hA7 a6
 refine wl_nil ?_
 refine then_n ?_
 refine c_block ?_
 have hA10 := hA9.as [(5, (Value.int .i64 0)), (2, (bptr b4 0)), (1, xl)] rfl; clear hA9
 refine c_loop (G := Nat) (fun (k : Nat) a_ w_ => Fr 38 [] [(5, (Value.int .i64 (k : Int))), (2, (bptr b4 0)), (1, xl)] a_ ∧ Sep NoB w w_ [(blk b4 26 [rl, rs, (Value.int .i64 d.spread), rb]), (sl xl 1 l.length (ints l)), (rndR false rl rs rb rlv d)] ∧ (k ≤ l.length) ∧ (∀ i, i < k → riseAt d.tols.length l i = true)) (fun k => l.length - k) 0 ⟨hA10.as _ rfl, hS5, by omega, (fun _ h => absurd h (Nat.not_lt_zero _))⟩ ?_
 clear hA10 hS5 a8
 rintro k a11 w13 ⟨hA12, hS14, hkk, hr⟩
 refine c_seq ?_
 refine c_seq ?_
 refine c_region ?_
 refine st hA12 (op_move rfl (hA12.ev rfl)) rfl rfl (by decide) fun a15 hA16 => ?_; clear hA12 a11
 refine st hA16 (op_move rfl (hA16.ev rfl)) rfl rfl (by decide) fun a17 hA18 => ?_; clear hA16 a15
 refine st hA18 (op_lenS rfl un_23 (hA18.ev rfl) (hS14.sk 1 rfl)) rfl rfl (by decide) fun a19 hA20 => ?_; clear hA18 a17
 refine st hA20 (op_lss rfl (hA20.ev rfl) (hA20.ev rfl)) rfl rfl (by decide) fun a21 hA22 => ?_; clear hA20 a19
 refine wl_nil ?_
 refine then_n ?_
 by_cases hb23 : (k : Int) < (l.length : Int)
 ·skip
  rw [decide_eq_true hb23] at hA22
  refine c_true hA22 rfl ?_
  refine c_skip ?_
  refine then_n ?_
  refine c_seq ?_
  refine c_block ?_
  refine c_seq ?_
  have hA24 := hA22.as [(5, (Value.int .i64 (k : Int))), (2, (bptr b4 0)), (1, xl)] rfl; clear hA22
  rcases Bool.eq_false_or_eq_true ((decide (0 ≤ (l.getD k 0)) && decide ((l.getD k 0) ≤ ((d.tols.length : Int) - 1)))) with hb26 | hb26
  ·skip
   have hq27 := hb26; simp only [Bool.and_eq_true, Bool.and_eq_false_iff, decide_eq_true_eq, decide_eq_false_iff_not] at hq27
   have hA28 := hA24.as [(5, (Value.int .i64 (k : Int))), (2, (bptr b4 0)), (1, xl)] rfl; clear hA24
   by_cases hb30 : 0 < (k : Int)
   ·skip
    have hA31 := hA28.as [(5, (Value.int .i64 (k : Int))), (2, (bptr b4 0)), (1, xl)] rfl; clear hA28
    refine c_drawV mixed hA31 hS14 23 [[], [], [0, 1], [2], [], [4], [5], [6], [3, 7], [8], [9], [10], [10, 11], [10, 12], [13], [13], [13, 14, 15], [13, 16], [13], [13], [13, 19], [13, 18, 20], [13, 21]] [(fun (vs32 : Nat → Value) (v_ : Value) (rs_ : List Res) => v_ = xl ∧ rs_ = []), (fun (vs32 : Nat → Value) (v_ : Value) (rs_ : List Res) => v_ = (Value.int .i64 (k : Int)) ∧ rs_ = []), (fun (vs32 : Nat → Value) (v_ : Value) (rs_ : List Res) => v_ = (eptr xl (k * 1)) ∧ rs_ = []), (fun (vs32 : Nat → Value) (v_ : Value) (rs_ : List Res) => v_ = (Value.int .i64 (l.getD k 0)) ∧ rs_ = []), (fun (vs32 : Nat → Value) (v_ : Value) (rs_ : List Res) => v_ = (bptr b4 3) ∧ rs_ = []), (fun (vs32 : Nat → Value) (v_ : Value) (rs_ : List Res) => v_ = rb ∧ rs_ = []), (fun (vs32 : Nat → Value) (v_ : Value) (rs_ : List Res) => v_ = (Value.int .i64 (d.tols.length : Int)) ∧ rs_ = []), (fun (vs32 : Nat → Value) (v_ : Value) (rs_ : List Res) => v_ = (Value.int .i64 ((d.tols.length : Int) - 1)) ∧ rs_ = []), (fun (vs32 : Nat → Value) (v_ : Value) (rs_ : List Res) => v_ = (Value.bool true) ∧ rs_ = []), (fun (vs32 : Nat → Value) (v_ : Value) (rs_ : List Res) => v_ = (Value.bool (!true)) ∧ rs_ = []), (fun (vs32 : Nat → Value) (v_ : Value) (rs_ : List Res) => v_ = (Value.bool (!true)) ∧ rs_ = []), (fun (vs32 : Nat → Value) (v_ : Value) (rs_ : List Res) => v_ = (Value.int .i64 (k : Int)) ∧ rs_ = []), (fun (vs32 : Nat → Value) (v_ : Value) (rs_ : List Res) => v_ = (Value.bool true) ∧ rs_ = []), (fun (vs32 : Nat → Value) (v_ : Value) (rs_ : List Res) => v_ = (Value.bool true) ∧ rs_ = []), (fun (vs32 : Nat → Value) (v_ : Value) (rs_ : List Res) => v_ = xl ∧ rs_ = []), (fun (vs32 : Nat → Value) (v_ : Value) (rs_ : List Res) => v_ = (Value.int .i64 (k : Int)) ∧ rs_ = []), (fun (vs32 : Nat → Value) (v_ : Value) (rs_ : List Res) => v_ = (eptr xl (k * 1)) ∧ rs_ = []), (fun (vs32 : Nat → Value) (v_ : Value) (rs_ : List Res) => v_ = (Value.int .i64 (l.getD k 0)) ∧ rs_ = []), (fun (vs32 : Nat → Value) (v_ : Value) (rs_ : List Res) => v_ = xl ∧ rs_ = []), (fun (vs32 : Nat → Value) (v_ : Value) (rs_ : List Res) => v_ = (Value.int .i64 (k : Int)) ∧ rs_ = []), (fun (vs32 : Nat → Value) (v_ : Value) (rs_ : List Res) => v_ = (Value.int .i64 ((k : Int) - 1)) ∧ rs_ = []), (fun (vs32 : Nat → Value) (v_ : Value) (rs_ : List Res) => v_ = (eptr xl (((k : Int) - 1).toNat * 1)) ∧ rs_ = []), (fun (vs32 : Nat → Value) (v_ : Value) (rs_ : List Res) => v_ = (Value.int .i64 (l.getD (((k : Int) - 1).toNat) 0)) ∧ rs_ = [])] (by decide +kernel) (by decide +kernel) rfl rfl ⟨(fun _ _ _ _ _ h_ => h_), (fun _ _ _ _ _ h_ => h_), (fun _ _ _ _ _ h_ => h_), (fun _ _ _ _ _ h_ => h_), (fun _ _ _ _ _ h_ => h_), (fun _ _ _ _ _ h_ => h_), (fun _ _ _ _ _ h_ => h_), (fun _ _ _ _ _ h_ => h_), (fun _ _ _ _ _ h_ => h_), (fun _ _ _ _ _ h_ => h_), (fun _ _ _ _ _ h_ => h_), (fun _ _ _ _ _ h_ => h_), (fun _ _ _ _ _ h_ => h_), (fun _ _ _ _ _ h_ => h_), (fun _ _ _ _ _ h_ => h_), (fun _ _ _ _ _ h_ => h_), (fun _ _ _ _ _ h_ => h_), (fun _ _ _ _ _ h_ => h_), (fun _ _ _ _ _ h_ => h_), (fun _ _ _ _ _ h_ => h_), (fun _ _ _ _ _ h_ => h_), (fun _ _ _ _ _ h_ => h_), (fun _ _ _ _ _ h_ => h_), trivial⟩ ?_ ?_
    ·skip
     refine ⟨fun a w vs32 hA hS hd => ?_, ?_⟩
     ·skip
      exact opG_of rfl (vv (op_move rfl (hA.ev rfl)) (And.intro rfl rfl))
     refine ⟨fun a w vs32 hA hS hd => ?_, ?_⟩
     ·skip
      exact opG_of rfl (vv (op_move rfl (hA.ev rfl)) (And.intro rfl rfl))
     refine ⟨fun a w vs32 hA hS hd => ?_, ?_⟩
     ·skip
      obtain ⟨e0, rs0, hy0, hp0⟩ := hd 0 (by decide)
      obtain ⟨hv0, hr0⟩ := hy0; subst hr0
      rw [hv0] at e0
      obtain ⟨e1, rs1, hy1, hp1⟩ := hd 1 (by decide)
      obtain ⟨hv1, hr1⟩ := hy1; subst hr1
      rw [hv1] at e1
      exact opG_of rfl (vv (op_indexS rfl un_23 ty_3 (tmp_ev (slot_ev e0 rfl)) (i := k) (tmp_ev (slot_ev e1 rfl)) (hS.sk 1 rfl) (by decide) (by omega)) (And.intro rfl rfl))
     refine ⟨fun a w vs32 hA hS hd => ?_, ?_⟩
     ·skip
      obtain ⟨e2, rs2, hy2, hp2⟩ := hd 2 (by decide)
      obtain ⟨hv2, hr2⟩ := hy2; subst hr2
      rw [hv2] at e2
      exact opG_of rfl (vv (op_load1E rfl ty_3 (tmp_ev (slot_ev e2 rfl)) (hS.sk 1 rfl) (ints_at (by omega))) (And.intro rfl rfl))
     refine ⟨fun a w vs32 hA hS hd => ?_, ?_⟩
     ·skip
      exact opG_of rfl (vv (op_field rfl fd_26_3 (hA.ev rfl)) (And.intro rfl rfl))
     refine ⟨fun a w vs32 hA hS hd => ?_, ?_⟩
     ·skip
      obtain ⟨e4, rs4, hy4, hp4⟩ := hd 4 (by decide)
      obtain ⟨hv4, hr4⟩ := hy4; subst hr4
      rw [hv4] at e4
      exact opG_of rfl (vv (op_load1 rfl ty_24 (tmp_ev (slot_ev e4 rfl)) (hS.bk 0 rfl) rfl) (And.intro rfl rfl))
     refine ⟨fun a w vs32 hA hS hd => ?_, ?_⟩
     ·skip
      obtain ⟨e5, rs5, hy5, hp5⟩ := hd 5 (by decide)
      obtain ⟨hv5, hr5⟩ := hy5; subst hr5
      rw [hv5] at e5
      exact opG_of rfl (vv (op_lenS rfl un_24 (tmp_ev (slot_ev e5 rfl)) (rnd_at (hS.ok 2 _ rfl)).labs) (And.intro rfl rfl))
     refine ⟨fun a w vs32 hA hS hd => ?_, ?_⟩
     ·skip
      obtain ⟨e6, rs6, hy6, hp6⟩ := hd 6 (by decide)
      obtain ⟨hv6, hr6⟩ := hy6; subst hr6
      rw [hv6] at e6
      exact opG_of rfl (vv (op_sub rfl (tmp_ev (slot_ev e6 rfl)) (evc _ _) (by omega) (by omega)) (And.intro rfl rfl))
     refine ⟨fun a w vs32 hA hS hd => ?_, ?_⟩
     ·skip
      obtain ⟨e3, rs3, hy3, hp3⟩ := hd 3 (by decide)
      obtain ⟨hv3, hr3⟩ := hy3; subst hr3
      rw [hv3] at e3
      obtain ⟨e7, rs7, hy7, hp7⟩ := hd 7 (by decide)
      obtain ⟨hv7, hr7⟩ := hy7; subst hr7
      rw [hv7] at e7
      exact opG_of rfl (vv (op_call rfl en_33 (ev3 (tmp_ev (slot_ev e3 rfl)) (evc _ _) (tmp_ev (slot_ev e7 rfl))) (In_ok _ _ _ _)) (And.intro (by show Value.bool _ = _; simp only [hb26, decide_true, decide_false, Bool.not_true, Bool.not_false]) rfl))
     refine ⟨fun a w vs32 hA hS hd => ?_, ?_⟩
     ·skip
      obtain ⟨e8, rs8, hy8, hp8⟩ := hd 8 (by decide)
      obtain ⟨hv8, hr8⟩ := hy8; subst hr8
      rw [hv8] at e8
      exact opG_of rfl (vv (op_not rfl (tmp_ev (slot_ev e8 rfl))) (And.intro rfl rfl))
     refine ⟨fun a w vs32 hA hS hd => ?_, ?_⟩
     ·skip
      obtain ⟨e9, rs9, hy9, hp9⟩ := hd 9 (by decide)
      obtain ⟨hv9, hr9⟩ := hy9; subst hr9
      rw [hv9] at e9
      exact opG_of rfl (vv (op_move rfl (tmp_ev (slot_ev e9 rfl))) (And.intro rfl rfl))
     refine ⟨fun a w vs32 hA hS hd => ?_, ?_⟩
     ·skip
      obtain ⟨e10, rs10, hy10, hp10⟩ := hd 10 (by decide)
      obtain ⟨hv10, hr10⟩ := hy10; subst hr10
      rw [hv10] at e10
      exact opG_yes rfl rfl (slot_ev e10 rfl) (vv (op_move rfl (hA.ev rfl)) (And.intro rfl rfl))
     refine ⟨fun a w vs32 hA hS hd => ?_, ?_⟩
     ·skip
      obtain ⟨e10, rs10, hy10, hp10⟩ := hd 10 (by decide)
      obtain ⟨hv10, hr10⟩ := hy10; subst hr10
      rw [hv10] at e10
      obtain ⟨e11, rs11, hy11, hp11⟩ := hd 11 (by decide)
      obtain ⟨hv11, hr11⟩ := hy11; subst hr11
      rw [hv11] at e11
      exact opG_yes rfl rfl (slot_ev e10 rfl) (vv (op_gtr rfl (tmp_ev (slot_ev e11 rfl)) (evc _ _)) (And.intro (by show Value.bool _ = _; simp only [decide_eq_true hb30, decide_true, decide_false, Bool.not_true, Bool.not_false]) rfl))
     refine ⟨fun a w vs32 hA hS hd => ?_, ?_⟩
     ·skip
      obtain ⟨e10, rs10, hy10, hp10⟩ := hd 10 (by decide)
      obtain ⟨hv10, hr10⟩ := hy10; subst hr10
      rw [hv10] at e10
      obtain ⟨e12, rs12, hy12, hp12⟩ := hd 12 (by decide)
      obtain ⟨hv12, hr12⟩ := hy12; subst hr12
      rw [hv12] at e12
      exact opG_yes rfl rfl (slot_ev e10 rfl) (vv (op_move rfl (tmp_ev (slot_ev e12 rfl))) (And.intro rfl rfl))
     refine ⟨fun a w vs32 hA hS hd => ?_, ?_⟩
     ·skip
      obtain ⟨e13, rs13, hy13, hp13⟩ := hd 13 (by decide)
      obtain ⟨hv13, hr13⟩ := hy13; subst hr13
      rw [hv13] at e13
      exact opG_yes rfl rfl (slot_ev e13 rfl) (vv (op_move rfl (hA.ev rfl)) (And.intro rfl rfl))
     refine ⟨fun a w vs32 hA hS hd => ?_, ?_⟩
     ·skip
      obtain ⟨e13, rs13, hy13, hp13⟩ := hd 13 (by decide)
      obtain ⟨hv13, hr13⟩ := hy13; subst hr13
      rw [hv13] at e13
      exact opG_yes rfl rfl (slot_ev e13 rfl) (vv (op_move rfl (hA.ev rfl)) (And.intro rfl rfl))
     refine ⟨fun a w vs32 hA hS hd => ?_, ?_⟩
     ·skip
      obtain ⟨e13, rs13, hy13, hp13⟩ := hd 13 (by decide)
      obtain ⟨hv13, hr13⟩ := hy13; subst hr13
      rw [hv13] at e13
      obtain ⟨e14, rs14, hy14, hp14⟩ := hd 14 (by decide)
      obtain ⟨hv14, hr14⟩ := hy14; subst hr14
      rw [hv14] at e14
      obtain ⟨e15, rs15, hy15, hp15⟩ := hd 15 (by decide)
      obtain ⟨hv15, hr15⟩ := hy15; subst hr15
      rw [hv15] at e15
      exact opG_yes rfl rfl (slot_ev e13 rfl) (vv (op_indexS rfl un_23 ty_3 (tmp_ev (slot_ev e14 rfl)) (i := k) (tmp_ev (slot_ev e15 rfl)) (hS.sk 1 rfl) (by decide) (by omega)) (And.intro rfl rfl))
     refine ⟨fun a w vs32 hA hS hd => ?_, ?_⟩
     ·skip
      obtain ⟨e13, rs13, hy13, hp13⟩ := hd 13 (by decide)
      obtain ⟨hv13, hr13⟩ := hy13; subst hr13
      rw [hv13] at e13
      obtain ⟨e16, rs16, hy16, hp16⟩ := hd 16 (by decide)
      obtain ⟨hv16, hr16⟩ := hy16; subst hr16
      rw [hv16] at e16
      exact opG_yes rfl rfl (slot_ev e13 rfl) (vv (op_load1E rfl ty_3 (tmp_ev (slot_ev e16 rfl)) (hS.sk 1 rfl) (ints_at (by omega))) (And.intro rfl rfl))
     refine ⟨fun a w vs32 hA hS hd => ?_, ?_⟩
     ·skip
      obtain ⟨e13, rs13, hy13, hp13⟩ := hd 13 (by decide)
      obtain ⟨hv13, hr13⟩ := hy13; subst hr13
      rw [hv13] at e13
      exact opG_yes rfl rfl (slot_ev e13 rfl) (vv (op_move rfl (hA.ev rfl)) (And.intro rfl rfl))
     refine ⟨fun a w vs32 hA hS hd => ?_, ?_⟩
     ·skip
      obtain ⟨e13, rs13, hy13, hp13⟩ := hd 13 (by decide)
      obtain ⟨hv13, hr13⟩ := hy13; subst hr13
      rw [hv13] at e13
      exact opG_yes rfl rfl (slot_ev e13 rfl) (vv (op_move rfl (hA.ev rfl)) (And.intro rfl rfl))
     refine ⟨fun a w vs32 hA hS hd => ?_, ?_⟩
     ·skip
      obtain ⟨e13, rs13, hy13, hp13⟩ := hd 13 (by decide)
      obtain ⟨hv13, hr13⟩ := hy13; subst hr13
      rw [hv13] at e13
      obtain ⟨e19, rs19, hy19, hp19⟩ := hd 19 (by decide)
      obtain ⟨hv19, hr19⟩ := hy19; subst hr19
      rw [hv19] at e19
      exact opG_yes rfl rfl (slot_ev e13 rfl) (vv (op_sub rfl (tmp_ev (slot_ev e19 rfl)) (evc _ _) (by omega) (by omega)) (And.intro rfl rfl))
     refine ⟨fun a w vs32 hA hS hd => ?_, ?_⟩
     ·skip
      obtain ⟨e13, rs13, hy13, hp13⟩ := hd 13 (by decide)
      obtain ⟨hv13, hr13⟩ := hy13; subst hr13
      rw [hv13] at e13
      obtain ⟨e18, rs18, hy18, hp18⟩ := hd 18 (by decide)
      obtain ⟨hv18, hr18⟩ := hy18; subst hr18
      rw [hv18] at e18
      obtain ⟨e20, rs20, hy20, hp20⟩ := hd 20 (by decide)
      obtain ⟨hv20, hr20⟩ := hy20; subst hr20
      rw [hv20] at e20
      exact opG_yes rfl rfl (slot_ev e13 rfl) (vv (op_indexS rfl un_23 ty_3 (tmp_ev (slot_ev e18 rfl)) (i := ((k : Int) - 1).toNat) ((tmp_ev (slot_ev e20 rfl)).trans (int_nat (by omega))) (hS.sk 1 rfl) (by decide) (by omega)) (And.intro rfl rfl))
     refine ⟨fun a w vs32 hA hS hd => ?_, ?_⟩
     ·skip
      obtain ⟨e13, rs13, hy13, hp13⟩ := hd 13 (by decide)
      obtain ⟨hv13, hr13⟩ := hy13; subst hr13
      rw [hv13] at e13
      obtain ⟨e21, rs21, hy21, hp21⟩ := hd 21 (by decide)
      obtain ⟨hv21, hr21⟩ := hy21; subst hr21
      rw [hv21] at e21
      exact opG_yes rfl rfl (slot_ev e13 rfl) (vv (op_load1E rfl ty_3 (tmp_ev (slot_ev e21 rfl)) (hS.sk 1 rfl) (ints_at (by omega))) (And.intro rfl rfl))
     trivial
    intro a33 w34 vs32 rsf38 hA35 hH37 hS36; clear hA31 hS14
    obtain ⟨hs_0, hy_0⟩ := hH37 0 (by decide)
    obtain ⟨hv_0, hr_0⟩ := hy_0
    obtain ⟨hs_1, hy_1⟩ := hH37 1 (by decide)
    obtain ⟨hv_1, hr_1⟩ := hy_1
    obtain ⟨hs_2, hy_2⟩ := hH37 2 (by decide)
    obtain ⟨hv_2, hr_2⟩ := hy_2
    obtain ⟨hs_3, hy_3⟩ := hH37 3 (by decide)
    obtain ⟨hv_3, hr_3⟩ := hy_3
    obtain ⟨hs_4, hy_4⟩ := hH37 4 (by decide)
    obtain ⟨hv_4, hr_4⟩ := hy_4
    obtain ⟨hs_5, hy_5⟩ := hH37 5 (by decide)
    obtain ⟨hv_5, hr_5⟩ := hy_5
    obtain ⟨hs_6, hy_6⟩ := hH37 6 (by decide)
    obtain ⟨hv_6, hr_6⟩ := hy_6
    obtain ⟨hs_7, hy_7⟩ := hH37 7 (by decide)
    obtain ⟨hv_7, hr_7⟩ := hy_7
    obtain ⟨hs_8, hy_8⟩ := hH37 8 (by decide)
    obtain ⟨hv_8, hr_8⟩ := hy_8
    obtain ⟨hs_9, hy_9⟩ := hH37 9 (by decide)
    obtain ⟨hv_9, hr_9⟩ := hy_9
    obtain ⟨hs_10, hy_10⟩ := hH37 10 (by decide)
    obtain ⟨hv_10, hr_10⟩ := hy_10
    obtain ⟨hs_11, hy_11⟩ := hH37 11 (by decide)
    obtain ⟨hv_11, hr_11⟩ := hy_11
    obtain ⟨hs_12, hy_12⟩ := hH37 12 (by decide)
    obtain ⟨hv_12, hr_12⟩ := hy_12
    obtain ⟨hs_13, hy_13⟩ := hH37 13 (by decide)
    obtain ⟨hv_13, hr_13⟩ := hy_13
    obtain ⟨hs_14, hy_14⟩ := hH37 14 (by decide)
    obtain ⟨hv_14, hr_14⟩ := hy_14
    obtain ⟨hs_15, hy_15⟩ := hH37 15 (by decide)
    obtain ⟨hv_15, hr_15⟩ := hy_15
    obtain ⟨hs_16, hy_16⟩ := hH37 16 (by decide)
    obtain ⟨hv_16, hr_16⟩ := hy_16
    obtain ⟨hs_17, hy_17⟩ := hH37 17 (by decide)
    obtain ⟨hv_17, hr_17⟩ := hy_17
    obtain ⟨hs_18, hy_18⟩ := hH37 18 (by decide)
    obtain ⟨hv_18, hr_18⟩ := hy_18
    obtain ⟨hs_19, hy_19⟩ := hH37 19 (by decide)
    obtain ⟨hv_19, hr_19⟩ := hy_19
    obtain ⟨hs_20, hy_20⟩ := hH37 20 (by decide)
    obtain ⟨hv_20, hr_20⟩ := hy_20
    obtain ⟨hs_21, hy_21⟩ := hH37 21 (by decide)
    obtain ⟨hv_21, hr_21⟩ := hy_21
    obtain ⟨hs_22, hy_22⟩ := hH37 22 (by decide)
    obtain ⟨hv_22, hr_22⟩ := hy_22
    have hS39 : Sep NoB w w34 [(blk b4 26 [rl, rs, (Value.int .i64 d.spread), rb]), (sl xl 1 l.length (ints l)), (rndR false rl rs rb rlv d)] := by rw [show catR rsf38 0 23 = ([] : List Res) by (try simp only [catR, hr_0, hr_1, hr_2, hr_3, hr_4, hr_5, hr_6, hr_7, hr_8, hr_9, hr_10, hr_11, hr_12, hr_13, hr_14, hr_15, hr_16, hr_17, hr_18, hr_19, hr_20, hr_21, hr_22]); (try rfl)] at hS36; exact hS36
    rw [hv_10] at hs_10
    have hA40 : Fr 38 [] [(22, (Value.bool (!true))), (5, (Value.int .i64 (k : Int))), (2, (bptr b4 0)), (1, xl)] a33 := hA35.add (slot_ev hs_10 rfl); clear hA35
    rw [hv_13] at hs_13
    have hA41 : Fr 38 [] [(25, (Value.bool true)), (22, (Value.bool (!true))), (5, (Value.int .i64 (k : Int))), (2, (bptr b4 0)), (1, xl)] a33 := hA40.add (slot_ev hs_13 rfl); clear hA40
    rw [hv_17] at hs_17
    have hA42 : Fr 38 [] [(29, (Value.int .i64 (l.getD k 0))), (25, (Value.bool true)), (22, (Value.bool (!true))), (5, (Value.int .i64 (k : Int))), (2, (bptr b4 0)), (1, xl)] a33 := hA41.add (slot_ev hs_17 rfl); clear hA41
    rw [hv_22] at hs_22
    have hA43 : Fr 38 [] [(34, (Value.int .i64 (l.getD (((k : Int) - 1).toNat) 0))), (29, (Value.int .i64 (l.getD k 0))), (25, (Value.bool true)), (22, (Value.bool (!true))), (5, (Value.int .i64 (k : Int))), (2, (bptr b4 0)), (1, xl)] a33 := hA42.add (slot_ev hs_22 rfl); clear hA42
    clear hH37 hS36 hs_0 hs_1 hs_2 hs_3 hs_4 hs_5 hs_6 hs_7 hs_8 hs_9 hs_10 hs_11 hs_12 hs_13 hs_14 hs_15 hs_16 hs_17 hs_18 hs_19 hs_20 hs_21 hs_22
    clear hr_0
    clear hv_0
    clear hr_1
    clear hv_1
    clear hr_2
    clear hv_2
    clear hr_3
    clear hv_3
    clear hr_4
    clear hv_4
    clear hr_5
    clear hv_5
    clear hr_6
    clear hv_6
    clear hr_7
    clear hv_7
    clear hr_8
    clear hv_8
    clear hr_9
    clear hv_9
    clear hr_10
    clear hv_10
    clear hr_11
    clear hv_11
    clear hr_12
    clear hv_12
    clear hr_13
    clear hv_13
    clear hr_14
    clear hv_14
    clear hr_15
    clear hv_15
    clear hr_16
    clear hv_16
    clear hr_17
    clear hv_17
    clear hr_18
    clear hv_18
    clear hr_19
    clear hv_19
    clear hr_20
    clear hv_20
    clear hr_21
    clear hv_21
    clear hr_22
    clear hv_22
    refine stg hA43 (op_leq rfl (hA43.ev rfl) (hA43.ev rfl)) rfl rfl rfl rfl (by decide) fun a44 hA45 => ?_; clear hA43 a33
    refine stg hA45 (op_pick_t rfl (hA45.ev rfl) (hA45.ev rfl)) rfl rfl rfl rfl (by decide) fun a46 hA47 => ?_; clear hA45 a44
    refine st hA47 (op_pick_f rfl (hA47.ev rfl) (hA47.ev rfl)) rfl rfl (by decide) fun a48 hA49 => ?_; clear hA47 a46
    refine wl_nil ?_
    refine then_n ?_
    by_cases hb50 : (l.getD k 0) ≤ (l.getD (((k : Int) - 1).toNat) 0)
    ·skip
     rw [decide_eq_true hb50] at hA49
     refine c_true hA49 rfl ?_
     refine c_seq ?_
     have hA51 := hA49.as [] rfl; clear hA49
     refine c_region ?_
     refine st hA51 (op_assign rfl (evc _ _)) rfl rfl (by decide) fun a52 hA53 => ?_; clear hA51 a48
     refine wl_nil ?_
     refine then_n ?_
     refine c_ret ?_
     refine blk_ret ?_
     refine then_ret ?_
     refine then_ret ?_
     refine blk_ret ?_
     refine then_ret ?_
     refine fin_run hA53 (.inl rfl) (run_results1 hA53 rfl (.tmp rfl)) ?_
     exact ⟨congrArg Value.bool (by first | exact (riseB_yes (fun i hi => hr i (by omega))).symm | exact (riseB_no (k := k) (by omega) (by first | exact rise_no1 (by assumption) | (rw [toNat_pred] at *; exact rise_no2 (by omega) (by omega)))).symm), hS39.ext⟩
    ·skip
     rw [decide_eq_false hb50] at hA49
     refine c_false hA49 rfl ?_
     refine c_skip ?_
     refine blk_n ?_
     refine then_n ?_
     have hA54 := hA49.as [(5, (Value.int .i64 (k : Int))), (2, (bptr b4 0)), (1, xl)] rfl; clear hA49
     refine c_region ?_
     refine st hA54 (op_move rfl (hA54.ev rfl)) rfl rfl (by decide) fun a55 hA56 => ?_; clear hA54 a48
     refine st hA56 (op_add rfl (hA56.ev rfl) (evc _ _) (by omega) (by omega)) rfl rfl (by decide) fun a57 hA58 => ?_; clear hA56 a55
     refine st hA58 (op_assign rfl (hA58.ev rfl)) rfl rfl (by decide) fun a59 hA60 => ?_; clear hA58 a57
     refine wl_nil ?_
     exact then_n ⟨k + 1, ⟨hA60.as _ rfl, hS39, by omega, (fun i hi => by rcases Nat.lt_succ_iff_lt_or_eq.1 hi with h | h; exact hr i h; subst h; first | exact rise_yes (by assumption) (.inl (by omega)) | (rw [toNat_pred] at *; exact rise_yes (by assumption) (.inr (by omega))))⟩, by omega⟩
   ·skip
    have hA61 := hA28.as [(5, (Value.int .i64 (k : Int))), (2, (bptr b4 0)), (1, xl)] rfl; clear hA28
    refine c_drawV mixed hA61 hS14 23 [[], [], [0, 1], [2], [], [4], [5], [6], [3, 7], [8], [9], [10], [10, 11], [10, 12], [13], [13], [13, 14, 15], [13, 16], [13], [13], [13, 19], [13, 18, 20], [13, 21]] [(fun (vs62 : Nat → Value) (v_ : Value) (rs_ : List Res) => v_ = xl ∧ rs_ = []), (fun (vs62 : Nat → Value) (v_ : Value) (rs_ : List Res) => v_ = (Value.int .i64 (k : Int)) ∧ rs_ = []), (fun (vs62 : Nat → Value) (v_ : Value) (rs_ : List Res) => v_ = (eptr xl (k * 1)) ∧ rs_ = []), (fun (vs62 : Nat → Value) (v_ : Value) (rs_ : List Res) => v_ = (Value.int .i64 (l.getD k 0)) ∧ rs_ = []), (fun (vs62 : Nat → Value) (v_ : Value) (rs_ : List Res) => v_ = (bptr b4 3) ∧ rs_ = []), (fun (vs62 : Nat → Value) (v_ : Value) (rs_ : List Res) => v_ = rb ∧ rs_ = []), (fun (vs62 : Nat → Value) (v_ : Value) (rs_ : List Res) => v_ = (Value.int .i64 (d.tols.length : Int)) ∧ rs_ = []), (fun (vs62 : Nat → Value) (v_ : Value) (rs_ : List Res) => v_ = (Value.int .i64 ((d.tols.length : Int) - 1)) ∧ rs_ = []), (fun (vs62 : Nat → Value) (v_ : Value) (rs_ : List Res) => v_ = (Value.bool true) ∧ rs_ = []), (fun (vs62 : Nat → Value) (v_ : Value) (rs_ : List Res) => v_ = (Value.bool (!true)) ∧ rs_ = []), (fun (vs62 : Nat → Value) (v_ : Value) (rs_ : List Res) => v_ = (Value.bool (!true)) ∧ rs_ = []), (fun (vs62 : Nat → Value) (v_ : Value) (rs_ : List Res) => v_ = (Value.int .i64 (k : Int)) ∧ rs_ = []), (fun (vs62 : Nat → Value) (v_ : Value) (rs_ : List Res) => v_ = (Value.bool false) ∧ rs_ = []), (fun (vs62 : Nat → Value) (v_ : Value) (rs_ : List Res) => v_ = (Value.bool false) ∧ rs_ = []), (fun (vs62 : Nat → Value) (v_ : Value) (rs_ : List Res) => v_ = undef ∧ rs_ = []), (fun (vs62 : Nat → Value) (v_ : Value) (rs_ : List Res) => v_ = undef ∧ rs_ = []), (fun (vs62 : Nat → Value) (v_ : Value) (rs_ : List Res) => v_ = undef ∧ rs_ = []), (fun (vs62 : Nat → Value) (v_ : Value) (rs_ : List Res) => v_ = undef ∧ rs_ = []), (fun (vs62 : Nat → Value) (v_ : Value) (rs_ : List Res) => v_ = undef ∧ rs_ = []), (fun (vs62 : Nat → Value) (v_ : Value) (rs_ : List Res) => v_ = undef ∧ rs_ = []), (fun (vs62 : Nat → Value) (v_ : Value) (rs_ : List Res) => v_ = undef ∧ rs_ = []), (fun (vs62 : Nat → Value) (v_ : Value) (rs_ : List Res) => v_ = undef ∧ rs_ = []), (fun (vs62 : Nat → Value) (v_ : Value) (rs_ : List Res) => v_ = undef ∧ rs_ = [])] (by decide +kernel) (by decide +kernel) rfl rfl ⟨(fun _ _ _ _ _ h_ => h_), (fun _ _ _ _ _ h_ => h_), (fun _ _ _ _ _ h_ => h_), (fun _ _ _ _ _ h_ => h_), (fun _ _ _ _ _ h_ => h_), (fun _ _ _ _ _ h_ => h_), (fun _ _ _ _ _ h_ => h_), (fun _ _ _ _ _ h_ => h_), (fun _ _ _ _ _ h_ => h_), (fun _ _ _ _ _ h_ => h_), (fun _ _ _ _ _ h_ => h_), (fun _ _ _ _ _ h_ => h_), (fun _ _ _ _ _ h_ => h_), (fun _ _ _ _ _ h_ => h_), (fun _ _ _ _ _ h_ => h_), (fun _ _ _ _ _ h_ => h_), (fun _ _ _ _ _ h_ => h_), (fun _ _ _ _ _ h_ => h_), (fun _ _ _ _ _ h_ => h_), (fun _ _ _ _ _ h_ => h_), (fun _ _ _ _ _ h_ => h_), (fun _ _ _ _ _ h_ => h_), (fun _ _ _ _ _ h_ => h_), trivial⟩ ?_ ?_
    ·skip
     refine ⟨fun a w vs62 hA hS hd => ?_, ?_⟩
     ·skip
      exact opG_of rfl (vv (op_move rfl (hA.ev rfl)) (And.intro rfl rfl))
     refine ⟨fun a w vs62 hA hS hd => ?_, ?_⟩
     ·skip
      exact opG_of rfl (vv (op_move rfl (hA.ev rfl)) (And.intro rfl rfl))
     refine ⟨fun a w vs62 hA hS hd => ?_, ?_⟩
     ·skip
      obtain ⟨e0, rs0, hy0, hp0⟩ := hd 0 (by decide)
      obtain ⟨hv0, hr0⟩ := hy0; subst hr0
      rw [hv0] at e0
      obtain ⟨e1, rs1, hy1, hp1⟩ := hd 1 (by decide)
      obtain ⟨hv1, hr1⟩ := hy1; subst hr1
      rw [hv1] at e1
      exact opG_of rfl (vv (op_indexS rfl un_23 ty_3 (tmp_ev (slot_ev e0 rfl)) (i := k) (tmp_ev (slot_ev e1 rfl)) (hS.sk 1 rfl) (by decide) (by omega)) (And.intro rfl rfl))
     refine ⟨fun a w vs62 hA hS hd => ?_, ?_⟩
     ·skip
      obtain ⟨e2, rs2, hy2, hp2⟩ := hd 2 (by decide)
      obtain ⟨hv2, hr2⟩ := hy2; subst hr2
      rw [hv2] at e2
      exact opG_of rfl (vv (op_load1E rfl ty_3 (tmp_ev (slot_ev e2 rfl)) (hS.sk 1 rfl) (ints_at (by omega))) (And.intro rfl rfl))
     refine ⟨fun a w vs62 hA hS hd => ?_, ?_⟩
     ·skip
      exact opG_of rfl (vv (op_field rfl fd_26_3 (hA.ev rfl)) (And.intro rfl rfl))
     refine ⟨fun a w vs62 hA hS hd => ?_, ?_⟩
     ·skip
      obtain ⟨e4, rs4, hy4, hp4⟩ := hd 4 (by decide)
      obtain ⟨hv4, hr4⟩ := hy4; subst hr4
      rw [hv4] at e4
      exact opG_of rfl (vv (op_load1 rfl ty_24 (tmp_ev (slot_ev e4 rfl)) (hS.bk 0 rfl) rfl) (And.intro rfl rfl))
     refine ⟨fun a w vs62 hA hS hd => ?_, ?_⟩
     ·skip
      obtain ⟨e5, rs5, hy5, hp5⟩ := hd 5 (by decide)
      obtain ⟨hv5, hr5⟩ := hy5; subst hr5
      rw [hv5] at e5
      exact opG_of rfl (vv (op_lenS rfl un_24 (tmp_ev (slot_ev e5 rfl)) (rnd_at (hS.ok 2 _ rfl)).labs) (And.intro rfl rfl))
     refine ⟨fun a w vs62 hA hS hd => ?_, ?_⟩
     ·skip
      obtain ⟨e6, rs6, hy6, hp6⟩ := hd 6 (by decide)
      obtain ⟨hv6, hr6⟩ := hy6; subst hr6
      rw [hv6] at e6
      exact opG_of rfl (vv (op_sub rfl (tmp_ev (slot_ev e6 rfl)) (evc _ _) (by omega) (by omega)) (And.intro rfl rfl))
     refine ⟨fun a w vs62 hA hS hd => ?_, ?_⟩
     ·skip
      obtain ⟨e3, rs3, hy3, hp3⟩ := hd 3 (by decide)
      obtain ⟨hv3, hr3⟩ := hy3; subst hr3
      rw [hv3] at e3
      obtain ⟨e7, rs7, hy7, hp7⟩ := hd 7 (by decide)
      obtain ⟨hv7, hr7⟩ := hy7; subst hr7
      rw [hv7] at e7
      exact opG_of rfl (vv (op_call rfl en_33 (ev3 (tmp_ev (slot_ev e3 rfl)) (evc _ _) (tmp_ev (slot_ev e7 rfl))) (In_ok _ _ _ _)) (And.intro (by show Value.bool _ = _; simp only [hb26, decide_true, decide_false, Bool.not_true, Bool.not_false]) rfl))
     refine ⟨fun a w vs62 hA hS hd => ?_, ?_⟩
     ·skip
      obtain ⟨e8, rs8, hy8, hp8⟩ := hd 8 (by decide)
      obtain ⟨hv8, hr8⟩ := hy8; subst hr8
      rw [hv8] at e8
      exact opG_of rfl (vv (op_not rfl (tmp_ev (slot_ev e8 rfl))) (And.intro rfl rfl))
     refine ⟨fun a w vs62 hA hS hd => ?_, ?_⟩
     ·skip
      obtain ⟨e9, rs9, hy9, hp9⟩ := hd 9 (by decide)
      obtain ⟨hv9, hr9⟩ := hy9; subst hr9
      rw [hv9] at e9
      exact opG_of rfl (vv (op_move rfl (tmp_ev (slot_ev e9 rfl))) (And.intro rfl rfl))
     refine ⟨fun a w vs62 hA hS hd => ?_, ?_⟩
     ·skip
      obtain ⟨e10, rs10, hy10, hp10⟩ := hd 10 (by decide)
      obtain ⟨hv10, hr10⟩ := hy10; subst hr10
      rw [hv10] at e10
      exact opG_yes rfl rfl (slot_ev e10 rfl) (vv (op_move rfl (hA.ev rfl)) (And.intro rfl rfl))
     refine ⟨fun a w vs62 hA hS hd => ?_, ?_⟩
     ·skip
      obtain ⟨e10, rs10, hy10, hp10⟩ := hd 10 (by decide)
      obtain ⟨hv10, hr10⟩ := hy10; subst hr10
      rw [hv10] at e10
      obtain ⟨e11, rs11, hy11, hp11⟩ := hd 11 (by decide)
      obtain ⟨hv11, hr11⟩ := hy11; subst hr11
      rw [hv11] at e11
      exact opG_yes rfl rfl (slot_ev e10 rfl) (vv (op_gtr rfl (tmp_ev (slot_ev e11 rfl)) (evc _ _)) (And.intro (by show Value.bool _ = _; simp only [decide_eq_false hb30, decide_true, decide_false, Bool.not_true, Bool.not_false]) rfl))
     refine ⟨fun a w vs62 hA hS hd => ?_, ?_⟩
     ·skip
      obtain ⟨e10, rs10, hy10, hp10⟩ := hd 10 (by decide)
      obtain ⟨hv10, hr10⟩ := hy10; subst hr10
      rw [hv10] at e10
      obtain ⟨e12, rs12, hy12, hp12⟩ := hd 12 (by decide)
      obtain ⟨hv12, hr12⟩ := hy12; subst hr12
      rw [hv12] at e12
      exact opG_yes rfl rfl (slot_ev e10 rfl) (vv (op_move rfl (tmp_ev (slot_ev e12 rfl))) (And.intro rfl rfl))
     refine ⟨fun a w vs62 hA hS hd => ?_, ?_⟩
     ·skip
      obtain ⟨e13, rs13, hy13, hp13⟩ := hd 13 (by decide)
      obtain ⟨hv13, hr13⟩ := hy13; subst hr13
      rw [hv13] at e13
      exact opG_no rfl rfl (slot_ev e13 rfl) rfl (vskip (And.intro rfl rfl))
     refine ⟨fun a w vs62 hA hS hd => ?_, ?_⟩
     ·skip
      obtain ⟨e13, rs13, hy13, hp13⟩ := hd 13 (by decide)
      obtain ⟨hv13, hr13⟩ := hy13; subst hr13
      rw [hv13] at e13
      exact opG_no rfl rfl (slot_ev e13 rfl) rfl (vskip (And.intro rfl rfl))
     refine ⟨fun a w vs62 hA hS hd => ?_, ?_⟩
     ·skip
      obtain ⟨e13, rs13, hy13, hp13⟩ := hd 13 (by decide)
      obtain ⟨hv13, hr13⟩ := hy13; subst hr13
      rw [hv13] at e13
      obtain ⟨e14, rs14, hy14, hp14⟩ := hd 14 (by decide)
      obtain ⟨hv14, hr14⟩ := hy14; subst hr14
      rw [hv14] at e14
      obtain ⟨e15, rs15, hy15, hp15⟩ := hd 15 (by decide)
      obtain ⟨hv15, hr15⟩ := hy15; subst hr15
      rw [hv15] at e15
      exact opG_no rfl rfl (slot_ev e13 rfl) rfl (vskip (And.intro rfl rfl))
     refine ⟨fun a w vs62 hA hS hd => ?_, ?_⟩
     ·skip
      obtain ⟨e13, rs13, hy13, hp13⟩ := hd 13 (by decide)
      obtain ⟨hv13, hr13⟩ := hy13; subst hr13
      rw [hv13] at e13
      obtain ⟨e16, rs16, hy16, hp16⟩ := hd 16 (by decide)
      obtain ⟨hv16, hr16⟩ := hy16; subst hr16
      rw [hv16] at e16
      exact opG_no rfl rfl (slot_ev e13 rfl) rfl (vskip (And.intro rfl rfl))
     refine ⟨fun a w vs62 hA hS hd => ?_, ?_⟩
     ·skip
      obtain ⟨e13, rs13, hy13, hp13⟩ := hd 13 (by decide)
      obtain ⟨hv13, hr13⟩ := hy13; subst hr13
      rw [hv13] at e13
      exact opG_no rfl rfl (slot_ev e13 rfl) rfl (vskip (And.intro rfl rfl))
     refine ⟨fun a w vs62 hA hS hd => ?_, ?_⟩
     ·skip
      obtain ⟨e13, rs13, hy13, hp13⟩ := hd 13 (by decide)
      obtain ⟨hv13, hr13⟩ := hy13; subst hr13
      rw [hv13] at e13
      exact opG_no rfl rfl (slot_ev e13 rfl) rfl (vskip (And.intro rfl rfl))
     refine ⟨fun a w vs62 hA hS hd => ?_, ?_⟩
     ·skip
      obtain ⟨e13, rs13, hy13, hp13⟩ := hd 13 (by decide)
      obtain ⟨hv13, hr13⟩ := hy13; subst hr13
      rw [hv13] at e13
      obtain ⟨e19, rs19, hy19, hp19⟩ := hd 19 (by decide)
      obtain ⟨hv19, hr19⟩ := hy19; subst hr19
      rw [hv19] at e19
      exact opG_no rfl rfl (slot_ev e13 rfl) rfl (vskip (And.intro rfl rfl))
     refine ⟨fun a w vs62 hA hS hd => ?_, ?_⟩
     ·skip
      obtain ⟨e13, rs13, hy13, hp13⟩ := hd 13 (by decide)
      obtain ⟨hv13, hr13⟩ := hy13; subst hr13
      rw [hv13] at e13
      obtain ⟨e18, rs18, hy18, hp18⟩ := hd 18 (by decide)
      obtain ⟨hv18, hr18⟩ := hy18; subst hr18
      rw [hv18] at e18
      obtain ⟨e20, rs20, hy20, hp20⟩ := hd 20 (by decide)
      obtain ⟨hv20, hr20⟩ := hy20; subst hr20
      rw [hv20] at e20
      exact opG_no rfl rfl (slot_ev e13 rfl) rfl (vskip (And.intro rfl rfl))
     refine ⟨fun a w vs62 hA hS hd => ?_, ?_⟩
     ·skip
      obtain ⟨e13, rs13, hy13, hp13⟩ := hd 13 (by decide)
      obtain ⟨hv13, hr13⟩ := hy13; subst hr13
      rw [hv13] at e13
      obtain ⟨e21, rs21, hy21, hp21⟩ := hd 21 (by decide)
      obtain ⟨hv21, hr21⟩ := hy21; subst hr21
      rw [hv21] at e21
      exact opG_no rfl rfl (slot_ev e13 rfl) rfl (vskip (And.intro rfl rfl))
     trivial
    intro a63 w64 vs62 rsf68 hA65 hH67 hS66; clear hA61 hS14
    obtain ⟨hs_0, hy_0⟩ := hH67 0 (by decide)
    obtain ⟨hv_0, hr_0⟩ := hy_0
    obtain ⟨hs_1, hy_1⟩ := hH67 1 (by decide)
    obtain ⟨hv_1, hr_1⟩ := hy_1
    obtain ⟨hs_2, hy_2⟩ := hH67 2 (by decide)
    obtain ⟨hv_2, hr_2⟩ := hy_2
    obtain ⟨hs_3, hy_3⟩ := hH67 3 (by decide)
    obtain ⟨hv_3, hr_3⟩ := hy_3
    obtain ⟨hs_4, hy_4⟩ := hH67 4 (by decide)
    obtain ⟨hv_4, hr_4⟩ := hy_4
    obtain ⟨hs_5, hy_5⟩ := hH67 5 (by decide)
    obtain ⟨hv_5, hr_5⟩ := hy_5
    obtain ⟨hs_6, hy_6⟩ := hH67 6 (by decide)
    obtain ⟨hv_6, hr_6⟩ := hy_6
    obtain ⟨hs_7, hy_7⟩ := hH67 7 (by decide)
    obtain ⟨hv_7, hr_7⟩ := hy_7
    obtain ⟨hs_8, hy_8⟩ := hH67 8 (by decide)
    obtain ⟨hv_8, hr_8⟩ := hy_8
    obtain ⟨hs_9, hy_9⟩ := hH67 9 (by decide)
    obtain ⟨hv_9, hr_9⟩ := hy_9
    obtain ⟨hs_10, hy_10⟩ := hH67 10 (by decide)
    obtain ⟨hv_10, hr_10⟩ := hy_10
    obtain ⟨hs_11, hy_11⟩ := hH67 11 (by decide)
    obtain ⟨hv_11, hr_11⟩ := hy_11
    obtain ⟨hs_12, hy_12⟩ := hH67 12 (by decide)
    obtain ⟨hv_12, hr_12⟩ := hy_12
    obtain ⟨hs_13, hy_13⟩ := hH67 13 (by decide)
    obtain ⟨hv_13, hr_13⟩ := hy_13
    obtain ⟨hs_14, hy_14⟩ := hH67 14 (by decide)
    obtain ⟨hv_14, hr_14⟩ := hy_14
    obtain ⟨hs_15, hy_15⟩ := hH67 15 (by decide)
    obtain ⟨hv_15, hr_15⟩ := hy_15
    obtain ⟨hs_16, hy_16⟩ := hH67 16 (by decide)
    obtain ⟨hv_16, hr_16⟩ := hy_16
    obtain ⟨hs_17, hy_17⟩ := hH67 17 (by decide)
    obtain ⟨hv_17, hr_17⟩ := hy_17
    obtain ⟨hs_18, hy_18⟩ := hH67 18 (by decide)
    obtain ⟨hv_18, hr_18⟩ := hy_18
    obtain ⟨hs_19, hy_19⟩ := hH67 19 (by decide)
    obtain ⟨hv_19, hr_19⟩ := hy_19
    obtain ⟨hs_20, hy_20⟩ := hH67 20 (by decide)
    obtain ⟨hv_20, hr_20⟩ := hy_20
    obtain ⟨hs_21, hy_21⟩ := hH67 21 (by decide)
    obtain ⟨hv_21, hr_21⟩ := hy_21
    obtain ⟨hs_22, hy_22⟩ := hH67 22 (by decide)
    obtain ⟨hv_22, hr_22⟩ := hy_22
    have hS69 : Sep NoB w w64 [(blk b4 26 [rl, rs, (Value.int .i64 d.spread), rb]), (sl xl 1 l.length (ints l)), (rndR false rl rs rb rlv d)] := by rw [show catR rsf68 0 23 = ([] : List Res) by (try simp only [catR, hr_0, hr_1, hr_2, hr_3, hr_4, hr_5, hr_6, hr_7, hr_8, hr_9, hr_10, hr_11, hr_12, hr_13, hr_14, hr_15, hr_16, hr_17, hr_18, hr_19, hr_20, hr_21, hr_22]); (try rfl)] at hS66; exact hS66
    rw [hv_10] at hs_10
    have hA70 : Fr 38 [] [(22, (Value.bool (!true))), (5, (Value.int .i64 (k : Int))), (2, (bptr b4 0)), (1, xl)] a63 := hA65.add (slot_ev hs_10 rfl); clear hA65
    rw [hv_13] at hs_13
    have hA71 : Fr 38 [] [(25, (Value.bool false)), (22, (Value.bool (!true))), (5, (Value.int .i64 (k : Int))), (2, (bptr b4 0)), (1, xl)] a63 := hA70.add (slot_ev hs_13 rfl); clear hA70
    rw [hv_17] at hs_17
    have hA72 : Fr 38 [] [(29, undef), (25, (Value.bool false)), (22, (Value.bool (!true))), (5, (Value.int .i64 (k : Int))), (2, (bptr b4 0)), (1, xl)] a63 := hA71.add (slot_ev hs_17 rfl); clear hA71
    rw [hv_22] at hs_22
    have hA73 : Fr 38 [] [(34, undef), (29, undef), (25, (Value.bool false)), (22, (Value.bool (!true))), (5, (Value.int .i64 (k : Int))), (2, (bptr b4 0)), (1, xl)] a63 := hA72.add (slot_ev hs_22 rfl); clear hA72
    clear hH67 hS66 hs_0 hs_1 hs_2 hs_3 hs_4 hs_5 hs_6 hs_7 hs_8 hs_9 hs_10 hs_11 hs_12 hs_13 hs_14 hs_15 hs_16 hs_17 hs_18 hs_19 hs_20 hs_21 hs_22
    clear hr_0
    clear hv_0
    clear hr_1
    clear hv_1
    clear hr_2
    clear hv_2
    clear hr_3
    clear hv_3
    clear hr_4
    clear hv_4
    clear hr_5
    clear hv_5
    clear hr_6
    clear hv_6
    clear hr_7
    clear hv_7
    clear hr_8
    clear hv_8
    clear hr_9
    clear hv_9
    clear hr_10
    clear hv_10
    clear hr_11
    clear hv_11
    clear hr_12
    clear hv_12
    clear hr_13
    clear hv_13
    clear hr_14
    clear hv_14
    clear hr_15
    clear hv_15
    clear hr_16
    clear hv_16
    clear hr_17
    clear hv_17
    clear hr_18
    clear hv_18
    clear hr_19
    clear hv_19
    clear hr_20
    clear hv_20
    clear hr_21
    clear hv_21
    clear hr_22
    clear hv_22
    refine skp hA73 rfl rfl rfl rfl rfl (by decide) fun a74 hA75 => ?_; clear hA73 a63
    refine stg hA75 (op_pick_f rfl (hA75.ev rfl) (evc _ _)) rfl rfl rfl rfl (by decide) fun a76 hA77 => ?_; clear hA75 a74
    refine st hA77 (op_pick_f rfl (hA77.ev rfl) (hA77.ev rfl)) rfl rfl (by decide) fun a78 hA79 => ?_; clear hA77 a76
    refine wl_nil ?_
    refine then_n ?_
    refine c_false hA79 rfl ?_
    refine c_skip ?_
    refine blk_n ?_
    refine then_n ?_
    have hA80 := hA79.as [(5, (Value.int .i64 (k : Int))), (2, (bptr b4 0)), (1, xl)] rfl; clear hA79
    refine c_region ?_
    refine st hA80 (op_move rfl (hA80.ev rfl)) rfl rfl (by decide) fun a81 hA82 => ?_; clear hA80 a78
    refine st hA82 (op_add rfl (hA82.ev rfl) (evc _ _) (by omega) (by omega)) rfl rfl (by decide) fun a83 hA84 => ?_; clear hA82 a81
    refine st hA84 (op_assign rfl (hA84.ev rfl)) rfl rfl (by decide) fun a85 hA86 => ?_; clear hA84 a83
    refine wl_nil ?_
    exact then_n ⟨k + 1, ⟨hA86.as _ rfl, hS69, by omega, (fun i hi => by rcases Nat.lt_succ_iff_lt_or_eq.1 hi with h | h; exact hr i h; subst h; first | exact rise_yes (by assumption) (.inl (by omega)) | (rw [toNat_pred] at *; exact rise_yes (by assumption) (.inr (by omega))))⟩, by omega⟩
  ·skip
   have hq87 := hb26; simp only [Bool.and_eq_true, Bool.and_eq_false_iff, decide_eq_true_eq, decide_eq_false_iff_not] at hq87
   have hA88 := hA24.as [(5, (Value.int .i64 (k : Int))), (2, (bptr b4 0)), (1, xl)] rfl; clear hA24
   refine c_drawV mixed hA88 hS14 23 [[], [], [0, 1], [2], [], [4], [5], [6], [3, 7], [8], [9], [10], [10, 11], [10, 12], [13], [13], [13, 14, 15], [13, 16], [13], [13], [13, 19], [13, 18, 20], [13, 21]] [(fun (vs89 : Nat → Value) (v_ : Value) (rs_ : List Res) => v_ = xl ∧ rs_ = []), (fun (vs89 : Nat → Value) (v_ : Value) (rs_ : List Res) => v_ = (Value.int .i64 (k : Int)) ∧ rs_ = []), (fun (vs89 : Nat → Value) (v_ : Value) (rs_ : List Res) => v_ = (eptr xl (k * 1)) ∧ rs_ = []), (fun (vs89 : Nat → Value) (v_ : Value) (rs_ : List Res) => v_ = (Value.int .i64 (l.getD k 0)) ∧ rs_ = []), (fun (vs89 : Nat → Value) (v_ : Value) (rs_ : List Res) => v_ = (bptr b4 3) ∧ rs_ = []), (fun (vs89 : Nat → Value) (v_ : Value) (rs_ : List Res) => v_ = rb ∧ rs_ = []), (fun (vs89 : Nat → Value) (v_ : Value) (rs_ : List Res) => v_ = (Value.int .i64 (d.tols.length : Int)) ∧ rs_ = []), (fun (vs89 : Nat → Value) (v_ : Value) (rs_ : List Res) => v_ = (Value.int .i64 ((d.tols.length : Int) - 1)) ∧ rs_ = []), (fun (vs89 : Nat → Value) (v_ : Value) (rs_ : List Res) => v_ = (Value.bool false) ∧ rs_ = []), (fun (vs89 : Nat → Value) (v_ : Value) (rs_ : List Res) => v_ = (Value.bool (!false)) ∧ rs_ = []), (fun (vs89 : Nat → Value) (v_ : Value) (rs_ : List Res) => v_ = (Value.bool (!false)) ∧ rs_ = []), (fun (vs89 : Nat → Value) (v_ : Value) (rs_ : List Res) => v_ = undef ∧ rs_ = []), (fun (vs89 : Nat → Value) (v_ : Value) (rs_ : List Res) => v_ = undef ∧ rs_ = []), (fun (vs89 : Nat → Value) (v_ : Value) (rs_ : List Res) => v_ = undef ∧ rs_ = []), (fun (vs89 : Nat → Value) (v_ : Value) (rs_ : List Res) => v_ = undef ∧ rs_ = []), (fun (vs89 : Nat → Value) (v_ : Value) (rs_ : List Res) => v_ = undef ∧ rs_ = []), (fun (vs89 : Nat → Value) (v_ : Value) (rs_ : List Res) => v_ = undef ∧ rs_ = []), (fun (vs89 : Nat → Value) (v_ : Value) (rs_ : List Res) => v_ = undef ∧ rs_ = []), (fun (vs89 : Nat → Value) (v_ : Value) (rs_ : List Res) => v_ = undef ∧ rs_ = []), (fun (vs89 : Nat → Value) (v_ : Value) (rs_ : List Res) => v_ = undef ∧ rs_ = []), (fun (vs89 : Nat → Value) (v_ : Value) (rs_ : List Res) => v_ = undef ∧ rs_ = []), (fun (vs89 : Nat → Value) (v_ : Value) (rs_ : List Res) => v_ = undef ∧ rs_ = []), (fun (vs89 : Nat → Value) (v_ : Value) (rs_ : List Res) => v_ = undef ∧ rs_ = [])] (by decide +kernel) (by decide +kernel) rfl rfl ⟨(fun _ _ _ _ _ h_ => h_), (fun _ _ _ _ _ h_ => h_), (fun _ _ _ _ _ h_ => h_), (fun _ _ _ _ _ h_ => h_), (fun _ _ _ _ _ h_ => h_), (fun _ _ _ _ _ h_ => h_), (fun _ _ _ _ _ h_ => h_), (fun _ _ _ _ _ h_ => h_), (fun _ _ _ _ _ h_ => h_), (fun _ _ _ _ _ h_ => h_), (fun _ _ _ _ _ h_ => h_), (fun _ _ _ _ _ h_ => h_), (fun _ _ _ _ _ h_ => h_), (fun _ _ _ _ _ h_ => h_), (fun _ _ _ _ _ h_ => h_), (fun _ _ _ _ _ h_ => h_), (fun _ _ _ _ _ h_ => h_), (fun _ _ _ _ _ h_ => h_), (fun _ _ _ _ _ h_ => h_), (fun _ _ _ _ _ h_ => h_), (fun _ _ _ _ _ h_ => h_), (fun _ _ _ _ _ h_ => h_), (fun _ _ _ _ _ h_ => h_), trivial⟩ ?_ ?_
   ·skip
    refine ⟨fun a w vs89 hA hS hd => ?_, ?_⟩
    ·skip
     exact opG_of rfl (vv (op_move rfl (hA.ev rfl)) (And.intro rfl rfl))
    refine ⟨fun a w vs89 hA hS hd => ?_, ?_⟩
    ·skip
     exact opG_of rfl (vv (op_move rfl (hA.ev rfl)) (And.intro rfl rfl))
    refine ⟨fun a w vs89 hA hS hd => ?_, ?_⟩
    ·skip
     obtain ⟨e0, rs0, hy0, hp0⟩ := hd 0 (by decide)
     obtain ⟨hv0, hr0⟩ := hy0; subst hr0
     rw [hv0] at e0
     obtain ⟨e1, rs1, hy1, hp1⟩ := hd 1 (by decide)
     obtain ⟨hv1, hr1⟩ := hy1; subst hr1
     rw [hv1] at e1
     exact opG_of rfl (vv (op_indexS rfl un_23 ty_3 (tmp_ev (slot_ev e0 rfl)) (i := k) (tmp_ev (slot_ev e1 rfl)) (hS.sk 1 rfl) (by decide) (by omega)) (And.intro rfl rfl))
    refine ⟨fun a w vs89 hA hS hd => ?_, ?_⟩
    ·skip
     obtain ⟨e2, rs2, hy2, hp2⟩ := hd 2 (by decide)
     obtain ⟨hv2, hr2⟩ := hy2; subst hr2
     rw [hv2] at e2
     exact opG_of rfl (vv (op_load1E rfl ty_3 (tmp_ev (slot_ev e2 rfl)) (hS.sk 1 rfl) (ints_at (by omega))) (And.intro rfl rfl))
    refine ⟨fun a w vs89 hA hS hd => ?_, ?_⟩
    ·skip
     exact opG_of rfl (vv (op_field rfl fd_26_3 (hA.ev rfl)) (And.intro rfl rfl))
    refine ⟨fun a w vs89 hA hS hd => ?_, ?_⟩
    ·skip
     obtain ⟨e4, rs4, hy4, hp4⟩ := hd 4 (by decide)
     obtain ⟨hv4, hr4⟩ := hy4; subst hr4
     rw [hv4] at e4
     exact opG_of rfl (vv (op_load1 rfl ty_24 (tmp_ev (slot_ev e4 rfl)) (hS.bk 0 rfl) rfl) (And.intro rfl rfl))
    refine ⟨fun a w vs89 hA hS hd => ?_, ?_⟩
    ·skip
     obtain ⟨e5, rs5, hy5, hp5⟩ := hd 5 (by decide)
     obtain ⟨hv5, hr5⟩ := hy5; subst hr5
     rw [hv5] at e5
     exact opG_of rfl (vv (op_lenS rfl un_24 (tmp_ev (slot_ev e5 rfl)) (rnd_at (hS.ok 2 _ rfl)).labs) (And.intro rfl rfl))
    refine ⟨fun a w vs89 hA hS hd => ?_, ?_⟩
    ·skip
     obtain ⟨e6, rs6, hy6, hp6⟩ := hd 6 (by decide)
     obtain ⟨hv6, hr6⟩ := hy6; subst hr6
     rw [hv6] at e6
     exact opG_of rfl (vv (op_sub rfl (tmp_ev (slot_ev e6 rfl)) (evc _ _) (by omega) (by omega)) (And.intro rfl rfl))
    refine ⟨fun a w vs89 hA hS hd => ?_, ?_⟩
    ·skip
     obtain ⟨e3, rs3, hy3, hp3⟩ := hd 3 (by decide)
     obtain ⟨hv3, hr3⟩ := hy3; subst hr3
     rw [hv3] at e3
     obtain ⟨e7, rs7, hy7, hp7⟩ := hd 7 (by decide)
     obtain ⟨hv7, hr7⟩ := hy7; subst hr7
     rw [hv7] at e7
     exact opG_of rfl (vv (op_call rfl en_33 (ev3 (tmp_ev (slot_ev e3 rfl)) (evc _ _) (tmp_ev (slot_ev e7 rfl))) (In_ok _ _ _ _)) (And.intro (by show Value.bool _ = _; simp only [hb26, decide_true, decide_false, Bool.not_true, Bool.not_false]) rfl))
    refine ⟨fun a w vs89 hA hS hd => ?_, ?_⟩
    ·skip
     obtain ⟨e8, rs8, hy8, hp8⟩ := hd 8 (by decide)
     obtain ⟨hv8, hr8⟩ := hy8; subst hr8
     rw [hv8] at e8
     exact opG_of rfl (vv (op_not rfl (tmp_ev (slot_ev e8 rfl))) (And.intro rfl rfl))
    refine ⟨fun a w vs89 hA hS hd => ?_, ?_⟩
    ·skip
     obtain ⟨e9, rs9, hy9, hp9⟩ := hd 9 (by decide)
     obtain ⟨hv9, hr9⟩ := hy9; subst hr9
     rw [hv9] at e9
     exact opG_of rfl (vv (op_move rfl (tmp_ev (slot_ev e9 rfl))) (And.intro rfl rfl))
    refine ⟨fun a w vs89 hA hS hd => ?_, ?_⟩
    ·skip
     obtain ⟨e10, rs10, hy10, hp10⟩ := hd 10 (by decide)
     obtain ⟨hv10, hr10⟩ := hy10; subst hr10
     rw [hv10] at e10
     exact opG_no rfl rfl (slot_ev e10 rfl) rfl (vskip (And.intro rfl rfl))
    refine ⟨fun a w vs89 hA hS hd => ?_, ?_⟩
    ·skip
     obtain ⟨e10, rs10, hy10, hp10⟩ := hd 10 (by decide)
     obtain ⟨hv10, hr10⟩ := hy10; subst hr10
     rw [hv10] at e10
     obtain ⟨e11, rs11, hy11, hp11⟩ := hd 11 (by decide)
     obtain ⟨hv11, hr11⟩ := hy11; subst hr11
     rw [hv11] at e11
     exact opG_no rfl rfl (slot_ev e10 rfl) rfl (vskip (And.intro rfl rfl))
    refine ⟨fun a w vs89 hA hS hd => ?_, ?_⟩
    ·skip
     obtain ⟨e10, rs10, hy10, hp10⟩ := hd 10 (by decide)
     obtain ⟨hv10, hr10⟩ := hy10; subst hr10
     rw [hv10] at e10
     obtain ⟨e12, rs12, hy12, hp12⟩ := hd 12 (by decide)
     obtain ⟨hv12, hr12⟩ := hy12; subst hr12
     rw [hv12] at e12
     exact opG_no rfl rfl (slot_ev e10 rfl) rfl (vskip (And.intro rfl rfl))
    refine ⟨fun a w vs89 hA hS hd => ?_, ?_⟩
    ·skip
     obtain ⟨e13, rs13, hy13, hp13⟩ := hd 13 (by decide)
     obtain ⟨hv13, hr13⟩ := hy13; subst hr13
     rw [hv13] at e13
     exact opG_noU rfl rfl (slot_ev e13 rfl) (vskip (And.intro rfl rfl))
    refine ⟨fun a w vs89 hA hS hd => ?_, ?_⟩
    ·skip
     obtain ⟨e13, rs13, hy13, hp13⟩ := hd 13 (by decide)
     obtain ⟨hv13, hr13⟩ := hy13; subst hr13
     rw [hv13] at e13
     exact opG_noU rfl rfl (slot_ev e13 rfl) (vskip (And.intro rfl rfl))
    refine ⟨fun a w vs89 hA hS hd => ?_, ?_⟩
    ·skip
     obtain ⟨e13, rs13, hy13, hp13⟩ := hd 13 (by decide)
     obtain ⟨hv13, hr13⟩ := hy13; subst hr13
     rw [hv13] at e13
     obtain ⟨e14, rs14, hy14, hp14⟩ := hd 14 (by decide)
     obtain ⟨hv14, hr14⟩ := hy14; subst hr14
     rw [hv14] at e14
     obtain ⟨e15, rs15, hy15, hp15⟩ := hd 15 (by decide)
     obtain ⟨hv15, hr15⟩ := hy15; subst hr15
     rw [hv15] at e15
     exact opG_noU rfl rfl (slot_ev e13 rfl) (vskip (And.intro rfl rfl))
    refine ⟨fun a w vs89 hA hS hd => ?_, ?_⟩
    ·skip
     obtain ⟨e13, rs13, hy13, hp13⟩ := hd 13 (by decide)
     obtain ⟨hv13, hr13⟩ := hy13; subst hr13
     rw [hv13] at e13
     obtain ⟨e16, rs16, hy16, hp16⟩ := hd 16 (by decide)
     obtain ⟨hv16, hr16⟩ := hy16; subst hr16
     rw [hv16] at e16
     exact opG_noU rfl rfl (slot_ev e13 rfl) (vskip (And.intro rfl rfl))
    refine ⟨fun a w vs89 hA hS hd => ?_, ?_⟩
    ·skip
     obtain ⟨e13, rs13, hy13, hp13⟩ := hd 13 (by decide)
     obtain ⟨hv13, hr13⟩ := hy13; subst hr13
     rw [hv13] at e13
     exact opG_noU rfl rfl (slot_ev e13 rfl) (vskip (And.intro rfl rfl))
    refine ⟨fun a w vs89 hA hS hd => ?_, ?_⟩
    ·skip
     obtain ⟨e13, rs13, hy13, hp13⟩ := hd 13 (by decide)
     obtain ⟨hv13, hr13⟩ := hy13; subst hr13
     rw [hv13] at e13
     exact opG_noU rfl rfl (slot_ev e13 rfl) (vskip (And.intro rfl rfl))
    refine ⟨fun a w vs89 hA hS hd => ?_, ?_⟩
    ·skip
     obtain ⟨e13, rs13, hy13, hp13⟩ := hd 13 (by decide)
     obtain ⟨hv13, hr13⟩ := hy13; subst hr13
     rw [hv13] at e13
     obtain ⟨e19, rs19, hy19, hp19⟩ := hd 19 (by decide)
     obtain ⟨hv19, hr19⟩ := hy19; subst hr19
     rw [hv19] at e19
     exact opG_noU rfl rfl (slot_ev e13 rfl) (vskip (And.intro rfl rfl))
    refine ⟨fun a w vs89 hA hS hd => ?_, ?_⟩
    ·skip
     obtain ⟨e13, rs13, hy13, hp13⟩ := hd 13 (by decide)
     obtain ⟨hv13, hr13⟩ := hy13; subst hr13
     rw [hv13] at e13
     obtain ⟨e18, rs18, hy18, hp18⟩ := hd 18 (by decide)
     obtain ⟨hv18, hr18⟩ := hy18; subst hr18
     rw [hv18] at e18
     obtain ⟨e20, rs20, hy20, hp20⟩ := hd 20 (by decide)
     obtain ⟨hv20, hr20⟩ := hy20; subst hr20
     rw [hv20] at e20
     exact opG_noU rfl rfl (slot_ev e13 rfl) (vskip (And.intro rfl rfl))
    refine ⟨fun a w vs89 hA hS hd => ?_, ?_⟩
    ·skip
     obtain ⟨e13, rs13, hy13, hp13⟩ := hd 13 (by decide)
     obtain ⟨hv13, hr13⟩ := hy13; subst hr13
     rw [hv13] at e13
     obtain ⟨e21, rs21, hy21, hp21⟩ := hd 21 (by decide)
     obtain ⟨hv21, hr21⟩ := hy21; subst hr21
     rw [hv21] at e21
     exact opG_noU rfl rfl (slot_ev e13 rfl) (vskip (And.intro rfl rfl))
    trivial
   intro a90 w91 vs89 rsf95 hA92 hH94 hS93; clear hA88 hS14
   obtain ⟨hs_0, hy_0⟩ := hH94 0 (by decide)
   obtain ⟨hv_0, hr_0⟩ := hy_0
   obtain ⟨hs_1, hy_1⟩ := hH94 1 (by decide)
   obtain ⟨hv_1, hr_1⟩ := hy_1
   obtain ⟨hs_2, hy_2⟩ := hH94 2 (by decide)
   obtain ⟨hv_2, hr_2⟩ := hy_2
   obtain ⟨hs_3, hy_3⟩ := hH94 3 (by decide)
   obtain ⟨hv_3, hr_3⟩ := hy_3
   obtain ⟨hs_4, hy_4⟩ := hH94 4 (by decide)
   obtain ⟨hv_4, hr_4⟩ := hy_4
   obtain ⟨hs_5, hy_5⟩ := hH94 5 (by decide)
   obtain ⟨hv_5, hr_5⟩ := hy_5
   obtain ⟨hs_6, hy_6⟩ := hH94 6 (by decide)
   obtain ⟨hv_6, hr_6⟩ := hy_6
   obtain ⟨hs_7, hy_7⟩ := hH94 7 (by decide)
   obtain ⟨hv_7, hr_7⟩ := hy_7
   obtain ⟨hs_8, hy_8⟩ := hH94 8 (by decide)
   obtain ⟨hv_8, hr_8⟩ := hy_8
   obtain ⟨hs_9, hy_9⟩ := hH94 9 (by decide)
   obtain ⟨hv_9, hr_9⟩ := hy_9
   obtain ⟨hs_10, hy_10⟩ := hH94 10 (by decide)
   obtain ⟨hv_10, hr_10⟩ := hy_10
   obtain ⟨hs_11, hy_11⟩ := hH94 11 (by decide)
   obtain ⟨hv_11, hr_11⟩ := hy_11
   obtain ⟨hs_12, hy_12⟩ := hH94 12 (by decide)
   obtain ⟨hv_12, hr_12⟩ := hy_12
   obtain ⟨hs_13, hy_13⟩ := hH94 13 (by decide)
   obtain ⟨hv_13, hr_13⟩ := hy_13
   obtain ⟨hs_14, hy_14⟩ := hH94 14 (by decide)
   obtain ⟨hv_14, hr_14⟩ := hy_14
   obtain ⟨hs_15, hy_15⟩ := hH94 15 (by decide)
   obtain ⟨hv_15, hr_15⟩ := hy_15
   obtain ⟨hs_16, hy_16⟩ := hH94 16 (by decide)
   obtain ⟨hv_16, hr_16⟩ := hy_16
   obtain ⟨hs_17, hy_17⟩ := hH94 17 (by decide)
   obtain ⟨hv_17, hr_17⟩ := hy_17
   obtain ⟨hs_18, hy_18⟩ := hH94 18 (by decide)
   obtain ⟨hv_18, hr_18⟩ := hy_18
   obtain ⟨hs_19, hy_19⟩ := hH94 19 (by decide)
   obtain ⟨hv_19, hr_19⟩ := hy_19
   obtain ⟨hs_20, hy_20⟩ := hH94 20 (by decide)
   obtain ⟨hv_20, hr_20⟩ := hy_20
   obtain ⟨hs_21, hy_21⟩ := hH94 21 (by decide)
   obtain ⟨hv_21, hr_21⟩ := hy_21
   obtain ⟨hs_22, hy_22⟩ := hH94 22 (by decide)
   obtain ⟨hv_22, hr_22⟩ := hy_22
   have hS96 : Sep NoB w w91 [(blk b4 26 [rl, rs, (Value.int .i64 d.spread), rb]), (sl xl 1 l.length (ints l)), (rndR false rl rs rb rlv d)] := by rw [show catR rsf95 0 23 = ([] : List Res) by (try simp only [catR, hr_0, hr_1, hr_2, hr_3, hr_4, hr_5, hr_6, hr_7, hr_8, hr_9, hr_10, hr_11, hr_12, hr_13, hr_14, hr_15, hr_16, hr_17, hr_18, hr_19, hr_20, hr_21, hr_22]); (try rfl)] at hS93; exact hS93
   rw [hv_10] at hs_10
   have hA97 : Fr 38 [] [(22, (Value.bool (!false))), (5, (Value.int .i64 (k : Int))), (2, (bptr b4 0)), (1, xl)] a90 := hA92.add (slot_ev hs_10 rfl); clear hA92
   rw [hv_13] at hs_13
   have hA98 : Fr 38 [] [(25, undef), (22, (Value.bool (!false))), (5, (Value.int .i64 (k : Int))), (2, (bptr b4 0)), (1, xl)] a90 := hA97.add (slot_ev hs_13 rfl); clear hA97
   rw [hv_17] at hs_17
   have hA99 : Fr 38 [] [(29, undef), (25, undef), (22, (Value.bool (!false))), (5, (Value.int .i64 (k : Int))), (2, (bptr b4 0)), (1, xl)] a90 := hA98.add (slot_ev hs_17 rfl); clear hA98
   rw [hv_22] at hs_22
   have hA100 : Fr 38 [] [(34, undef), (29, undef), (25, undef), (22, (Value.bool (!false))), (5, (Value.int .i64 (k : Int))), (2, (bptr b4 0)), (1, xl)] a90 := hA99.add (slot_ev hs_22 rfl); clear hA99
   clear hH94 hS93 hs_0 hs_1 hs_2 hs_3 hs_4 hs_5 hs_6 hs_7 hs_8 hs_9 hs_10 hs_11 hs_12 hs_13 hs_14 hs_15 hs_16 hs_17 hs_18 hs_19 hs_20 hs_21 hs_22
   clear hr_0
   clear hv_0
   clear hr_1
   clear hv_1
   clear hr_2
   clear hv_2
   clear hr_3
   clear hv_3
   clear hr_4
   clear hv_4
   clear hr_5
   clear hv_5
   clear hr_6
   clear hv_6
   clear hr_7
   clear hv_7
   clear hr_8
   clear hv_8
   clear hr_9
   clear hv_9
   clear hr_10
   clear hv_10
   clear hr_11
   clear hv_11
   clear hr_12
   clear hv_12
   clear hr_13
   clear hv_13
   clear hr_14
   clear hv_14
   clear hr_15
   clear hv_15
   clear hr_16
   clear hv_16
   clear hr_17
   clear hv_17
   clear hr_18
   clear hv_18
   clear hr_19
   clear hv_19
   clear hr_20
   clear hv_20
   clear hr_21
   clear hv_21
   clear hr_22
   clear hv_22
   refine skpU hA100 rfl rfl rfl rfl (by decide) fun a101 hA102 => ?_; clear hA100 a90
   refine skp hA102 rfl rfl rfl rfl rfl (by decide) fun a103 hA104 => ?_; clear hA102 a101
   refine st hA104 (op_pick_t rfl (hA104.ev rfl) (evc _ _)) rfl rfl (by decide) fun a105 hA106 => ?_; clear hA104 a103
   refine wl_nil ?_
   refine then_n ?_
   refine c_true hA106 rfl ?_
   refine c_seq ?_
   have hA107 := hA106.as [] rfl; clear hA106
   refine c_region ?_
   refine st hA107 (op_assign rfl (evc _ _)) rfl rfl (by decide) fun a108 hA109 => ?_; clear hA107 a105
   refine wl_nil ?_
   refine then_n ?_
   refine c_ret ?_
   refine blk_ret ?_
   refine then_ret ?_
   refine then_ret ?_
   refine blk_ret ?_
   refine then_ret ?_
   refine fin_run hA109 (.inl rfl) (run_results1 hA109 rfl (.tmp rfl)) ?_
   exact ⟨congrArg Value.bool (by first | exact (riseB_yes (fun i hi => hr i (by omega))).symm | exact (riseB_no (k := k) (by omega) (by first | exact rise_no1 (by assumption) | (rw [toNat_pred] at *; exact rise_no2 (by omega) (by omega)))).symm), hS96.ext⟩
 ·skip
  rw [decide_eq_false hb23] at hA22
  refine c_false hA22 rfl ?_
  refine c_exit ?_
  refine then_exit ?_
  refine then_exit ?_
  refine blk_hit ?_
  refine then_n ?_
  refine c_seq ?_
  have hA110 := hA22.as [] rfl; clear hA22
  refine c_region ?_
  refine st hA110 (op_assign rfl (evc _ _)) rfl rfl (by decide) fun a111 hA112 => ?_; clear hA110 a21
  refine wl_nil ?_
  refine then_n ?_
  refine c_ret ?_
  refine fin_run hA112 (.inl rfl) (run_results1 hA112 rfl (.tmp rfl)) ?_
  exact ⟨congrArg Value.bool (by first | exact (riseB_yes (fun i hi => hr i (by omega))).symm | exact (riseB_no (k := k) (by omega) (by first | exact rise_no1 (by assumption) | (rw [toNat_pred] at *; exact rise_no2 (by omega) (by omega)))).symm), hS14.ext⟩

end Go.Proofs.Ytfhmigoddaaljaa
