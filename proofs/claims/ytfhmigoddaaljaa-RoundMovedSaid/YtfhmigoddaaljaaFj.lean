/-
  Walks through the functions of the seat, printed by a program of ours (gowalk), a theorem a function: what the call returns and what it leaves in memory.
-/
import Derived.Test.YtfhmigoddaaljaaFg
import Derived.Test.YtfhmigoddaaljaaPlain
import Derived.Test.YtfhmigoddaaljaaEng
set_option linter.unusedSimpArgs false
set_option linter.unusedVariables false
namespace Go.Proofs.Ytfhmigoddaaljaa
open Go.RowKit Go.Shelf Go.Eng
set_option maxHeartbeats 4000000 in
theorem RoundMoved_a (rl rs rb : Value) (rlv : List Value) (d : RD) (w : World) (hR : RoundAt w rl rs rb rlv d) (x : Nat) (hxb : x < 256) (y : Nat) (hyb : y < 256) (m : Int) (hm : 0 ≤ m ∧ m ≤ 65535) (hf : readyB d = false) :
  Calls Try.prog 12 #[(Value.agg #[rl, rs, (Value.int .i64 d.spread), rb]), (Value.int .u8 (x : Int)), (Value.int .u8 (y : Int)), (Value.int .u16 m)] w (Ret fun v w' => v = .bool true ∧ Ext NoB w w') := by
 refine calls_enter Try.func12 rfl fun a0 hA0 => ?_
 replace hA0 : Fr 258 [] [(0, (Value.agg #[rl, rs, (Value.int .i64 d.spread), rb])), (1, (Value.int .u8 (x : Int))), (2, (Value.int .u8 (y : Int))), (3, (Value.int .u16 m))] a0 := hA0
 have hS0 : Sep NoB w w [(rndR false rl rs rb rlv d)] := sep_ro ⟨rfl, hR, trivial⟩
 refine c_seq ?_
 refine c_region ?_
 refine stw hA0 (op_box hS0 rfl (hA0.ev rfl) (cs := [rl, rs, (Value.int .i64 d.spread), rb]) rfl) rfl rfl (by decide) ?_
 rintro a1 _ w3 ⟨b4, rfl, hS5⟩ hA2; clear hA0 hS0 a0
 refine st hA2 (op_assign rfl (evc _ _)) rfl rfl (by decide) fun a6 hA7 => ?_; clear hA2 a1
 refine wl_nil ?_
 refine then_n ?_
 refine c_seq ?_
 refine c_seq ?_
 refine c_region ?_
 refine st hA7 (op_loadA rfl ty_26 (hA7.ev rfl) (hS5.bk 0 rfl) (l := [rl, rs, (Value.int .i64 d.spread), rb]) rfl rfl) rfl rfl (by decide) fun a8 hA9 => ?_; clear hA7 a6
 refine stw hA9 (op_call rfl en_35 (ev1 (hA9.ev rfl)) (ready_ok rl rs rb rlv d _ (rnd_at (hS5.ok 1 _ rfl)))) rfl rfl (by decide) ?_
 rintro a10 _ w12 ⟨rfl, hE13⟩ hA11; have hS14 := hS5.step hE13; clear hE13 hA9 hS5 a8
 rw [hf] at hA11
 refine st hA11 (op_not rfl (hA11.ev rfl)) rfl rfl (by decide) fun a15 hA16 => ?_; clear hA11 a10
 refine wl_nil ?_
 refine then_n ?_
 refine c_true hA16 rfl ?_
 refine c_seq ?_
 have hA17 := hA16.as [] rfl; clear hA16
 refine c_region ?_
 refine stw hA17 (op_call rfl en_18 ev0 (wakes_ok _)) rfl rfl (by decide) ?_
 rintro a18 _ w20 ⟨rfl, hE21⟩ hA19; have hS22 := hS14.step hE21; clear hE21 hA17 hS14 a15
 refine st hA19 (op_assign rfl (hA19.ev rfl)) rfl rfl (by decide) fun a23 hA24 => ?_; clear hA19 a18
 refine wl_nil ?_
 refine then_n ?_
 refine c_ret ?_
 refine then_ret ?_
 refine fin_run hA24 (.inl rfl) (run_results1 hA24 rfl (.tmp rfl)) ?_
 exact ⟨rfl, hS22.ext⟩

set_option maxHeartbeats 4000000 in
theorem RoundMoved_b (rl rs rb : Value) (rlv : List Value) (d : RD) (w : World) (hR : RoundAt w rl rs rb rlv d) (x : Nat) (hxb : x < 256) (y : Nat) (hyb : y < 256) (m : Int) (hm : 0 ≤ m ∧ m ≤ 65535) (hf : readyB d = true) (hcM : checkR (movedD d ((m).tmod 500)) ≠ 0) :
  Calls Try.prog 12 #[(Value.agg #[rl, rs, (Value.int .i64 d.spread), rb]), (Value.int .u8 (x : Int)), (Value.int .u8 (y : Int)), (Value.int .u16 m)] w (Ret fun v w' => v = .bool true ∧ Ext NoB w w') := by
 refine calls_enter Try.func12 rfl fun a0 hA0 => ?_
 replace hA0 : Fr 258 [] [(0, (Value.agg #[rl, rs, (Value.int .i64 d.spread), rb])), (1, (Value.int .u8 (x : Int))), (2, (Value.int .u8 (y : Int))), (3, (Value.int .u16 m))] a0 := hA0
 have hth := thin_of (ready_of hf).1; have hc := (ready_of hf).2; have hV := valid_of hc; have hnb := hV.nb; have hns := hV.ns; have hnl := hV.nl; have htm := tmod_nn hm.1 (show (0 : Int) < 500 by decide); have hsp := hV.spread
 have hS0 : Sep NoB w w [(rndR false rl rs rb rlv d)] := sep_ro ⟨rfl, hR, trivial⟩
 refine c_seq ?_
 refine c_region ?_
 refine stw hA0 (op_box hS0 rfl (hA0.ev rfl) (cs := [rl, rs, (Value.int .i64 d.spread), rb]) rfl) rfl rfl (by decide) ?_
 rintro a1 _ w3 ⟨b4, rfl, hS5⟩ hA2; clear hA0 hS0 a0
 refine st hA2 (op_assign rfl (evc _ _)) rfl rfl (by decide) fun a6 hA7 => ?_; clear hA2 a1
 refine wl_nil ?_
 refine then_n ?_
 refine c_seq ?_
 refine c_seq ?_
 refine c_region ?_
 refine st hA7 (op_loadA rfl ty_26 (hA7.ev rfl) (hS5.bk 0 rfl) (l := [rl, rs, (Value.int .i64 d.spread), rb]) rfl rfl) rfl rfl (by decide) fun a8 hA9 => ?_; clear hA7 a6
 refine stw hA9 (op_call rfl en_35 (ev1 (hA9.ev rfl)) (ready_ok rl rs rb rlv d _ (rnd_at (hS5.ok 1 _ rfl)))) rfl rfl (by decide) ?_
 rintro a10 _ w12 ⟨rfl, hE13⟩ hA11; have hS14 := hS5.step hE13; clear hE13 hA9 hS5 a8
 rw [hf] at hA11
 refine st hA11 (op_not rfl (hA11.ev rfl)) rfl rfl (by decide) fun a15 hA16 => ?_; clear hA11 a10
 refine wl_nil ?_
 refine then_n ?_
 refine c_false hA16 rfl ?_
 refine c_skip ?_
 refine then_n ?_
 refine c_seq ?_
 refine c_region ?_
 refine st hA16 (op_move rfl (hA16.ev rfl)) rfl rfl (by decide) fun a17 hA18 => ?_; clear hA16 a15
 refine st hA18 (op_conv un_59 un_3 rfl (hA18.ev rfl) (v := m) (wrap_i64 (by omega) (by omega))) rfl rfl (by decide) fun a19 hA20 => ?_; clear hA18 a17
 refine st hA20 (op_rem rfl (hA20.ev rfl) (evc _ _) (by omega)) rfl rfl (by decide) fun a21 hA22 => ?_; clear hA20 a19
 refine st hA22 (op_assign rfl (hA22.ev rfl)) rfl rfl (by decide) fun a23 hA24 => ?_; clear hA22 a21
 refine wl_nil ?_
 refine then_n ?_
 refine c_seq ?_
 have hA25 := hA24.as [(9, (Value.int .i64 ((m).tmod 500))), (4, (bptr b4 0)), (1, (Value.int .u8 (x : Int))), (2, (Value.int .u8 (y : Int)))] rfl; clear hA24
 refine c_region ?_
 refine st hA25 (op_field rfl fd_26_1 (hA25.ev rfl)) rfl rfl (by decide) fun a26 hA27 => ?_; clear hA25 a23
 refine st hA27 (op_load1 rfl ty_23 (hA27.ev rfl) (hS14.bk 0 rfl) rfl) rfl rfl (by decide) fun a28 hA29 => ?_; clear hA27 a26
 refine st hA29 (op_field rfl fd_26_2 (hA29.ev rfl)) rfl rfl (by decide) fun a30 hA31 => ?_; clear hA29 a28
 refine st hA31 (op_load1 rfl ty_3 (hA31.ev rfl) (hS14.bk 0 rfl) rfl) rfl rfl (by decide) fun a32 hA33 => ?_; clear hA31 a30
 refine st hA33 (op_build rfl (pv2 (hA33.ev rfl) (hA33.ev rfl)) (bd_26_1s_2i _ (SlAt.isSl (rnd_at (hS14.ok 1 _ rfl)).samples) _)) rfl rfl (by decide) fun a34 hA35 => ?_; clear hA33 a32
 refine stw hA35 (op_alloc hS14 rfl ze_26 (cs := [(Value.slice none 0 0), (Value.slice none 0 0), (Value.int .i64 0), (Value.slice none 0 0)]) rfl) rfl rfl (by decide) ?_
 rintro a36 _ w38 ⟨b39, rfl, hS40⟩ hA37; clear hA35 hS14 a34
 refine sts hA37 (op_store hS40 rfl ty_26 (hA37.ev rfl) (hA37.ev rfl) (i := 0) rfl (vs := [(Value.slice none 0 0), rs, (Value.int .i64 d.spread), (Value.slice none 0 0)]) rfl rfl (all_c rfl (all_c (SlAt.one (rnd_at (hS40.ok 2 _ rfl)).samples) (all_c rfl (all_c rfl all_n)))) (Nat.le_of_ble_eq_true rfl)) rfl rfl ?_
 intro _ w41 hS42 hA43; clear hA37
 have hS44 : Sep NoB w w41 [(blk b39 26 [(Value.slice none 0 0), rs, (Value.int .i64 d.spread), (Value.slice none 0 0)]), (blk b4 26 [rl, rs, (Value.int .i64 d.spread), rb]), (rndR false rl rs rb rlv d)] := hS42; clear hS42 hS40
 refine wl_nil ?_
 refine then_n ?_
 refine c_seq ?_
 refine c_seq ?_
 refine c_region ?_
 refine st hA43 (op_assign rfl (evc _ _)) rfl rfl (by decide) fun a45 hA46 => ?_; clear hA43 a36
 refine wl_nil ?_
 refine then_n ?_
 refine c_block ?_
 have hS47 := hS44.nil_row 44 2; clear hS44
 have hA48 := hA46.as [(11, (Value.int .i64 0)), (10, (bptr b39 0)), (9, (Value.int .i64 ((m).tmod 500))), (4, (bptr b4 0)), (1, (Value.int .u8 (x : Int))), (2, (Value.int .u8 (y : Int)))] rfl; clear hA46
 refine c_loop (G := Nat) (fun (k : Nat) a_ w_ => ∃ vl_ : Value, Fr 258 [] [(11, (Value.int .i64 (k : Int))), (10, (bptr b39 0)), (9, (Value.int .i64 ((m).tmod 500))), (4, (bptr b4 0)), (1, (Value.int .u8 (x : Int))), (2, (Value.int .u8 (y : Int)))] a_ ∧ Sep NoB w w_ [(row vl_ 44 2 ((movLots d ((m).tmod 500) k).length) (pairs (movLots d ((m).tmod 500) k))), (blk b39 26 [vl_, rs, (Value.int .i64 d.spread), (Value.slice none 0 0)]), (blk b4 26 [rl, rs, (Value.int .i64 d.spread), rb]), (rndR false rl rs rb rlv d)] ∧ (k ≤ d.lots.length)) (fun k => d.lots.length - k) 0 ⟨(Value.slice none 0 0), hA48.as _ rfl, hS47, by omega⟩ ?_
 clear hA48 hS47 a45
 rintro k a49 w51 ⟨vl_, hA50, hS52, hk⟩
 have htk := movLots_len d ((m).tmod 500) k
 refine c_seq ?_
 refine c_seq ?_
 refine c_region ?_
 refine st hA50 (op_move rfl (hA50.ev rfl)) rfl rfl (by decide) fun a53 hA54 => ?_; clear hA50 a49
 refine st hA54 (op_field rfl fd_26_0 (hA54.ev rfl)) rfl rfl (by decide) fun a55 hA56 => ?_; clear hA54 a53
 refine st hA56 (op_load1 rfl ty_22 (hA56.ev rfl) (hS52.bk 2 rfl) rfl) rfl rfl (by decide) fun a57 hA58 => ?_; clear hA56 a55
 refine st hA58 (op_lenS rfl un_22 (hA58.ev rfl) (rnd_at (hS52.ok 3 _ rfl)).lots) rfl rfl (by decide) fun a59 hA60 => ?_; clear hA58 a57
 refine st hA60 (op_lss rfl (hA60.ev rfl) (hA60.ev rfl)) rfl rfl (by decide) fun a61 hA62 => ?_; clear hA60 a59
 refine wl_nil ?_
 refine then_n ?_
 by_cases hb63 : (k : Int) < (d.lots.length : Int)
 ·skip
  rw [decide_eq_true hb63] at hA62
  have hlt := hV.lots k (by omega)
  refine c_true hA62 rfl ?_
  refine c_skip ?_
  refine then_n ?_
  refine c_seq ?_
  refine c_block ?_
  have hA64 := hA62.as [(11, (Value.int .i64 (k : Int))), (10, (bptr b39 0)), (9, (Value.int .i64 ((m).tmod 500))), (4, (bptr b4 0)), (1, (Value.int .u8 (x : Int))), (2, (Value.int .u8 (y : Int)))] rfl; clear hA62
  refine c_drawV mixed hA64 hS52 20 [[], [0], [], [2], [], [3, 4], [5], [6], [], [7, 8], [], [10], [], [11, 12], [13], [14], [], [15, 16], [9, 17], [18]] [(fun (vs65 : Nat → Value) (v_ : Value) (rs_ : List Res) => v_ = (bptr b39 0) ∧ rs_ = []), (fun (vs65 : Nat → Value) (v_ : Value) (rs_ : List Res) => v_ = vl_ ∧ rs_ = []), (fun (vs65 : Nat → Value) (v_ : Value) (rs_ : List Res) => v_ = (bptr b4 0) ∧ rs_ = []), (fun (vs65 : Nat → Value) (v_ : Value) (rs_ : List Res) => v_ = rl ∧ rs_ = []), (fun (vs65 : Nat → Value) (v_ : Value) (rs_ : List Res) => v_ = (Value.int .i64 (k : Int)) ∧ rs_ = []), (fun (vs65 : Nat → Value) (v_ : Value) (rs_ : List Res) => v_ = (eptr rl (k * 2)) ∧ rs_ = []), (fun (vs65 : Nat → Value) (v_ : Value) (rs_ : List Res) => v_ = (eptr rl (k * 2 + 0)) ∧ rs_ = []), (fun (vs65 : Nat → Value) (v_ : Value) (rs_ : List Res) => v_ = (Value.int .i64 ((d.lots.getD k (0, 0)).1)) ∧ rs_ = []), (fun (vs65 : Nat → Value) (v_ : Value) (rs_ : List Res) => v_ = (Value.int .i64 ((m).tmod 500)) ∧ rs_ = []), (fun (vs65 : Nat → Value) (v_ : Value) (rs_ : List Res) => v_ = (Value.int .i64 (((d.lots.getD k (0, 0)).1) + ((m).tmod 500))) ∧ rs_ = []), (fun (vs65 : Nat → Value) (v_ : Value) (rs_ : List Res) => v_ = (bptr b4 0) ∧ rs_ = []), (fun (vs65 : Nat → Value) (v_ : Value) (rs_ : List Res) => v_ = rl ∧ rs_ = []), (fun (vs65 : Nat → Value) (v_ : Value) (rs_ : List Res) => v_ = (Value.int .i64 (k : Int)) ∧ rs_ = []), (fun (vs65 : Nat → Value) (v_ : Value) (rs_ : List Res) => v_ = (eptr rl (k * 2)) ∧ rs_ = []), (fun (vs65 : Nat → Value) (v_ : Value) (rs_ : List Res) => v_ = (eptr rl (k * 2 + 1)) ∧ rs_ = []), (fun (vs65 : Nat → Value) (v_ : Value) (rs_ : List Res) => v_ = (Value.int .i64 ((d.lots.getD k (0, 0)).2)) ∧ rs_ = []), (fun (vs65 : Nat → Value) (v_ : Value) (rs_ : List Res) => v_ = (Value.int .i64 ((m).tmod 500)) ∧ rs_ = []), (fun (vs65 : Nat → Value) (v_ : Value) (rs_ : List Res) => v_ = (Value.int .i64 (((d.lots.getD k (0, 0)).2) + ((m).tmod 500))) ∧ rs_ = []), (fun (vs65 : Nat → Value) (v_ : Value) (rs_ : List Res) => v_ = (Value.agg #[(Value.int .i64 (((d.lots.getD k (0, 0)).1) + ((m).tmod 500))), (Value.int .i64 (((d.lots.getD k (0, 0)).2) + ((m).tmod 500)))]) ∧ rs_ = []), (fun (vs65 : Nat → Value) (v_ : Value) (rs_ : List Res) => True ∧ rs_ = [(row v_ 44 2 1 [(Value.int .i64 (((d.lots.getD k (0, 0)).1) + ((m).tmod 500))), (Value.int .i64 (((d.lots.getD k (0, 0)).2) + ((m).tmod 500)))])])] (by decide +kernel) (by decide +kernel) rfl rfl ⟨(fun _ _ _ _ _ h_ => h_), (fun _ _ _ _ _ h_ => h_), (fun _ _ _ _ _ h_ => h_), (fun _ _ _ _ _ h_ => h_), (fun _ _ _ _ _ h_ => h_), (fun _ _ _ _ _ h_ => h_), (fun _ _ _ _ _ h_ => h_), (fun _ _ _ _ _ h_ => h_), (fun _ _ _ _ _ h_ => h_), (fun _ _ _ _ _ h_ => h_), (fun _ _ _ _ _ h_ => h_), (fun _ _ _ _ _ h_ => h_), (fun _ _ _ _ _ h_ => h_), (fun _ _ _ _ _ h_ => h_), (fun _ _ _ _ _ h_ => h_), (fun _ _ _ _ _ h_ => h_), (fun _ _ _ _ _ h_ => h_), (fun _ _ _ _ _ h_ => h_), (fun _ _ _ _ _ h_ => h_), (fun _ _ _ _ _ h_ => h_), trivial⟩ ?_ ?_
  ·skip
   refine ⟨fun a w vs65 hA hS hd => ?_, ?_⟩
   ·skip
    exact opG_of rfl (vv (op_field rfl fd_26_0 (hA.ev rfl)) (And.intro rfl rfl))
   refine ⟨fun a w vs65 hA hS hd => ?_, ?_⟩
   ·skip
    obtain ⟨e0, rs0, hy0, hp0⟩ := hd 0 (by decide)
    obtain ⟨hv0, hr0⟩ := hy0; subst hr0
    rw [hv0] at e0
    exact opG_of rfl (vv (op_load1 rfl ty_22 (tmp_ev (slot_ev e0 rfl)) (hS.bk 1 rfl) rfl) (And.intro rfl rfl))
   refine ⟨fun a w vs65 hA hS hd => ?_, ?_⟩
   ·skip
    exact opG_of rfl (vv (op_field rfl fd_26_0 (hA.ev rfl)) (And.intro rfl rfl))
   refine ⟨fun a w vs65 hA hS hd => ?_, ?_⟩
   ·skip
    obtain ⟨e2, rs2, hy2, hp2⟩ := hd 2 (by decide)
    obtain ⟨hv2, hr2⟩ := hy2; subst hr2
    rw [hv2] at e2
    exact opG_of rfl (vv (op_load1 rfl ty_22 (tmp_ev (slot_ev e2 rfl)) (hS.bk 2 rfl) rfl) (And.intro rfl rfl))
   refine ⟨fun a w vs65 hA hS hd => ?_, ?_⟩
   ·skip
    exact opG_of rfl (vv (op_move rfl (hA.ev rfl)) (And.intro rfl rfl))
   refine ⟨fun a w vs65 hA hS hd => ?_, ?_⟩
   ·skip
    obtain ⟨e3, rs3, hy3, hp3⟩ := hd 3 (by decide)
    obtain ⟨hv3, hr3⟩ := hy3; subst hr3
    rw [hv3] at e3
    obtain ⟨e4, rs4, hy4, hp4⟩ := hd 4 (by decide)
    obtain ⟨hv4, hr4⟩ := hy4; subst hr4
    rw [hv4] at e4
    exact opG_of rfl (vv (op_indexS rfl un_22 ty_44 (tmp_ev (slot_ev e3 rfl)) (i := k) (tmp_ev (slot_ev e4 rfl)) (rnd_at (hS.ok 3 _ rfl)).lots (by decide) (by omega)) (And.intro rfl rfl))
   refine ⟨fun a w vs65 hA hS hd => ?_, ?_⟩
   ·skip
    obtain ⟨e5, rs5, hy5, hp5⟩ := hd 5 (by decide)
    obtain ⟨hv5, hr5⟩ := hy5; subst hr5
    rw [hv5] at e5
    exact opG_of rfl (vv (op_fieldS rfl fd_44_0 (tmp_ev (slot_ev e5 rfl)) (rnd_at (hS.ok 3 _ rfl)).lots (by rw [((rnd_at (hS.ok 3 _ rfl)).lots).1]; omega)) (And.intro rfl rfl))
   refine ⟨fun a w vs65 hA hS hd => ?_, ?_⟩
   ·skip
    obtain ⟨e6, rs6, hy6, hp6⟩ := hd 6 (by decide)
    obtain ⟨hv6, hr6⟩ := hy6; subst hr6
    rw [hv6] at e6
    exact opG_of rfl (vv (op_load1E rfl ty_3 (tmp_ev (slot_ev e6 rfl)) (rnd_at (hS.ok 3 _ rfl)).lots (pairs_at0 (by omega))) (And.intro rfl rfl))
   refine ⟨fun a w vs65 hA hS hd => ?_, ?_⟩
   ·skip
    exact opG_of rfl (vv (op_move rfl (hA.ev rfl)) (And.intro rfl rfl))
   refine ⟨fun a w vs65 hA hS hd => ?_, ?_⟩
   ·skip
    obtain ⟨e7, rs7, hy7, hp7⟩ := hd 7 (by decide)
    obtain ⟨hv7, hr7⟩ := hy7; subst hr7
    rw [hv7] at e7
    obtain ⟨e8, rs8, hy8, hp8⟩ := hd 8 (by decide)
    obtain ⟨hv8, hr8⟩ := hy8; subst hr8
    rw [hv8] at e8
    exact opG_of rfl (vv (op_add rfl (tmp_ev (slot_ev e7 rfl)) (tmp_ev (slot_ev e8 rfl)) (by omega) (by omega)) (And.intro rfl rfl))
   refine ⟨fun a w vs65 hA hS hd => ?_, ?_⟩
   ·skip
    exact opG_of rfl (vv (op_field rfl fd_26_0 (hA.ev rfl)) (And.intro rfl rfl))
   refine ⟨fun a w vs65 hA hS hd => ?_, ?_⟩
   ·skip
    obtain ⟨e10, rs10, hy10, hp10⟩ := hd 10 (by decide)
    obtain ⟨hv10, hr10⟩ := hy10; subst hr10
    rw [hv10] at e10
    exact opG_of rfl (vv (op_load1 rfl ty_22 (tmp_ev (slot_ev e10 rfl)) (hS.bk 2 rfl) rfl) (And.intro rfl rfl))
   refine ⟨fun a w vs65 hA hS hd => ?_, ?_⟩
   ·skip
    exact opG_of rfl (vv (op_move rfl (hA.ev rfl)) (And.intro rfl rfl))
   refine ⟨fun a w vs65 hA hS hd => ?_, ?_⟩
   ·skip
    obtain ⟨e11, rs11, hy11, hp11⟩ := hd 11 (by decide)
    obtain ⟨hv11, hr11⟩ := hy11; subst hr11
    rw [hv11] at e11
    obtain ⟨e12, rs12, hy12, hp12⟩ := hd 12 (by decide)
    obtain ⟨hv12, hr12⟩ := hy12; subst hr12
    rw [hv12] at e12
    exact opG_of rfl (vv (op_indexS rfl un_22 ty_44 (tmp_ev (slot_ev e11 rfl)) (i := k) (tmp_ev (slot_ev e12 rfl)) (rnd_at (hS.ok 3 _ rfl)).lots (by decide) (by omega)) (And.intro rfl rfl))
   refine ⟨fun a w vs65 hA hS hd => ?_, ?_⟩
   ·skip
    obtain ⟨e13, rs13, hy13, hp13⟩ := hd 13 (by decide)
    obtain ⟨hv13, hr13⟩ := hy13; subst hr13
    rw [hv13] at e13
    exact opG_of rfl (vv (op_fieldS rfl fd_44_1 (tmp_ev (slot_ev e13 rfl)) (rnd_at (hS.ok 3 _ rfl)).lots (by rw [((rnd_at (hS.ok 3 _ rfl)).lots).1]; omega)) (And.intro rfl rfl))
   refine ⟨fun a w vs65 hA hS hd => ?_, ?_⟩
   ·skip
    obtain ⟨e14, rs14, hy14, hp14⟩ := hd 14 (by decide)
    obtain ⟨hv14, hr14⟩ := hy14; subst hr14
    rw [hv14] at e14
    exact opG_of rfl (vv (op_load1E rfl ty_3 (tmp_ev (slot_ev e14 rfl)) (rnd_at (hS.ok 3 _ rfl)).lots (pairs_at1 (by omega))) (And.intro rfl rfl))
   refine ⟨fun a w vs65 hA hS hd => ?_, ?_⟩
   ·skip
    exact opG_of rfl (vv (op_move rfl (hA.ev rfl)) (And.intro rfl rfl))
   refine ⟨fun a w vs65 hA hS hd => ?_, ?_⟩
   ·skip
    obtain ⟨e15, rs15, hy15, hp15⟩ := hd 15 (by decide)
    obtain ⟨hv15, hr15⟩ := hy15; subst hr15
    rw [hv15] at e15
    obtain ⟨e16, rs16, hy16, hp16⟩ := hd 16 (by decide)
    obtain ⟨hv16, hr16⟩ := hy16; subst hr16
    rw [hv16] at e16
    exact opG_of rfl (vv (op_add rfl (tmp_ev (slot_ev e15 rfl)) (tmp_ev (slot_ev e16 rfl)) (by omega) (by omega)) (And.intro rfl rfl))
   refine ⟨fun a w vs65 hA hS hd => ?_, ?_⟩
   ·skip
    obtain ⟨e9, rs9, hy9, hp9⟩ := hd 9 (by decide)
    obtain ⟨hv9, hr9⟩ := hy9; subst hr9
    rw [hv9] at e9
    obtain ⟨e17, rs17, hy17, hp17⟩ := hd 17 (by decide)
    obtain ⟨hv17, hr17⟩ := hy17; subst hr17
    rw [hv17] at e17
    exact opG_of rfl (vv (op_build rfl (pv2 (tmp_ev (slot_ev e9 rfl)) (tmp_ev (slot_ev e17 rfl))) (bd_44_0i_1i _ _)) (And.intro rfl rfl))
   refine ⟨fun a w vs65 hA hS hd => ?_, ?_⟩
   ·skip
    obtain ⟨e18, rs18, hy18, hp18⟩ := hd 18 (by decide)
    obtain ⟨hv18, hr18⟩ := hy18; subst hr18
    rw [hv18] at e18
    exact opG_of rfl (vblt rfl (pv1 (tmp_ev (slot_ev e18 rfl))) un_22 ty_44 ze_44 (by decide) (cs := [(Value.int .i64 (((d.lots.getD k (0, 0)).1) + ((m).tmod 500))), (Value.int .i64 (((d.lots.getD k (0, 0)).2) + ((m).tmod 500)))]) (bs_44_1_0iia _ _) rfl (by decide) (fun _ => And.intro trivial rfl))
   trivial
  intro a66 w67 vs65 rsf71 hA68 hH70 hS69; clear hA64 hS52
  obtain ⟨hs_0, hy_0⟩ := hH70 0 (by decide)
  obtain ⟨hv_0, hr_0⟩ := hy_0
  obtain ⟨hs_1, hy_1⟩ := hH70 1 (by decide)
  obtain ⟨hv_1, hr_1⟩ := hy_1
  obtain ⟨hs_2, hy_2⟩ := hH70 2 (by decide)
  obtain ⟨hv_2, hr_2⟩ := hy_2
  obtain ⟨hs_3, hy_3⟩ := hH70 3 (by decide)
  obtain ⟨hv_3, hr_3⟩ := hy_3
  obtain ⟨hs_4, hy_4⟩ := hH70 4 (by decide)
  obtain ⟨hv_4, hr_4⟩ := hy_4
  obtain ⟨hs_5, hy_5⟩ := hH70 5 (by decide)
  obtain ⟨hv_5, hr_5⟩ := hy_5
  obtain ⟨hs_6, hy_6⟩ := hH70 6 (by decide)
  obtain ⟨hv_6, hr_6⟩ := hy_6
  obtain ⟨hs_7, hy_7⟩ := hH70 7 (by decide)
  obtain ⟨hv_7, hr_7⟩ := hy_7
  obtain ⟨hs_8, hy_8⟩ := hH70 8 (by decide)
  obtain ⟨hv_8, hr_8⟩ := hy_8
  obtain ⟨hs_9, hy_9⟩ := hH70 9 (by decide)
  obtain ⟨hv_9, hr_9⟩ := hy_9
  obtain ⟨hs_10, hy_10⟩ := hH70 10 (by decide)
  obtain ⟨hv_10, hr_10⟩ := hy_10
  obtain ⟨hs_11, hy_11⟩ := hH70 11 (by decide)
  obtain ⟨hv_11, hr_11⟩ := hy_11
  obtain ⟨hs_12, hy_12⟩ := hH70 12 (by decide)
  obtain ⟨hv_12, hr_12⟩ := hy_12
  obtain ⟨hs_13, hy_13⟩ := hH70 13 (by decide)
  obtain ⟨hv_13, hr_13⟩ := hy_13
  obtain ⟨hs_14, hy_14⟩ := hH70 14 (by decide)
  obtain ⟨hv_14, hr_14⟩ := hy_14
  obtain ⟨hs_15, hy_15⟩ := hH70 15 (by decide)
  obtain ⟨hv_15, hr_15⟩ := hy_15
  obtain ⟨hs_16, hy_16⟩ := hH70 16 (by decide)
  obtain ⟨hv_16, hr_16⟩ := hy_16
  obtain ⟨hs_17, hy_17⟩ := hH70 17 (by decide)
  obtain ⟨hv_17, hr_17⟩ := hy_17
  obtain ⟨hs_18, hy_18⟩ := hH70 18 (by decide)
  obtain ⟨hv_18, hr_18⟩ := hy_18
  obtain ⟨hs_19, hy_19⟩ := hH70 19 (by decide)
  obtain ⟨hv_19, hr_19⟩ := hy_19
  have hS72 : Sep NoB w w67 [(row (vs65 19) 44 2 1 [(Value.int .i64 (((d.lots.getD k (0, 0)).1) + ((m).tmod 500))), (Value.int .i64 (((d.lots.getD k (0, 0)).2) + ((m).tmod 500)))]), (row vl_ 44 2 ((movLots d ((m).tmod 500) k).length) (pairs (movLots d ((m).tmod 500) k))), (blk b39 26 [vl_, rs, (Value.int .i64 d.spread), (Value.slice none 0 0)]), (blk b4 26 [rl, rs, (Value.int .i64 d.spread), rb]), (rndR false rl rs rb rlv d)] := by rw [show catR rsf71 0 20 = ([(row (vs65 19) 44 2 1 [(Value.int .i64 (((d.lots.getD k (0, 0)).1) + ((m).tmod 500))), (Value.int .i64 (((d.lots.getD k (0, 0)).2) + ((m).tmod 500)))])] : List Res) by (try simp only [catR, hr_0, hr_1, hr_2, hr_3, hr_4, hr_5, hr_6, hr_7, hr_8, hr_9, hr_10, hr_11, hr_12, hr_13, hr_14, hr_15, hr_16, hr_17, hr_18, hr_19]); (try rfl)] at hS69; exact hS69
  rw [hv_1] at hs_1
  have hA73 : Fr 258 [] [(50, vl_), (11, (Value.int .i64 (k : Int))), (10, (bptr b39 0)), (9, (Value.int .i64 ((m).tmod 500))), (4, (bptr b4 0)), (1, (Value.int .u8 (x : Int))), (2, (Value.int .u8 (y : Int)))] a66 := hA68.add (slot_ev hs_1 rfl); clear hA68
  have hA74 : Fr 258 [] [(68, (vs65 19)), (50, vl_), (11, (Value.int .i64 (k : Int))), (10, (bptr b39 0)), (9, (Value.int .i64 ((m).tmod 500))), (4, (bptr b4 0)), (1, (Value.int .u8 (x : Int))), (2, (Value.int .u8 (y : Int)))] a66 := hA73.add (slot_ev hs_19 rfl); clear hA73
  clear hH70 hS69 hs_0 hs_1 hs_2 hs_3 hs_4 hs_5 hs_6 hs_7 hs_8 hs_9 hs_10 hs_11 hs_12 hs_13 hs_14 hs_15 hs_16 hs_17 hs_18 hs_19
  clear hr_0
  clear hv_0
  clear hr_1
  clear hv_1
  clear hr_2
  clear hv_2
  clear hr_3
  clear hv_3
  clear hr_4
  clear hv_4
  clear hr_5
  clear hv_5
  clear hr_6
  clear hv_6
  clear hr_7
  clear hv_7
  clear hr_8
  clear hv_8
  clear hr_9
  clear hv_9
  clear hr_10
  clear hv_10
  clear hr_11
  clear hv_11
  clear hr_12
  clear hv_12
  clear hr_13
  clear hv_13
  clear hr_14
  clear hv_14
  clear hr_15
  clear hv_15
  clear hr_16
  clear hv_16
  clear hr_17
  clear hv_17
  clear hr_18
  clear hv_18
  clear hr_19
  clear hv_19
  refine stw hA74 (op_append hS72 rfl un_22 el_44 (hA74.ev rfl) (hA74.ev rfl) (i := 1) rfl (SlAt.of_row (hS72.ok_row 0 rfl)) rfl (by simp only [maxLen]; omega) (by omega)) rfl rfl (by decide) ?_
  intro a75 v78 w77 hS79 hA76
  have hS80 := hS79.row_say (i := 1) rfl (n' := ((movLots d ((m).tmod 500) k) ++ [(((d.lots.getD k (0, 0)).1) + ((m).tmod 500), ((d.lots.getD k (0, 0)).2) + ((m).tmod 500))]).length) (xs' := (pairs ((movLots d ((m).tmod 500) k) ++ [(((d.lots.getD k (0, 0)).1) + ((m).tmod 500), ((d.lots.getD k (0, 0)).2) + ((m).tmod 500))]))) (by simp) (by simp [pairs]); clear hS79 hA74 hS72 a66
  refine st hA76 (op_field rfl fd_26_0 (hA76.ev rfl)) rfl rfl (by decide) fun a81 hA82 => ?_; clear hA76 a75
  refine sts hA82 (op_store hS80 rfl ty_22 (hA82.ev rfl) (hA82.ev rfl) (i := 2) rfl (vs := [v78]) (isSl_cells (SlAt.isSl (SlAt.of_row (hS80.ok_row 1 rfl)))) rfl (all_c (SlAt.one (SlAt.of_row (hS80.ok_row 1 rfl))) all_n) (Nat.le_of_ble_eq_true rfl)) rfl rfl ?_
  intro _ w83 hS84 hA85; clear hA82
  have hS86 : Sep NoB w w83 [(row (vs65 19) 44 2 1 [(Value.int .i64 (((d.lots.getD k (0, 0)).1) + ((m).tmod 500))), (Value.int .i64 (((d.lots.getD k (0, 0)).2) + ((m).tmod 500)))]), (row v78 44 2 (((movLots d ((m).tmod 500) k) ++ [(((d.lots.getD k (0, 0)).1) + ((m).tmod 500), ((d.lots.getD k (0, 0)).2) + ((m).tmod 500))]).length) (pairs ((movLots d ((m).tmod 500) k) ++ [(((d.lots.getD k (0, 0)).1) + ((m).tmod 500), ((d.lots.getD k (0, 0)).2) + ((m).tmod 500))]))), (blk b39 26 [v78, rs, (Value.int .i64 d.spread), (Value.slice none 0 0)]), (blk b4 26 [rl, rs, (Value.int .i64 d.spread), rb]), (rndR false rl rs rb rlv d)] := hS84; clear hS84 hS80
  refine wl_nil ?_
  refine blk_n ?_
  refine then_n ?_
  refine c_region ?_
  refine st hA85 (op_move rfl (hA85.ev rfl)) rfl rfl (by decide) fun a87 hA88 => ?_; clear hA85 a81
  refine st hA88 (op_add rfl (hA88.ev rfl) (evc _ _) (by omega) (by omega)) rfl rfl (by decide) fun a89 hA90 => ?_; clear hA88 a87
  refine st hA90 (op_assign rfl (hA90.ev rfl)) rfl rfl (by decide) fun a91 hA92 => ?_; clear hA90 a89
  refine wl_nil ?_
  have hS93 : Sep NoB w w83 [(row v78 44 2 (((movLots d ((m).tmod 500) k) ++ [(((d.lots.getD k (0, 0)).1) + ((m).tmod 500), ((d.lots.getD k (0, 0)).2) + ((m).tmod 500))]).length) (pairs ((movLots d ((m).tmod 500) k) ++ [(((d.lots.getD k (0, 0)).1) + ((m).tmod 500), ((d.lots.getD k (0, 0)).2) + ((m).tmod 500))]))), (blk b39 26 [v78, rs, (Value.int .i64 d.spread), (Value.slice none 0 0)]), (blk b4 26 [rl, rs, (Value.int .i64 d.spread), rb]), (rndR false rl rs rb rlv d)] := hS86.keep [1, 2, 3, 4] (by decide) _ rfl rfl; clear hS86
  exact then_n ⟨k + 1, ⟨v78, hA92.as _ rfl, (hS93.row_say (i := 0) rfl (by rw [movLots_succ]) (by rw [movLots_succ])), by omega⟩, by omega⟩
 ·skip
  rw [decide_eq_false hb63] at hA62
  have hS94 := hS52.row_say (i := 0) rfl (n' := (movedD d ((m).tmod 500)).lots.length) (xs' := pairs (movedD d ((m).tmod 500)).lots) (by rw [show k = d.lots.length by omega]; rfl) (by rw [show k = d.lots.length by omega]; rfl); clear hS52
  refine c_false hA62 rfl ?_
  refine c_exit ?_
  refine then_exit ?_
  refine then_exit ?_
  refine blk_hit ?_
  refine then_n ?_
  refine c_seq ?_
  refine c_seq ?_
  have hA95 := hA62.as [(10, (bptr b39 0)), (9, (Value.int .i64 ((m).tmod 500))), (4, (bptr b4 0)), (1, (Value.int .u8 (x : Int))), (2, (Value.int .u8 (y : Int)))] rfl; clear hA62
  refine c_region ?_
  refine st hA95 (op_assign rfl (evc _ _)) rfl rfl (by decide) fun a96 hA97 => ?_; clear hA95 a61
  refine wl_nil ?_
  refine then_n ?_
  refine c_block ?_
  have hS98 := (hS94.nil_row 62 2).lst_nil; clear hS94
  have hA99 := hA97.as [(12, (Value.int .i64 0)), (10, (bptr b39 0)), (9, (Value.int .i64 ((m).tmod 500))), (4, (bptr b4 0)), (1, (Value.int .u8 (x : Int))), (2, (Value.int .u8 (y : Int)))] rfl; clear hA97
  refine c_loop (G := Nat) (fun (k2 : Nat) a_ w_ => ∃ vb_ : Value, ∃ lv_ : List Value, Fr 258 [] [(12, (Value.int .i64 (k2 : Int))), (10, (bptr b39 0)), (9, (Value.int .i64 ((m).tmod 500))), (4, (bptr b4 0)), (1, (Value.int .u8 (x : Int))), (2, (Value.int .u8 (y : Int)))] a_ ∧ Sep NoB w w_ [(lstR lv_ ((List.range k2).map fun q => movRow d ((m).tmod 500) q d.samples.length)), (row vb_ 62 2 ((d.tols.take k2).length) (vpairs ((d.tols.take k2).zip lv_))), (row vl_ 44 2 ((movedD d ((m).tmod 500)).lots.length) (pairs ((movedD d ((m).tmod 500)).lots))), (blk b39 26 [vl_, rs, (Value.int .i64 d.spread), vb_]), (blk b4 26 [rl, rs, (Value.int .i64 d.spread), rb]), (rndR false rl rs rb rlv d)] ∧ (k2 ≤ d.tols.length)) (fun k2 => d.tols.length - k2) 0 ⟨(Value.slice none 0 0), [], hA99.as _ rfl, hS98, by omega⟩ ?_
  clear hA99 hS98 a96
  rintro k2 a100 w102 ⟨vb_, lv_, hA101, hS103, hkk2⟩
  have hol := hS103.lst_len 0 rfl; have htk : (d.tols.take k2).length = k2 := by simp; omega
  have hrk : (((List.range k2).map fun q => movRow d ((m).tmod 500) q d.samples.length)).length = k2 := by simp
  refine c_seq ?_
  refine c_seq ?_
  refine c_region ?_
  refine st hA101 (op_move rfl (hA101.ev rfl)) rfl rfl (by decide) fun a104 hA105 => ?_; clear hA101 a100
  refine st hA105 (op_field rfl fd_26_3 (hA105.ev rfl)) rfl rfl (by decide) fun a106 hA107 => ?_; clear hA105 a104
  refine st hA107 (op_load1 rfl ty_24 (hA107.ev rfl) (hS103.bk 4 rfl) rfl) rfl rfl (by decide) fun a108 hA109 => ?_; clear hA107 a106
  refine st hA109 (op_lenS rfl un_24 (hA109.ev rfl) (rnd_at (hS103.ok 5 _ rfl)).labs) rfl rfl (by decide) fun a110 hA111 => ?_; clear hA109 a108
  refine st hA111 (op_lss rfl (hA111.ev rfl) (hA111.ev rfl)) rfl rfl (by decide) fun a112 hA113 => ?_; clear hA111 a110
  refine wl_nil ?_
  refine then_n ?_
  by_cases hb114 : (k2 : Int) < (d.tols.length : Int)
  ·skip
   rw [decide_eq_true hb114] at hA113
   have htl := hV.tols k2 (by omega); have hrl0 := hV.rdl k2 (by omega)
   refine c_true hA113 rfl ?_
   refine c_skip ?_
   refine then_n ?_
   refine c_seq ?_
   refine c_block ?_
   refine c_seq ?_
   refine c_region ?_
   refine st hA113 (op_field rfl fd_26_3 (hA113.ev rfl)) rfl rfl (by decide) fun a115 hA116 => ?_; clear hA113 a112
   refine st hA116 (op_load1 rfl ty_24 (hA116.ev rfl) (hS103.bk 4 rfl) rfl) rfl rfl (by decide) fun a117 hA118 => ?_; clear hA116 a115
   refine st hA118 (op_move rfl (hA118.ev rfl)) rfl rfl (by decide) fun a119 hA120 => ?_; clear hA118 a117
   refine st hA120 (op_indexS rfl un_24 ty_62 (hA120.ev rfl) (i := k2) (hA120.ev rfl) (rnd_at (hS103.ok 5 _ rfl)).labs (by decide) (by omega)) rfl rfl (by decide) fun a121 hA122 => ?_; clear hA120 a119
   refine st hA122 (op_fieldS rfl fd_62_0 (hA122.ev rfl) (rnd_at (hS103.ok 5 _ rfl)).labs (by rw [((rnd_at (hS103.ok 5 _ rfl)).labs).1]; omega)) rfl rfl (by decide) fun a123 hA124 => ?_; clear hA122 a121
   refine st hA124 (op_load1E rfl ty_3 (hA124.ev rfl) (rnd_at (hS103.ok 5 _ rfl)).labs (labs_at0 (rnd_at (hS103.ok 5 _ rfl)).lvl (by omega))) rfl rfl (by decide) fun a125 hA126 => ?_; clear hA124 a123
   refine st hA126 (op_build rfl (pv1 (hA126.ev rfl)) (bd_62_0i _)) rfl rfl (by decide) fun a127 hA128 => ?_; clear hA126 a125
   refine stw hA128 (op_alloc hS103 rfl ze_62 (cs := [(Value.int .i64 0), (Value.slice none 0 0)]) rfl) rfl rfl (by decide) ?_
   rintro a129 _ w131 ⟨b132, rfl, hS133⟩ hA130; clear hA128 hS103 a127
   refine sts hA130 (op_store hS133 rfl ty_62 (hA130.ev rfl) (hA130.ev rfl) (i := 0) rfl (vs := [(Value.int .i64 (d.tols.getD k2 0)), (Value.slice none 0 0)]) rfl rfl (all_c rfl (all_c rfl all_n)) (Nat.le_of_ble_eq_true rfl)) rfl rfl ?_
   intro _ w134 hS135 hA136; clear hA130
   have hS137 : Sep NoB w w134 [(blk b132 62 [(Value.int .i64 (d.tols.getD k2 0)), (Value.slice none 0 0)]), (lstR lv_ ((List.range k2).map fun q => movRow d ((m).tmod 500) q d.samples.length)), (row vb_ 62 2 ((d.tols.take k2).length) (vpairs ((d.tols.take k2).zip lv_))), (row vl_ 44 2 ((movedD d ((m).tmod 500)).lots.length) (pairs ((movedD d ((m).tmod 500)).lots))), (blk b39 26 [vl_, rs, (Value.int .i64 d.spread), vb_]), (blk b4 26 [rl, rs, (Value.int .i64 d.spread), rb]), (rndR false rl rs rb rlv d)] := hS135; clear hS135 hS133
   refine wl_nil ?_
   refine then_n ?_
   refine c_seq ?_
   refine c_seq ?_
   have hA138 := hA136.as [(13, (bptr b132 0)), (12, (Value.int .i64 (k2 : Int))), (10, (bptr b39 0)), (9, (Value.int .i64 ((m).tmod 500))), (4, (bptr b4 0)), (1, (Value.int .u8 (x : Int))), (2, (Value.int .u8 (y : Int)))] rfl; clear hA136
   refine c_region ?_
   refine st hA138 (op_assign rfl (evc _ _)) rfl rfl (by decide) fun a139 hA140 => ?_; clear hA138 a129
   refine wl_nil ?_
   refine then_n ?_
   refine c_block ?_
   have hS141 := hS137.nil_row 3 1; clear hS137
   have hA142 := hA140.as [(14, (Value.int .i64 0)), (13, (bptr b132 0)), (12, (Value.int .i64 (k2 : Int))), (10, (bptr b39 0)), (9, (Value.int .i64 ((m).tmod 500))), (4, (bptr b4 0)), (1, (Value.int .u8 (x : Int))), (2, (Value.int .u8 (y : Int)))] rfl; clear hA140
   refine c_loop (G := Nat) (fun (i2 : Nat) a_ w_ => ∃ vr_ : Value, Fr 258 [] [(14, (Value.int .i64 (i2 : Int))), (13, (bptr b132 0)), (12, (Value.int .i64 (k2 : Int))), (10, (bptr b39 0)), (9, (Value.int .i64 ((m).tmod 500))), (4, (bptr b4 0)), (1, (Value.int .u8 (x : Int))), (2, (Value.int .u8 (y : Int)))] a_ ∧ Sep NoB w w_ [(row vr_ 3 1 ((movRow d ((m).tmod 500) k2 i2).length) (ints (movRow d ((m).tmod 500) k2 i2))), (blk b132 62 [(Value.int .i64 (d.tols.getD k2 0)), vr_]), (lstR lv_ ((List.range k2).map fun q => movRow d ((m).tmod 500) q d.samples.length)), (row vb_ 62 2 ((d.tols.take k2).length) (vpairs ((d.tols.take k2).zip lv_))), (row vl_ 44 2 ((movedD d ((m).tmod 500)).lots.length) (pairs ((movedD d ((m).tmod 500)).lots))), (blk b39 26 [vl_, rs, (Value.int .i64 d.spread), vb_]), (blk b4 26 [rl, rs, (Value.int .i64 d.spread), rb]), (rndR false rl rs rb rlv d)] ∧ (i2 ≤ d.samples.length)) (fun i2 => d.samples.length - i2) 0 ⟨(Value.slice none 0 0), hA142.as _ rfl, hS141, by omega⟩ ?_
   clear hA142 hS141 a139
   rintro i2 a143 w145 ⟨vr_, hA144, hS146, hki2⟩
   have hrl := movRow_len d ((m).tmod 500) k2 i2
   refine c_seq ?_
   refine c_seq ?_
   refine c_region ?_
   refine st hA144 (op_move rfl (hA144.ev rfl)) rfl rfl (by decide) fun a147 hA148 => ?_; clear hA144 a143
   refine st hA148 (op_field rfl fd_26_3 (hA148.ev rfl)) rfl rfl (by decide) fun a149 hA150 => ?_; clear hA148 a147
   refine st hA150 (op_load1 rfl ty_24 (hA150.ev rfl) (hS146.bk 6 rfl) rfl) rfl rfl (by decide) fun a151 hA152 => ?_; clear hA150 a149
   refine st hA152 (op_move rfl (hA152.ev rfl)) rfl rfl (by decide) fun a153 hA154 => ?_; clear hA152 a151
   refine st hA154 (op_indexS rfl un_24 ty_62 (hA154.ev rfl) (i := k2) (hA154.ev rfl) (rnd_at (hS146.ok 7 _ rfl)).labs (by decide) (by omega)) rfl rfl (by decide) fun a155 hA156 => ?_; clear hA154 a153
   refine st hA156 (op_fieldS rfl fd_62_1 (hA156.ev rfl) (rnd_at (hS146.ok 7 _ rfl)).labs (by rw [((rnd_at (hS146.ok 7 _ rfl)).labs).1]; omega)) rfl rfl (by decide) fun a157 hA158 => ?_; clear hA156 a155
   refine st hA158 (op_load1E rfl ty_23 (hA158.ev rfl) (rnd_at (hS146.ok 7 _ rfl)).labs (labs_at1 (rnd_at (hS146.ok 7 _ rfl)).lvl (by omega))) rfl rfl (by decide) fun a159 hA160 => ?_; clear hA158 a157
   refine st hA160 (op_lenS rfl un_23 (hA160.ev rfl) ((rnd_at (hS146.ok 7 _ rfl)).rds k2 (by rw [(rnd_at (hS146.ok 7 _ rfl)).rdl]; omega))) rfl rfl (by decide) fun a161 hA162 => ?_; clear hA160 a159
   refine st hA162 (op_lss rfl (hA162.ev rfl) (hA162.ev rfl)) rfl rfl (by decide) fun a163 hA164 => ?_; clear hA162 a161
   refine wl_nil ?_
   refine then_n ?_
   by_cases hb165 : (i2 : Int) < ((d.rds.getD k2 []).length : Int)
   ·skip
    rw [decide_eq_true hb165] at hA164
    have hrd := hV.rds k2 (by omega) i2 (by omega)
    refine c_true hA164 rfl ?_
    refine c_skip ?_
    refine then_n ?_
    refine c_seq ?_
    refine c_block ?_
    refine c_seq ?_
    have hA166 := hA164.as [(14, (Value.int .i64 (i2 : Int))), (13, (bptr b132 0)), (12, (Value.int .i64 (k2 : Int))), (10, (bptr b39 0)), (9, (Value.int .i64 ((m).tmod 500))), (4, (bptr b4 0)), (1, (Value.int .u8 (x : Int))), (2, (Value.int .u8 (y : Int)))] rfl; clear hA164
    refine c_region ?_
    refine st hA166 (op_field rfl fd_26_3 (hA166.ev rfl)) rfl rfl (by decide) fun a167 hA168 => ?_; clear hA166 a163
    refine st hA168 (op_load1 rfl ty_24 (hA168.ev rfl) (hS146.bk 6 rfl) rfl) rfl rfl (by decide) fun a169 hA170 => ?_; clear hA168 a167
    refine st hA170 (op_move rfl (hA170.ev rfl)) rfl rfl (by decide) fun a171 hA172 => ?_; clear hA170 a169
    refine st hA172 (op_indexS rfl un_24 ty_62 (hA172.ev rfl) (i := k2) (hA172.ev rfl) (rnd_at (hS146.ok 7 _ rfl)).labs (by decide) (by omega)) rfl rfl (by decide) fun a173 hA174 => ?_; clear hA172 a171
    refine st hA174 (op_fieldS rfl fd_62_1 (hA174.ev rfl) (rnd_at (hS146.ok 7 _ rfl)).labs (by rw [((rnd_at (hS146.ok 7 _ rfl)).labs).1]; omega)) rfl rfl (by decide) fun a175 hA176 => ?_; clear hA174 a173
    refine st hA176 (op_load1E rfl ty_23 (hA176.ev rfl) (rnd_at (hS146.ok 7 _ rfl)).labs (labs_at1 (rnd_at (hS146.ok 7 _ rfl)).lvl (by omega))) rfl rfl (by decide) fun a177 hA178 => ?_; clear hA176 a175
    refine st hA178 (op_move rfl (hA178.ev rfl)) rfl rfl (by decide) fun a179 hA180 => ?_; clear hA178 a177
    refine st hA180 (op_indexS rfl un_23 ty_3 (hA180.ev rfl) (i := i2) (hA180.ev rfl) ((rnd_at (hS146.ok 7 _ rfl)).rds k2 (by rw [(rnd_at (hS146.ok 7 _ rfl)).rdl]; omega)) (by decide) (by omega)) rfl rfl (by decide) fun a181 hA182 => ?_; clear hA180 a179
    refine st hA182 (op_load1E rfl ty_3 (hA182.ev rfl) ((rnd_at (hS146.ok 7 _ rfl)).rds k2 (by rw [(rnd_at (hS146.ok 7 _ rfl)).rdl]; omega)) (ints_at (by omega))) rfl rfl (by decide) fun a183 hA184 => ?_; clear hA182 a181
    refine st hA184 (op_assign rfl (hA184.ev rfl)) rfl rfl (by decide) fun a185 hA186 => ?_; clear hA184 a183
    refine wl_nil ?_
    refine then_n ?_
    refine c_seq ?_
    refine c_seq ?_
    have hA187 := hA186.as [(15, (Value.int .i64 ((d.rds.getD k2 []).getD i2 0))), (14, (Value.int .i64 (i2 : Int))), (13, (bptr b132 0)), (12, (Value.int .i64 (k2 : Int))), (10, (bptr b39 0)), (9, (Value.int .i64 ((m).tmod 500))), (4, (bptr b4 0)), (1, (Value.int .u8 (x : Int))), (2, (Value.int .u8 (y : Int)))] rfl; clear hA186
    refine c_region ?_
    refine st hA187 (op_move rfl (hA187.ev rfl)) rfl rfl (by decide) fun a188 hA189 => ?_; clear hA187 a185
    refine st hA189 (op_geq rfl (hA189.ev rfl) (evc _ _)) rfl rfl (by decide) fun a190 hA191 => ?_; clear hA189 a188
    refine wl_nil ?_
    refine then_n ?_
    by_cases hb192 : 0 ≤ ((d.rds.getD k2 []).getD i2 0)
    ·skip
     rw [decide_eq_true hb192] at hA191
     refine c_true hA191 rfl ?_
     refine c_region ?_
     refine st hA191 (op_move rfl (hA191.ev rfl)) rfl rfl (by decide) fun a193 hA194 => ?_; clear hA191 a190
     refine st hA194 (op_move rfl (hA194.ev rfl)) rfl rfl (by decide) fun a195 hA196 => ?_; clear hA194 a193
     refine st hA196 (op_add rfl (hA196.ev rfl) (hA196.ev rfl) (by omega) (by omega)) rfl rfl (by decide) fun a197 hA198 => ?_; clear hA196 a195
     refine st hA198 (op_assign rfl (hA198.ev rfl)) rfl rfl (by decide) fun a199 hA200 => ?_; clear hA198 a197
     refine wl_nil ?_
     refine then_n ?_
     refine c_region ?_
     refine st hA200 (op_field rfl fd_62_1 (hA200.ev rfl)) rfl rfl (by decide) fun a201 hA202 => ?_; clear hA200 a199
     refine st hA202 (op_load1 rfl ty_23 (hA202.ev rfl) (hS146.bk 1 rfl) rfl) rfl rfl (by decide) fun a203 hA204 => ?_; clear hA202 a201
     refine st hA204 (op_move rfl (hA204.ev rfl)) rfl rfl (by decide) fun a205 hA206 => ?_; clear hA204 a203
     refine stw hA206 (op_buildSlice hS146 rfl (pv1 (hA206.ev rfl)) un_23 ty_3 ze_3 (by decide) (cs := [(Value.int .i64 (((d.rds.getD k2 []).getD i2 0) + ((m).tmod 500)))]) (bs_3_1_0i _)) rfl rfl (by decide) ?_
     rintro a207 _ w209 ⟨b210, rfl, hS211⟩ hA208; clear hA206 hS146 a205
     refine stw hA208 (op_append hS211 rfl un_23 el_3 (hA208.ev rfl) (hA208.ev rfl) (i := 1) rfl (SlAt.of_blk (hS211.bk 0 rfl) rfl (Nat.le_of_ble_eq_true rfl)) rfl (by simp only [maxLen]; omega) (by omega)) rfl rfl (by decide) ?_
     intro a212 v215 w214 hS216 hA213
     have hS217 := hS216.row_say (i := 1) rfl (n' := ((movRow d ((m).tmod 500) k2 i2) ++ [((d.rds.getD k2 []).getD i2 0) + ((m).tmod 500)]).length) (xs' := (ints ((movRow d ((m).tmod 500) k2 i2) ++ [((d.rds.getD k2 []).getD i2 0) + ((m).tmod 500)]))) (by simp) (by simp [ints]); clear hS216 hA208 hS211 a207
     refine st hA213 (op_field rfl fd_62_1 (hA213.ev rfl)) rfl rfl (by decide) fun a218 hA219 => ?_; clear hA213 a212
     refine sts hA219 (op_store hS217 rfl ty_23 (hA219.ev rfl) (hA219.ev rfl) (i := 2) rfl (vs := [v215]) (isSl_cells (SlAt.isSl (SlAt.of_row (hS217.ok_row 1 rfl)))) rfl (all_c (SlAt.one (SlAt.of_row (hS217.ok_row 1 rfl))) all_n) (Nat.le_of_ble_eq_true rfl)) rfl rfl ?_
     intro _ w220 hS221 hA222; clear hA219
     have hS223 : Sep NoB w w220 [(blk b210 3 [(Value.int .i64 (((d.rds.getD k2 []).getD i2 0) + ((m).tmod 500)))]), (row v215 3 1 (((movRow d ((m).tmod 500) k2 i2) ++ [((d.rds.getD k2 []).getD i2 0) + ((m).tmod 500)]).length) (ints ((movRow d ((m).tmod 500) k2 i2) ++ [((d.rds.getD k2 []).getD i2 0) + ((m).tmod 500)]))), (blk b132 62 [(Value.int .i64 (d.tols.getD k2 0)), v215]), (lstR lv_ ((List.range k2).map fun q => movRow d ((m).tmod 500) q d.samples.length)), (row vb_ 62 2 ((d.tols.take k2).length) (vpairs ((d.tols.take k2).zip lv_))), (row vl_ 44 2 ((movedD d ((m).tmod 500)).lots.length) (pairs ((movedD d ((m).tmod 500)).lots))), (blk b39 26 [vl_, rs, (Value.int .i64 d.spread), vb_]), (blk b4 26 [rl, rs, (Value.int .i64 d.spread), rb]), (rndR false rl rs rb rlv d)] := hS221; clear hS221 hS217
     refine wl_nil ?_
     refine blk_n ?_
     refine then_n ?_
     have hA224 := hA222.as [(14, (Value.int .i64 (i2 : Int))), (13, (bptr b132 0)), (12, (Value.int .i64 (k2 : Int))), (10, (bptr b39 0)), (9, (Value.int .i64 ((m).tmod 500))), (4, (bptr b4 0)), (1, (Value.int .u8 (x : Int))), (2, (Value.int .u8 (y : Int)))] rfl; clear hA222
     refine c_region ?_
     refine st hA224 (op_move rfl (hA224.ev rfl)) rfl rfl (by decide) fun a225 hA226 => ?_; clear hA224 a218
     refine st hA226 (op_add rfl (hA226.ev rfl) (evc _ _) (by omega) (by omega)) rfl rfl (by decide) fun a227 hA228 => ?_; clear hA226 a225
     refine st hA228 (op_assign rfl (hA228.ev rfl)) rfl rfl (by decide) fun a229 hA230 => ?_; clear hA228 a227
     refine wl_nil ?_
     have hS231 : Sep NoB w w220 [(row v215 3 1 (((movRow d ((m).tmod 500) k2 i2) ++ [((d.rds.getD k2 []).getD i2 0) + ((m).tmod 500)]).length) (ints ((movRow d ((m).tmod 500) k2 i2) ++ [((d.rds.getD k2 []).getD i2 0) + ((m).tmod 500)]))), (blk b132 62 [(Value.int .i64 (d.tols.getD k2 0)), v215]), (lstR lv_ ((List.range k2).map fun q => movRow d ((m).tmod 500) q d.samples.length)), (row vb_ 62 2 ((d.tols.take k2).length) (vpairs ((d.tols.take k2).zip lv_))), (row vl_ 44 2 ((movedD d ((m).tmod 500)).lots.length) (pairs ((movedD d ((m).tmod 500)).lots))), (blk b39 26 [vl_, rs, (Value.int .i64 d.spread), vb_]), (blk b4 26 [rl, rs, (Value.int .i64 d.spread), rb]), (rndR false rl rs rb rlv d)] := hS223.keep [1, 2, 3, 4, 5, 6, 7, 8] (by decide) _ rfl rfl; clear hS223
     exact then_n ⟨i2 + 1, ⟨v215, hA230.as _ rfl, (hS231.row_say (i := 0) rfl (by rw [movRow_succ]; first | rw [mov_yes (by assumption)] | rw [mov_no (by assumption)]) (by rw [movRow_succ]; first | rw [mov_yes (by assumption)] | rw [mov_no (by assumption)])), by omega⟩, by omega⟩
    ·skip
     rw [decide_eq_false hb192] at hA191
     refine c_false hA191 rfl ?_
     refine c_skip ?_
     refine then_n ?_
     refine c_region ?_
     refine st hA191 (op_field rfl fd_62_1 (hA191.ev rfl)) rfl rfl (by decide) fun a232 hA233 => ?_; clear hA191 a190
     refine st hA233 (op_load1 rfl ty_23 (hA233.ev rfl) (hS146.bk 1 rfl) rfl) rfl rfl (by decide) fun a234 hA235 => ?_; clear hA233 a232
     refine st hA235 (op_move rfl (hA235.ev rfl)) rfl rfl (by decide) fun a236 hA237 => ?_; clear hA235 a234
     refine stw hA237 (op_buildSlice hS146 rfl (pv1 (hA237.ev rfl)) un_23 ty_3 ze_3 (by decide) (cs := [(Value.int .i64 ((d.rds.getD k2 []).getD i2 0))]) (bs_3_1_0i _)) rfl rfl (by decide) ?_
     rintro a238 _ w240 ⟨b241, rfl, hS242⟩ hA239; clear hA237 hS146 a236
     refine stw hA239 (op_append hS242 rfl un_23 el_3 (hA239.ev rfl) (hA239.ev rfl) (i := 1) rfl (SlAt.of_blk (hS242.bk 0 rfl) rfl (Nat.le_of_ble_eq_true rfl)) rfl (by simp only [maxLen]; omega) (by omega)) rfl rfl (by decide) ?_
     intro a243 v246 w245 hS247 hA244
     have hS248 := hS247.row_say (i := 1) rfl (n' := ((movRow d ((m).tmod 500) k2 i2) ++ [(d.rds.getD k2 []).getD i2 0]).length) (xs' := (ints ((movRow d ((m).tmod 500) k2 i2) ++ [(d.rds.getD k2 []).getD i2 0]))) (by simp) (by simp [ints]); clear hS247 hA239 hS242 a238
     refine st hA244 (op_field rfl fd_62_1 (hA244.ev rfl)) rfl rfl (by decide) fun a249 hA250 => ?_; clear hA244 a243
     refine sts hA250 (op_store hS248 rfl ty_23 (hA250.ev rfl) (hA250.ev rfl) (i := 2) rfl (vs := [v246]) (isSl_cells (SlAt.isSl (SlAt.of_row (hS248.ok_row 1 rfl)))) rfl (all_c (SlAt.one (SlAt.of_row (hS248.ok_row 1 rfl))) all_n) (Nat.le_of_ble_eq_true rfl)) rfl rfl ?_
     intro _ w251 hS252 hA253; clear hA250
     have hS254 : Sep NoB w w251 [(blk b241 3 [(Value.int .i64 ((d.rds.getD k2 []).getD i2 0))]), (row v246 3 1 (((movRow d ((m).tmod 500) k2 i2) ++ [(d.rds.getD k2 []).getD i2 0]).length) (ints ((movRow d ((m).tmod 500) k2 i2) ++ [(d.rds.getD k2 []).getD i2 0]))), (blk b132 62 [(Value.int .i64 (d.tols.getD k2 0)), v246]), (lstR lv_ ((List.range k2).map fun q => movRow d ((m).tmod 500) q d.samples.length)), (row vb_ 62 2 ((d.tols.take k2).length) (vpairs ((d.tols.take k2).zip lv_))), (row vl_ 44 2 ((movedD d ((m).tmod 500)).lots.length) (pairs ((movedD d ((m).tmod 500)).lots))), (blk b39 26 [vl_, rs, (Value.int .i64 d.spread), vb_]), (blk b4 26 [rl, rs, (Value.int .i64 d.spread), rb]), (rndR false rl rs rb rlv d)] := hS252; clear hS252 hS248
     refine wl_nil ?_
     refine blk_n ?_
     refine then_n ?_
     have hA255 := hA253.as [(14, (Value.int .i64 (i2 : Int))), (13, (bptr b132 0)), (12, (Value.int .i64 (k2 : Int))), (10, (bptr b39 0)), (9, (Value.int .i64 ((m).tmod 500))), (4, (bptr b4 0)), (1, (Value.int .u8 (x : Int))), (2, (Value.int .u8 (y : Int)))] rfl; clear hA253
     refine c_region ?_
     refine st hA255 (op_move rfl (hA255.ev rfl)) rfl rfl (by decide) fun a256 hA257 => ?_; clear hA255 a249
     refine st hA257 (op_add rfl (hA257.ev rfl) (evc _ _) (by omega) (by omega)) rfl rfl (by decide) fun a258 hA259 => ?_; clear hA257 a256
     refine st hA259 (op_assign rfl (hA259.ev rfl)) rfl rfl (by decide) fun a260 hA261 => ?_; clear hA259 a258
     refine wl_nil ?_
     have hS262 : Sep NoB w w251 [(row v246 3 1 (((movRow d ((m).tmod 500) k2 i2) ++ [(d.rds.getD k2 []).getD i2 0]).length) (ints ((movRow d ((m).tmod 500) k2 i2) ++ [(d.rds.getD k2 []).getD i2 0]))), (blk b132 62 [(Value.int .i64 (d.tols.getD k2 0)), v246]), (lstR lv_ ((List.range k2).map fun q => movRow d ((m).tmod 500) q d.samples.length)), (row vb_ 62 2 ((d.tols.take k2).length) (vpairs ((d.tols.take k2).zip lv_))), (row vl_ 44 2 ((movedD d ((m).tmod 500)).lots.length) (pairs ((movedD d ((m).tmod 500)).lots))), (blk b39 26 [vl_, rs, (Value.int .i64 d.spread), vb_]), (blk b4 26 [rl, rs, (Value.int .i64 d.spread), rb]), (rndR false rl rs rb rlv d)] := hS254.keep [1, 2, 3, 4, 5, 6, 7, 8] (by decide) _ rfl rfl; clear hS254
     exact then_n ⟨i2 + 1, ⟨v246, hA261.as _ rfl, (hS262.row_say (i := 0) rfl (by rw [movRow_succ]; first | rw [mov_yes (by assumption)] | rw [mov_no (by assumption)]) (by rw [movRow_succ]; first | rw [mov_yes (by assumption)] | rw [mov_no (by assumption)])), by omega⟩, by omega⟩
   ·skip
    rw [decide_eq_false hb165] at hA164
    refine c_false hA164 rfl ?_
    refine c_exit ?_
    refine then_exit ?_
    refine then_exit ?_
    refine blk_hit ?_
    refine then_n ?_
    have hA263 := hA164.as [(13, (bptr b132 0)), (12, (Value.int .i64 (k2 : Int))), (10, (bptr b39 0)), (9, (Value.int .i64 ((m).tmod 500))), (4, (bptr b4 0)), (1, (Value.int .u8 (x : Int))), (2, (Value.int .u8 (y : Int)))] rfl; clear hA164
    refine c_region ?_
    refine st hA263 (op_field rfl fd_26_3 (hA263.ev rfl)) rfl rfl (by decide) fun a264 hA265 => ?_; clear hA263 a163
    refine st hA265 (op_load1 rfl ty_24 (hA265.ev rfl) (hS146.bk 5 rfl) rfl) rfl rfl (by decide) fun a266 hA267 => ?_; clear hA265 a264
    refine st hA267 (op_loadA rfl ty_62 (hA267.ev rfl) (hS146.bk 1 rfl) (l := [(Value.int .i64 (d.tols.getD k2 0)), vr_]) rfl rfl) rfl rfl (by decide) fun a268 hA269 => ?_; clear hA267 a266
    refine stw hA269 (op_buildSlice hS146 rfl (pv1 (hA269.ev rfl)) un_24 ty_62 ze_62 (by decide) (cs := [(Value.int .i64 (d.tols.getD k2 0)), vr_]) (bs_62_1_0iva _ _)) rfl rfl (by decide) ?_
    rintro a270 _ w272 ⟨b273, rfl, hS274⟩ hA271; clear hA269 hS146 a268
    refine stw hA271 (op_append hS274 rfl un_24 el_62 (hA271.ev rfl) (hA271.ev rfl) (i := 4) rfl (SlAt.of_blk (hS274.bk 0 rfl) rfl (Nat.le_of_ble_eq_true rfl)) (all_c rfl (all_c (SlAt.one (SlAt.of_row (hS274.ok_row 1 rfl))) all_n)) (by simp only [maxLen]; omega) (by omega)) rfl rfl (by decide) ?_
    intro a275 v278 w277 hS279 hA276
    have hS280 := hS279.row_say (i := 4) rfl (n' := ((d.tols.take k2).length + 1)) (xs' := (vpairs (((d.tols.take k2).zip lv_) ++ [(d.tols.getD k2 0, vr_)]))) rfl (by simp [vpairs]); clear hS279 hA271 hS274 a270
    refine st hA276 (op_field rfl fd_26_3 (hA276.ev rfl)) rfl rfl (by decide) fun a281 hA282 => ?_; clear hA276 a275
    refine sts hA282 (op_store hS280 rfl ty_24 (hA282.ev rfl) (hA282.ev rfl) (i := 6) rfl (vs := [v278]) (isSl_cells (SlAt.isSl (SlAt.of_row (hS280.ok_row 4 rfl)))) rfl (all_c (SlAt.one (SlAt.of_row (hS280.ok_row 4 rfl))) all_n) (Nat.le_of_ble_eq_true rfl)) rfl rfl ?_
    intro _ w283 hS284 hA285; clear hA282
    have hS286 : Sep NoB w w283 [(blk b273 62 [(Value.int .i64 (d.tols.getD k2 0)), vr_]), (row vr_ 3 1 ((movRow d ((m).tmod 500) k2 i2).length) (ints (movRow d ((m).tmod 500) k2 i2))), (blk b132 62 [(Value.int .i64 (d.tols.getD k2 0)), vr_]), (lstR lv_ ((List.range k2).map fun q => movRow d ((m).tmod 500) q d.samples.length)), (row v278 62 2 ((d.tols.take k2).length + 1) (vpairs (((d.tols.take k2).zip lv_) ++ [(d.tols.getD k2 0, vr_)]))), (row vl_ 44 2 ((movedD d ((m).tmod 500)).lots.length) (pairs ((movedD d ((m).tmod 500)).lots))), (blk b39 26 [vl_, rs, (Value.int .i64 d.spread), v278]), (blk b4 26 [rl, rs, (Value.int .i64 d.spread), rb]), (rndR false rl rs rb rlv d)] := hS284; clear hS284 hS280
    refine wl_nil ?_
    refine blk_n ?_
    refine then_n ?_
    have hA287 := hA285.as [(12, (Value.int .i64 (k2 : Int))), (10, (bptr b39 0)), (9, (Value.int .i64 ((m).tmod 500))), (4, (bptr b4 0)), (1, (Value.int .u8 (x : Int))), (2, (Value.int .u8 (y : Int)))] rfl; clear hA285
    refine c_region ?_
    refine st hA287 (op_move rfl (hA287.ev rfl)) rfl rfl (by decide) fun a288 hA289 => ?_; clear hA287 a281
    refine st hA289 (op_add rfl (hA289.ev rfl) (evc _ _) (by omega) (by omega)) rfl rfl (by decide) fun a290 hA291 => ?_; clear hA289 a288
    refine st hA291 (op_assign rfl (hA291.ev rfl)) rfl rfl (by decide) fun a292 hA293 => ?_; clear hA291 a290
    refine wl_nil ?_
    have hS294 : Sep NoB w w283 [(row vr_ 3 1 ((movRow d ((m).tmod 500) k2 i2).length) (ints (movRow d ((m).tmod 500) k2 i2))), (lstR lv_ ((List.range k2).map fun q => movRow d ((m).tmod 500) q d.samples.length)), (blk b273 62 [(Value.int .i64 (d.tols.getD k2 0)), vr_]), (blk b132 62 [(Value.int .i64 (d.tols.getD k2 0)), vr_]), (row v278 62 2 ((d.tols.take k2).length + 1) (vpairs (((d.tols.take k2).zip lv_) ++ [(d.tols.getD k2 0, vr_)]))), (row vl_ 44 2 ((movedD d ((m).tmod 500)).lots.length) (pairs ((movedD d ((m).tmod 500)).lots))), (blk b39 26 [vl_, rs, (Value.int .i64 d.spread), v278]), (blk b4 26 [rl, rs, (Value.int .i64 d.spread), rb]), (rndR false rl rs rb rlv d)] := hS286.keep [1, 3, 0, 2, 4, 5, 6, 7, 8] (by decide) _ rfl rfl; clear hS286
    have hS295 := hS294.lst_snoc; clear hS294
    have hS296 : Sep NoB w w283 [(lstR (lv_ ++ [vr_]) (((List.range k2).map fun q => movRow d ((m).tmod 500) q d.samples.length) ++ [(movRow d ((m).tmod 500) k2 i2)])), (row v278 62 2 ((d.tols.take k2).length + 1) (vpairs (((d.tols.take k2).zip lv_) ++ [(d.tols.getD k2 0, vr_)]))), (row vl_ 44 2 ((movedD d ((m).tmod 500)).lots.length) (pairs ((movedD d ((m).tmod 500)).lots))), (blk b39 26 [vl_, rs, (Value.int .i64 d.spread), v278]), (blk b4 26 [rl, rs, (Value.int .i64 d.spread), rb]), (rndR false rl rs rb rlv d)] := hS295.keep [0, 3, 4, 5, 6, 7] (by decide) _ rfl rfl; clear hS295
    exact then_n ⟨k2 + 1, ⟨v278, (lv_ ++ [vr_]), hA293.as _ rfl, ((hS296.row_say (i := 1) rfl (by rw [take_snocL d.tols _ 0 (by omega)]; simp) (by rw [take_snocL d.tols _ 0 (by omega), zip_snoc (by omega)])).lst_say (i := 0) rfl (by rw [map_range_succ, show d.samples.length = i2 by omega])), by omega⟩, by omega⟩
  ·skip
   rw [decide_eq_false hb114] at hA113
   have hS297 := (hS103.row_say (i := 1) rfl (n' := d.tols.length) (xs' := vpairs (d.tols.zip lv_)) (by rw [show k2 = d.tols.length by omega, List.take_length]) (by rw [show k2 = d.tols.length by omega, List.take_length])).lst_say (i := 0) rfl (ls' := (movedD d ((m).tmod 500)).rds) (by rw [show k2 = d.tols.length by omega]; rfl); clear hS103
   have hll := hS297.lst_len 0 rfl; have hrl9 : (movedD d ((m).tmod 500)).rds.length = d.tols.length := moved_rdl
   refine c_false hA113 rfl ?_
   refine c_exit ?_
   refine then_exit ?_
   refine then_exit ?_
   refine blk_hit ?_
   refine then_n ?_
   refine c_seq ?_
   refine c_seq ?_
   have hA298 := hA113.as [(10, (bptr b39 0)), (9, (Value.int .i64 ((m).tmod 500))), (4, (bptr b4 0)), (1, (Value.int .u8 (x : Int))), (2, (Value.int .u8 (y : Int)))] rfl; clear hA113
   refine c_region ?_
   refine st hA298 (op_loadA rfl ty_26 (hA298.ev rfl) (hS297.bk 3 rfl) (l := [vl_, rs, (Value.int .i64 d.spread), vb_]) rfl rfl) rfl rfl (by decide) fun a299 hA300 => ?_; clear hA298 a112
   refine stw hA300 (op_call rfl en_28 (ev1 (hA300.ev rfl)) (Fault_ok vl_ rs vb_ lv_ (movedD d ((m).tmod 500)) _ (show RoundAt _ vl_ rs vb_ lv_ (movedD d ((m).tmod 500)) from ⟨SlAt.of_row (hS297.ok_row 2 rfl), (rnd_at (hS297.ok 5 _ rfl)).samples, SlAt.of_row (hS297.ok_row 1 rfl), (hS297.lst_at 0 rfl).2, hll.trans hrl9, hrl9⟩))) rfl rfl (by decide) ?_
   rintro a301 _ w303 ⟨rfl, hE304⟩ hA302; have hS305 := hS297.step hE304; clear hE304 hA300 hS297 a299
   refine st hA302 (op_neq rfl (hA302.ev rfl) (evc _ _)) rfl rfl (by decide) fun a306 hA307 => ?_; clear hA302 a301
   have hd308 : ¬ ((checkR (movedD d ((m).tmod 500))) = 0) := hcM
   rw [decide_eq_false hd308] at hA307
   refine wl_nil ?_
   refine then_n ?_
   refine c_true hA307 rfl ?_
   refine c_seq ?_
   have hA309 := hA307.as [] rfl; clear hA307
   refine c_region ?_
   refine stw hA309 (op_call rfl en_18 ev0 (wakes_ok _)) rfl rfl (by decide) ?_
   rintro a310 _ w312 ⟨rfl, hE313⟩ hA311; have hS314 := hS305.step hE313; clear hE313 hA309 hS305 a306
   refine st hA311 (op_assign rfl (hA311.ev rfl)) rfl rfl (by decide) fun a315 hA316 => ?_; clear hA311 a310
   refine wl_nil ?_
   refine then_n ?_
   refine c_ret ?_
   refine then_ret ?_
   refine fin_run hA316 (.inl rfl) (run_results1 hA316 rfl (.tmp rfl)) ?_
   exact ⟨rfl, hS314.ext⟩

end Go.Proofs.Ytfhmigoddaaljaa
