/-
  Walks through the functions of the seat, printed by a program of ours (gowalk), a theorem a function: what the call returns and what it leaves in memory.
-/
import Derived.Test.YtfhmigoddaaljaaFj
set_option linter.unusedSimpArgs false
set_option linter.unusedVariables false
namespace Go.Proofs.Ytfhmigoddaaljaa
open Go.RowKit Go.Shelf Go.Eng
set_option maxHeartbeats 4000000 in
theorem RoundMoved_c (rl rs rb : Value) (rlv : List Value) (d : RD) (w : World) (hR : RoundAt w rl rs rb rlv d) (x : Nat) (hxb : x < 256) (y : Nat) (hyb : y < 256) (m : Int) (hm : 0 ≤ m ∧ m ≤ 65535) (hf : readyB d = true) (hcM : checkR (movedD d ((m).tmod 500)) = 0) (bb : Bool) (he : explainsF d (chosenF d.tols.length x) = (bb, 0)) (heM : explainsF (movedD d ((m).tmod 500)) (chosenF d.tols.length x) = (bb, 0)) (S1 S2 : List (Int × Int)) (c : Int) (hs : spansR d (chosenF d.tols.length x) = (S1, c)) (hsM : spansR (movedD d ((m).tmod 500)) (chosenF d.tols.length x) = (S2, c)) (hl2 : S2.length = S1.length) (hl1 : S1.length ≤ 8) (hb : ∀ k, k < S1.length → (-100 ≤ (S1.getD k (0, 0)).1 ∧ (S1.getD k (0, 0)).2 ≤ 1100 ∧ (S1.getD k (0, 0)).1 ≤ (S1.getD k (0, 0)).2) ∧ (S2.getD k (0, 0)).1 = (S1.getD k (0, 0)).1 + ((m).tmod 500) ∧ (S2.getD k (0, 0)).2 = (S1.getD k (0, 0)).2 + ((m).tmod 500)) (a b c2 : Int) (hz : shiftsR d (((y : Int)).tmod (d.tols.length : Int)) = ((a, b), c2)) (hzM : shiftsR (movedD d ((m).tmod 500)) (((y : Int)).tmod (d.tols.length : Int)) = ((a, b), c2)) :
  Calls Try.prog 12 #[(Value.agg #[rl, rs, (Value.int .i64 d.spread), rb]), (Value.int .u8 (x : Int)), (Value.int .u8 (y : Int)), (Value.int .u16 m)] w (Ret fun v w' => v = .bool true ∧ Ext NoB w w') := by
 refine calls_enter Try.func12 rfl fun a0 hA0 => ?_
 replace hA0 : Fr 258 [] [(0, (Value.agg #[rl, rs, (Value.int .i64 d.spread), rb])), (1, (Value.int .u8 (x : Int))), (2, (Value.int .u8 (y : Int))), (3, (Value.int .u16 m))] a0 := hA0
 have hth := thin_of (ready_of hf).1; have hc := (ready_of hf).2; have hV := valid_of hc; have hnb := hV.nb; have hns := hV.ns; have hnl := hV.nl; have htm := tmod_nn hm.1 (show (0 : Int) < 500 by decide); have hsp := hV.spread
 have hS0 : Sep NoB w w [(rndR false rl rs rb rlv d)] := sep_ro ⟨rfl, hR, trivial⟩
 refine c_seq ?_
 refine c_region ?_
 refine stw hA0 (op_box hS0 rfl (hA0.ev rfl) (cs := [rl, rs, (Value.int .i64 d.spread), rb]) rfl) rfl rfl (by decide) ?_
 rintro a1 _ w3 ⟨b4, rfl, hS5⟩ hA2; clear hA0 hS0 a0
 refine st hA2 (op_assign rfl (evc _ _)) rfl rfl (by decide) fun a6 hA7 => ?_; clear hA2 a1
 refine wl_nil ?_
 refine then_n ?_
 refine c_seq ?_
 refine c_seq ?_
 refine c_region ?_
 refine st hA7 (op_loadA rfl ty_26 (hA7.ev rfl) (hS5.bk 0 rfl) (l := [rl, rs, (Value.int .i64 d.spread), rb]) rfl rfl) rfl rfl (by decide) fun a8 hA9 => ?_; clear hA7 a6
 refine stw hA9 (op_call rfl en_35 (ev1 (hA9.ev rfl)) (ready_ok rl rs rb rlv d _ (rnd_at (hS5.ok 1 _ rfl)))) rfl rfl (by decide) ?_
 rintro a10 _ w12 ⟨rfl, hE13⟩ hA11; have hS14 := hS5.step hE13; clear hE13 hA9 hS5 a8
 rw [hf] at hA11
 refine st hA11 (op_not rfl (hA11.ev rfl)) rfl rfl (by decide) fun a15 hA16 => ?_; clear hA11 a10
 refine wl_nil ?_
 refine then_n ?_
 refine c_false hA16 rfl ?_
 refine c_skip ?_
 refine then_n ?_
 refine c_seq ?_
 refine c_region ?_
 refine st hA16 (op_move rfl (hA16.ev rfl)) rfl rfl (by decide) fun a17 hA18 => ?_; clear hA16 a15
 refine st hA18 (op_conv un_59 un_3 rfl (hA18.ev rfl) (v := m) (wrap_i64 (by omega) (by omega))) rfl rfl (by decide) fun a19 hA20 => ?_; clear hA18 a17
 refine st hA20 (op_rem rfl (hA20.ev rfl) (evc _ _) (by omega)) rfl rfl (by decide) fun a21 hA22 => ?_; clear hA20 a19
 refine st hA22 (op_assign rfl (hA22.ev rfl)) rfl rfl (by decide) fun a23 hA24 => ?_; clear hA22 a21
 refine wl_nil ?_
 refine then_n ?_
 refine c_seq ?_
 have hA25 := hA24.as [(9, (Value.int .i64 ((m).tmod 500))), (4, (bptr b4 0)), (1, (Value.int .u8 (x : Int))), (2, (Value.int .u8 (y : Int)))] rfl; clear hA24
 refine c_region ?_
 refine st hA25 (op_field rfl fd_26_1 (hA25.ev rfl)) rfl rfl (by decide) fun a26 hA27 => ?_; clear hA25 a23
 refine st hA27 (op_load1 rfl ty_23 (hA27.ev rfl) (hS14.bk 0 rfl) rfl) rfl rfl (by decide) fun a28 hA29 => ?_; clear hA27 a26
 refine st hA29 (op_field rfl fd_26_2 (hA29.ev rfl)) rfl rfl (by decide) fun a30 hA31 => ?_; clear hA29 a28
 refine st hA31 (op_load1 rfl ty_3 (hA31.ev rfl) (hS14.bk 0 rfl) rfl) rfl rfl (by decide) fun a32 hA33 => ?_; clear hA31 a30
 refine st hA33 (op_build rfl (pv2 (hA33.ev rfl) (hA33.ev rfl)) (bd_26_1s_2i _ (SlAt.isSl (rnd_at (hS14.ok 1 _ rfl)).samples) _)) rfl rfl (by decide) fun a34 hA35 => ?_; clear hA33 a32
 refine stw hA35 (op_alloc hS14 rfl ze_26 (cs := [(Value.slice none 0 0), (Value.slice none 0 0), (Value.int .i64 0), (Value.slice none 0 0)]) rfl) rfl rfl (by decide) ?_
 rintro a36 _ w38 ⟨b39, rfl, hS40⟩ hA37; clear hA35 hS14 a34
 refine sts hA37 (op_store hS40 rfl ty_26 (hA37.ev rfl) (hA37.ev rfl) (i := 0) rfl (vs := [(Value.slice none 0 0), rs, (Value.int .i64 d.spread), (Value.slice none 0 0)]) rfl rfl (all_c rfl (all_c (SlAt.one (rnd_at (hS40.ok 2 _ rfl)).samples) (all_c rfl (all_c rfl all_n)))) (Nat.le_of_ble_eq_true rfl)) rfl rfl ?_
 intro _ w41 hS42 hA43; clear hA37
 have hS44 : Sep NoB w w41 [(blk b39 26 [(Value.slice none 0 0), rs, (Value.int .i64 d.spread), (Value.slice none 0 0)]), (blk b4 26 [rl, rs, (Value.int .i64 d.spread), rb]), (rndR false rl rs rb rlv d)] := hS42; clear hS42 hS40
 refine wl_nil ?_
 refine then_n ?_
 refine c_seq ?_
 refine c_seq ?_
 refine c_region ?_
 refine st hA43 (op_assign rfl (evc _ _)) rfl rfl (by decide) fun a45 hA46 => ?_; clear hA43 a36
 refine wl_nil ?_
 refine then_n ?_
 refine c_block ?_
 have hS47 := hS44.nil_row 44 2; clear hS44
 have hA48 := hA46.as [(11, (Value.int .i64 0)), (10, (bptr b39 0)), (9, (Value.int .i64 ((m).tmod 500))), (4, (bptr b4 0)), (1, (Value.int .u8 (x : Int))), (2, (Value.int .u8 (y : Int)))] rfl; clear hA46
 refine c_loop (G := Nat) (fun (k : Nat) a_ w_ => ∃ vl_ : Value, Fr 258 [] [(11, (Value.int .i64 (k : Int))), (10, (bptr b39 0)), (9, (Value.int .i64 ((m).tmod 500))), (4, (bptr b4 0)), (1, (Value.int .u8 (x : Int))), (2, (Value.int .u8 (y : Int)))] a_ ∧ Sep NoB w w_ [(row vl_ 44 2 ((movLots d ((m).tmod 500) k).length) (pairs (movLots d ((m).tmod 500) k))), (blk b39 26 [vl_, rs, (Value.int .i64 d.spread), (Value.slice none 0 0)]), (blk b4 26 [rl, rs, (Value.int .i64 d.spread), rb]), (rndR false rl rs rb rlv d)] ∧ (k ≤ d.lots.length)) (fun k => d.lots.length - k) 0 ⟨(Value.slice none 0 0), hA48.as _ rfl, hS47, by omega⟩ ?_
 clear hA48 hS47 a45
 rintro k a49 w51 ⟨vl_, hA50, hS52, hk⟩
 have htk := movLots_len d ((m).tmod 500) k
 refine c_seq ?_
 refine c_seq ?_
 refine c_region ?_
 refine st hA50 (op_move rfl (hA50.ev rfl)) rfl rfl (by decide) fun a53 hA54 => ?_; clear hA50 a49
 refine st hA54 (op_field rfl fd_26_0 (hA54.ev rfl)) rfl rfl (by decide) fun a55 hA56 => ?_; clear hA54 a53
 refine st hA56 (op_load1 rfl ty_22 (hA56.ev rfl) (hS52.bk 2 rfl) rfl) rfl rfl (by decide) fun a57 hA58 => ?_; clear hA56 a55
 refine st hA58 (op_lenS rfl un_22 (hA58.ev rfl) (rnd_at (hS52.ok 3 _ rfl)).lots) rfl rfl (by decide) fun a59 hA60 => ?_; clear hA58 a57
 refine st hA60 (op_lss rfl (hA60.ev rfl) (hA60.ev rfl)) rfl rfl (by decide) fun a61 hA62 => ?_; clear hA60 a59
 refine wl_nil ?_
 refine then_n ?_
 by_cases hb63 : (k : Int) < (d.lots.length : Int)
 ·skip
  rw [decide_eq_true hb63] at hA62
  have hlt := hV.lots k (by omega)
  refine c_true hA62 rfl ?_
  refine c_skip ?_
  refine then_n ?_
  refine c_seq ?_
  refine c_block ?_
  have hA64 := hA62.as [(11, (Value.int .i64 (k : Int))), (10, (bptr b39 0)), (9, (Value.int .i64 ((m).tmod 500))), (4, (bptr b4 0)), (1, (Value.int .u8 (x : Int))), (2, (Value.int .u8 (y : Int)))] rfl; clear hA62
  refine c_drawV mixed hA64 hS52 20 [[], [0], [], [2], [], [3, 4], [5], [6], [], [7, 8], [], [10], [], [11, 12], [13], [14], [], [15, 16], [9, 17], [18]] [(fun (vs65 : Nat → Value) (v_ : Value) (rs_ : List Res) => v_ = (bptr b39 0) ∧ rs_ = []), (fun (vs65 : Nat → Value) (v_ : Value) (rs_ : List Res) => v_ = vl_ ∧ rs_ = []), (fun (vs65 : Nat → Value) (v_ : Value) (rs_ : List Res) => v_ = (bptr b4 0) ∧ rs_ = []), (fun (vs65 : Nat → Value) (v_ : Value) (rs_ : List Res) => v_ = rl ∧ rs_ = []), (fun (vs65 : Nat → Value) (v_ : Value) (rs_ : List Res) => v_ = (Value.int .i64 (k : Int)) ∧ rs_ = []), (fun (vs65 : Nat → Value) (v_ : Value) (rs_ : List Res) => v_ = (eptr rl (k * 2)) ∧ rs_ = []), (fun (vs65 : Nat → Value) (v_ : Value) (rs_ : List Res) => v_ = (eptr rl (k * 2 + 0)) ∧ rs_ = []), (fun (vs65 : Nat → Value) (v_ : Value) (rs_ : List Res) => v_ = (Value.int .i64 ((d.lots.getD k (0, 0)).1)) ∧ rs_ = []), (fun (vs65 : Nat → Value) (v_ : Value) (rs_ : List Res) => v_ = (Value.int .i64 ((m).tmod 500)) ∧ rs_ = []), (fun (vs65 : Nat → Value) (v_ : Value) (rs_ : List Res) => v_ = (Value.int .i64 (((d.lots.getD k (0, 0)).1) + ((m).tmod 500))) ∧ rs_ = []), (fun (vs65 : Nat → Value) (v_ : Value) (rs_ : List Res) => v_ = (bptr b4 0) ∧ rs_ = []), (fun (vs65 : Nat → Value) (v_ : Value) (rs_ : List Res) => v_ = rl ∧ rs_ = []), (fun (vs65 : Nat → Value) (v_ : Value) (rs_ : List Res) => v_ = (Value.int .i64 (k : Int)) ∧ rs_ = []), (fun (vs65 : Nat → Value) (v_ : Value) (rs_ : List Res) => v_ = (eptr rl (k * 2)) ∧ rs_ = []), (fun (vs65 : Nat → Value) (v_ : Value) (rs_ : List Res) => v_ = (eptr rl (k * 2 + 1)) ∧ rs_ = []), (fun (vs65 : Nat → Value) (v_ : Value) (rs_ : List Res) => v_ = (Value.int .i64 ((d.lots.getD k (0, 0)).2)) ∧ rs_ = []), (fun (vs65 : Nat → Value) (v_ : Value) (rs_ : List Res) => v_ = (Value.int .i64 ((m).tmod 500)) ∧ rs_ = []), (fun (vs65 : Nat → Value) (v_ : Value) (rs_ : List Res) => v_ = (Value.int .i64 (((d.lots.getD k (0, 0)).2) + ((m).tmod 500))) ∧ rs_ = []), (fun (vs65 : Nat → Value) (v_ : Value) (rs_ : List Res) => v_ = (Value.agg #[(Value.int .i64 (((d.lots.getD k (0, 0)).1) + ((m).tmod 500))), (Value.int .i64 (((d.lots.getD k (0, 0)).2) + ((m).tmod 500)))]) ∧ rs_ = []), (fun (vs65 : Nat → Value) (v_ : Value) (rs_ : List Res) => True ∧ rs_ = [(row v_ 44 2 1 [(Value.int .i64 (((d.lots.getD k (0, 0)).1) + ((m).tmod 500))), (Value.int .i64 (((d.lots.getD k (0, 0)).2) + ((m).tmod 500)))])])] (by decide +kernel) (by decide +kernel) rfl rfl ⟨(fun _ _ _ _ _ h_ => h_), (fun _ _ _ _ _ h_ => h_), (fun _ _ _ _ _ h_ => h_), (fun _ _ _ _ _ h_ => h_), (fun _ _ _ _ _ h_ => h_), (fun _ _ _ _ _ h_ => h_), (fun _ _ _ _ _ h_ => h_), (fun _ _ _ _ _ h_ => h_), (fun _ _ _ _ _ h_ => h_), (fun _ _ _ _ _ h_ => h_), (fun _ _ _ _ _ h_ => h_), (fun _ _ _ _ _ h_ => h_), (fun _ _ _ _ _ h_ => h_), (fun _ _ _ _ _ h_ => h_), (fun _ _ _ _ _ h_ => h_), (fun _ _ _ _ _ h_ => h_), (fun _ _ _ _ _ h_ => h_), (fun _ _ _ _ _ h_ => h_), (fun _ _ _ _ _ h_ => h_), (fun _ _ _ _ _ h_ => h_), trivial⟩ ?_ ?_
  ·skip
   refine ⟨fun a w vs65 hA hS hd => ?_, ?_⟩
   ·skip
    exact opG_of rfl (vv (op_field rfl fd_26_0 (hA.ev rfl)) (And.intro rfl rfl))
   refine ⟨fun a w vs65 hA hS hd => ?_, ?_⟩
   ·skip
    obtain ⟨e0, rs0, hy0, hp0⟩ := hd 0 (by decide)
    obtain ⟨hv0, hr0⟩ := hy0; subst hr0
    rw [hv0] at e0
    exact opG_of rfl (vv (op_load1 rfl ty_22 (tmp_ev (slot_ev e0 rfl)) (hS.bk 1 rfl) rfl) (And.intro rfl rfl))
   refine ⟨fun a w vs65 hA hS hd => ?_, ?_⟩
   ·skip
    exact opG_of rfl (vv (op_field rfl fd_26_0 (hA.ev rfl)) (And.intro rfl rfl))
   refine ⟨fun a w vs65 hA hS hd => ?_, ?_⟩
   ·skip
    obtain ⟨e2, rs2, hy2, hp2⟩ := hd 2 (by decide)
    obtain ⟨hv2, hr2⟩ := hy2; subst hr2
    rw [hv2] at e2
    exact opG_of rfl (vv (op_load1 rfl ty_22 (tmp_ev (slot_ev e2 rfl)) (hS.bk 2 rfl) rfl) (And.intro rfl rfl))
   refine ⟨fun a w vs65 hA hS hd => ?_, ?_⟩
   ·skip
    exact opG_of rfl (vv (op_move rfl (hA.ev rfl)) (And.intro rfl rfl))
   refine ⟨fun a w vs65 hA hS hd => ?_, ?_⟩
   ·skip
    obtain ⟨e3, rs3, hy3, hp3⟩ := hd 3 (by decide)
    obtain ⟨hv3, hr3⟩ := hy3; subst hr3
    rw [hv3] at e3
    obtain ⟨e4, rs4, hy4, hp4⟩ := hd 4 (by decide)
    obtain ⟨hv4, hr4⟩ := hy4; subst hr4
    rw [hv4] at e4
    exact opG_of rfl (vv (op_indexS rfl un_22 ty_44 (tmp_ev (slot_ev e3 rfl)) (i := k) (tmp_ev (slot_ev e4 rfl)) (rnd_at (hS.ok 3 _ rfl)).lots (by decide) (by omega)) (And.intro rfl rfl))
   refine ⟨fun a w vs65 hA hS hd => ?_, ?_⟩
   ·skip
    obtain ⟨e5, rs5, hy5, hp5⟩ := hd 5 (by decide)
    obtain ⟨hv5, hr5⟩ := hy5; subst hr5
    rw [hv5] at e5
    exact opG_of rfl (vv (op_fieldS rfl fd_44_0 (tmp_ev (slot_ev e5 rfl)) (rnd_at (hS.ok 3 _ rfl)).lots (by rw [((rnd_at (hS.ok 3 _ rfl)).lots).1]; omega)) (And.intro rfl rfl))
   refine ⟨fun a w vs65 hA hS hd => ?_, ?_⟩
   ·skip
    obtain ⟨e6, rs6, hy6, hp6⟩ := hd 6 (by decide)
    obtain ⟨hv6, hr6⟩ := hy6; subst hr6
    rw [hv6] at e6
    exact opG_of rfl (vv (op_load1E rfl ty_3 (tmp_ev (slot_ev e6 rfl)) (rnd_at (hS.ok 3 _ rfl)).lots (pairs_at0 (by omega))) (And.intro rfl rfl))
   refine ⟨fun a w vs65 hA hS hd => ?_, ?_⟩
   ·skip
    exact opG_of rfl (vv (op_move rfl (hA.ev rfl)) (And.intro rfl rfl))
   refine ⟨fun a w vs65 hA hS hd => ?_, ?_⟩
   ·skip
    obtain ⟨e7, rs7, hy7, hp7⟩ := hd 7 (by decide)
    obtain ⟨hv7, hr7⟩ := hy7; subst hr7
    rw [hv7] at e7
    obtain ⟨e8, rs8, hy8, hp8⟩ := hd 8 (by decide)
    obtain ⟨hv8, hr8⟩ := hy8; subst hr8
    rw [hv8] at e8
    exact opG_of rfl (vv (op_add rfl (tmp_ev (slot_ev e7 rfl)) (tmp_ev (slot_ev e8 rfl)) (by omega) (by omega)) (And.intro rfl rfl))
   refine ⟨fun a w vs65 hA hS hd => ?_, ?_⟩
   ·skip
    exact opG_of rfl (vv (op_field rfl fd_26_0 (hA.ev rfl)) (And.intro rfl rfl))
   refine ⟨fun a w vs65 hA hS hd => ?_, ?_⟩
   ·skip
    obtain ⟨e10, rs10, hy10, hp10⟩ := hd 10 (by decide)
    obtain ⟨hv10, hr10⟩ := hy10; subst hr10
    rw [hv10] at e10
    exact opG_of rfl (vv (op_load1 rfl ty_22 (tmp_ev (slot_ev e10 rfl)) (hS.bk 2 rfl) rfl) (And.intro rfl rfl))
   refine ⟨fun a w vs65 hA hS hd => ?_, ?_⟩
   ·skip
    exact opG_of rfl (vv (op_move rfl (hA.ev rfl)) (And.intro rfl rfl))
   refine ⟨fun a w vs65 hA hS hd => ?_, ?_⟩
   ·skip
    obtain ⟨e11, rs11, hy11, hp11⟩ := hd 11 (by decide)
    obtain ⟨hv11, hr11⟩ := hy11; subst hr11
    rw [hv11] at e11
    obtain ⟨e12, rs12, hy12, hp12⟩ := hd 12 (by decide)
    obtain ⟨hv12, hr12⟩ := hy12; subst hr12
    rw [hv12] at e12
    exact opG_of rfl (vv (op_indexS rfl un_22 ty_44 (tmp_ev (slot_ev e11 rfl)) (i := k) (tmp_ev (slot_ev e12 rfl)) (rnd_at (hS.ok 3 _ rfl)).lots (by decide) (by omega)) (And.intro rfl rfl))
   refine ⟨fun a w vs65 hA hS hd => ?_, ?_⟩
   ·skip
    obtain ⟨e13, rs13, hy13, hp13⟩ := hd 13 (by decide)
    obtain ⟨hv13, hr13⟩ := hy13; subst hr13
    rw [hv13] at e13
    exact opG_of rfl (vv (op_fieldS rfl fd_44_1 (tmp_ev (slot_ev e13 rfl)) (rnd_at (hS.ok 3 _ rfl)).lots (by rw [((rnd_at (hS.ok 3 _ rfl)).lots).1]; omega)) (And.intro rfl rfl))
   refine ⟨fun a w vs65 hA hS hd => ?_, ?_⟩
   ·skip
    obtain ⟨e14, rs14, hy14, hp14⟩ := hd 14 (by decide)
    obtain ⟨hv14, hr14⟩ := hy14; subst hr14
    rw [hv14] at e14
    exact opG_of rfl (vv (op_load1E rfl ty_3 (tmp_ev (slot_ev e14 rfl)) (rnd_at (hS.ok 3 _ rfl)).lots (pairs_at1 (by omega))) (And.intro rfl rfl))
   refine ⟨fun a w vs65 hA hS hd => ?_, ?_⟩
   ·skip
    exact opG_of rfl (vv (op_move rfl (hA.ev rfl)) (And.intro rfl rfl))
   refine ⟨fun a w vs65 hA hS hd => ?_, ?_⟩
   ·skip
    obtain ⟨e15, rs15, hy15, hp15⟩ := hd 15 (by decide)
    obtain ⟨hv15, hr15⟩ := hy15; subst hr15
    rw [hv15] at e15
    obtain ⟨e16, rs16, hy16, hp16⟩ := hd 16 (by decide)
    obtain ⟨hv16, hr16⟩ := hy16; subst hr16
    rw [hv16] at e16
    exact opG_of rfl (vv (op_add rfl (tmp_ev (slot_ev e15 rfl)) (tmp_ev (slot_ev e16 rfl)) (by omega) (by omega)) (And.intro rfl rfl))
   refine ⟨fun a w vs65 hA hS hd => ?_, ?_⟩
   ·skip
    obtain ⟨e9, rs9, hy9, hp9⟩ := hd 9 (by decide)
    obtain ⟨hv9, hr9⟩ := hy9; subst hr9
    rw [hv9] at e9
    obtain ⟨e17, rs17, hy17, hp17⟩ := hd 17 (by decide)
    obtain ⟨hv17, hr17⟩ := hy17; subst hr17
    rw [hv17] at e17
    exact opG_of rfl (vv (op_build rfl (pv2 (tmp_ev (slot_ev e9 rfl)) (tmp_ev (slot_ev e17 rfl))) (bd_44_0i_1i _ _)) (And.intro rfl rfl))
   refine ⟨fun a w vs65 hA hS hd => ?_, ?_⟩
   ·skip
    obtain ⟨e18, rs18, hy18, hp18⟩ := hd 18 (by decide)
    obtain ⟨hv18, hr18⟩ := hy18; subst hr18
    rw [hv18] at e18
    exact opG_of rfl (vblt rfl (pv1 (tmp_ev (slot_ev e18 rfl))) un_22 ty_44 ze_44 (by decide) (cs := [(Value.int .i64 (((d.lots.getD k (0, 0)).1) + ((m).tmod 500))), (Value.int .i64 (((d.lots.getD k (0, 0)).2) + ((m).tmod 500)))]) (bs_44_1_0iia _ _) rfl (by decide) (fun _ => And.intro trivial rfl))
   trivial
  intro a66 w67 vs65 rsf71 hA68 hH70 hS69; clear hA64 hS52
  obtain ⟨hs_0, hy_0⟩ := hH70 0 (by decide)
  obtain ⟨hv_0, hr_0⟩ := hy_0
  obtain ⟨hs_1, hy_1⟩ := hH70 1 (by decide)
  obtain ⟨hv_1, hr_1⟩ := hy_1
  obtain ⟨hs_2, hy_2⟩ := hH70 2 (by decide)
  obtain ⟨hv_2, hr_2⟩ := hy_2
  obtain ⟨hs_3, hy_3⟩ := hH70 3 (by decide)
  obtain ⟨hv_3, hr_3⟩ := hy_3
  obtain ⟨hs_4, hy_4⟩ := hH70 4 (by decide)
  obtain ⟨hv_4, hr_4⟩ := hy_4
  obtain ⟨hs_5, hy_5⟩ := hH70 5 (by decide)
  obtain ⟨hv_5, hr_5⟩ := hy_5
  obtain ⟨hs_6, hy_6⟩ := hH70 6 (by decide)
  obtain ⟨hv_6, hr_6⟩ := hy_6
  obtain ⟨hs_7, hy_7⟩ := hH70 7 (by decide)
  obtain ⟨hv_7, hr_7⟩ := hy_7
  obtain ⟨hs_8, hy_8⟩ := hH70 8 (by decide)
  obtain ⟨hv_8, hr_8⟩ := hy_8
  obtain ⟨hs_9, hy_9⟩ := hH70 9 (by decide)
  obtain ⟨hv_9, hr_9⟩ := hy_9
  obtain ⟨hs_10, hy_10⟩ := hH70 10 (by decide)
  obtain ⟨hv_10, hr_10⟩ := hy_10
  obtain ⟨hs_11, hy_11⟩ := hH70 11 (by decide)
  obtain ⟨hv_11, hr_11⟩ := hy_11
  obtain ⟨hs_12, hy_12⟩ := hH70 12 (by decide)
  obtain ⟨hv_12, hr_12⟩ := hy_12
  obtain ⟨hs_13, hy_13⟩ := hH70 13 (by decide)
  obtain ⟨hv_13, hr_13⟩ := hy_13
  obtain ⟨hs_14, hy_14⟩ := hH70 14 (by decide)
  obtain ⟨hv_14, hr_14⟩ := hy_14
  obtain ⟨hs_15, hy_15⟩ := hH70 15 (by decide)
  obtain ⟨hv_15, hr_15⟩ := hy_15
  obtain ⟨hs_16, hy_16⟩ := hH70 16 (by decide)
  obtain ⟨hv_16, hr_16⟩ := hy_16
  obtain ⟨hs_17, hy_17⟩ := hH70 17 (by decide)
  obtain ⟨hv_17, hr_17⟩ := hy_17
  obtain ⟨hs_18, hy_18⟩ := hH70 18 (by decide)
  obtain ⟨hv_18, hr_18⟩ := hy_18
  obtain ⟨hs_19, hy_19⟩ := hH70 19 (by decide)
  obtain ⟨hv_19, hr_19⟩ := hy_19
  have hS72 : Sep NoB w w67 [(row (vs65 19) 44 2 1 [(Value.int .i64 (((d.lots.getD k (0, 0)).1) + ((m).tmod 500))), (Value.int .i64 (((d.lots.getD k (0, 0)).2) + ((m).tmod 500)))]), (row vl_ 44 2 ((movLots d ((m).tmod 500) k).length) (pairs (movLots d ((m).tmod 500) k))), (blk b39 26 [vl_, rs, (Value.int .i64 d.spread), (Value.slice none 0 0)]), (blk b4 26 [rl, rs, (Value.int .i64 d.spread), rb]), (rndR false rl rs rb rlv d)] := by rw [show catR rsf71 0 20 = ([(row (vs65 19) 44 2 1 [(Value.int .i64 (((d.lots.getD k (0, 0)).1) + ((m).tmod 500))), (Value.int .i64 (((d.lots.getD k (0, 0)).2) + ((m).tmod 500)))])] : List Res) by (try simp only [catR, hr_0, hr_1, hr_2, hr_3, hr_4, hr_5, hr_6, hr_7, hr_8, hr_9, hr_10, hr_11, hr_12, hr_13, hr_14, hr_15, hr_16, hr_17, hr_18, hr_19]); (try rfl)] at hS69; exact hS69
  rw [hv_1] at hs_1
  have hA73 : Fr 258 [] [(50, vl_), (11, (Value.int .i64 (k : Int))), (10, (bptr b39 0)), (9, (Value.int .i64 ((m).tmod 500))), (4, (bptr b4 0)), (1, (Value.int .u8 (x : Int))), (2, (Value.int .u8 (y : Int)))] a66 := hA68.add (slot_ev hs_1 rfl); clear hA68
  have hA74 : Fr 258 [] [(68, (vs65 19)), (50, vl_), (11, (Value.int .i64 (k : Int))), (10, (bptr b39 0)), (9, (Value.int .i64 ((m).tmod 500))), (4, (bptr b4 0)), (1, (Value.int .u8 (x : Int))), (2, (Value.int .u8 (y : Int)))] a66 := hA73.add (slot_ev hs_19 rfl); clear hA73
  clear hH70 hS69 hs_0 hs_1 hs_2 hs_3 hs_4 hs_5 hs_6 hs_7 hs_8 hs_9 hs_10 hs_11 hs_12 hs_13 hs_14 hs_15 hs_16 hs_17 hs_18 hs_19
  clear hr_0
  clear hv_0
  clear hr_1
  clear hv_1
  clear hr_2
  clear hv_2
  clear hr_3
  clear hv_3
  clear hr_4
  clear hv_4
  clear hr_5
  clear hv_5
  clear hr_6
  clear hv_6
  clear hr_7
  clear hv_7
  clear hr_8
  clear hv_8
  clear hr_9
  clear hv_9
  clear hr_10
  clear hv_10
  clear hr_11
  clear hv_11
  clear hr_12
  clear hv_12
  clear hr_13
  clear hv_13
  clear hr_14
  clear hv_14
  clear hr_15
  clear hv_15
  clear hr_16
  clear hv_16
  clear hr_17
  clear hv_17
  clear hr_18
  clear hv_18
  clear hr_19
  clear hv_19
  refine stw hA74 (op_append hS72 rfl un_22 el_44 (hA74.ev rfl) (hA74.ev rfl) (i := 1) rfl (SlAt.of_row (hS72.ok_row 0 rfl)) rfl (by simp only [maxLen]; omega) (by omega)) rfl rfl (by decide) ?_
  intro a75 v78 w77 hS79 hA76
  have hS80 := hS79.row_say (i := 1) rfl (n' := ((movLots d ((m).tmod 500) k) ++ [(((d.lots.getD k (0, 0)).1) + ((m).tmod 500), ((d.lots.getD k (0, 0)).2) + ((m).tmod 500))]).length) (xs' := (pairs ((movLots d ((m).tmod 500) k) ++ [(((d.lots.getD k (0, 0)).1) + ((m).tmod 500), ((d.lots.getD k (0, 0)).2) + ((m).tmod 500))]))) (by simp) (by simp [pairs]); clear hS79 hA74 hS72 a66
  refine st hA76 (op_field rfl fd_26_0 (hA76.ev rfl)) rfl rfl (by decide) fun a81 hA82 => ?_; clear hA76 a75
  refine sts hA82 (op_store hS80 rfl ty_22 (hA82.ev rfl) (hA82.ev rfl) (i := 2) rfl (vs := [v78]) (isSl_cells (SlAt.isSl (SlAt.of_row (hS80.ok_row 1 rfl)))) rfl (all_c (SlAt.one (SlAt.of_row (hS80.ok_row 1 rfl))) all_n) (Nat.le_of_ble_eq_true rfl)) rfl rfl ?_
  intro _ w83 hS84 hA85; clear hA82
  have hS86 : Sep NoB w w83 [(row (vs65 19) 44 2 1 [(Value.int .i64 (((d.lots.getD k (0, 0)).1) + ((m).tmod 500))), (Value.int .i64 (((d.lots.getD k (0, 0)).2) + ((m).tmod 500)))]), (row v78 44 2 (((movLots d ((m).tmod 500) k) ++ [(((d.lots.getD k (0, 0)).1) + ((m).tmod 500), ((d.lots.getD k (0, 0)).2) + ((m).tmod 500))]).length) (pairs ((movLots d ((m).tmod 500) k) ++ [(((d.lots.getD k (0, 0)).1) + ((m).tmod 500), ((d.lots.getD k (0, 0)).2) + ((m).tmod 500))]))), (blk b39 26 [v78, rs, (Value.int .i64 d.spread), (Value.slice none 0 0)]), (blk b4 26 [rl, rs, (Value.int .i64 d.spread), rb]), (rndR false rl rs rb rlv d)] := hS84; clear hS84 hS80
  refine wl_nil ?_
  refine blk_n ?_
  refine then_n ?_
  refine c_region ?_
  refine st hA85 (op_move rfl (hA85.ev rfl)) rfl rfl (by decide) fun a87 hA88 => ?_; clear hA85 a81
  refine st hA88 (op_add rfl (hA88.ev rfl) (evc _ _) (by omega) (by omega)) rfl rfl (by decide) fun a89 hA90 => ?_; clear hA88 a87
  refine st hA90 (op_assign rfl (hA90.ev rfl)) rfl rfl (by decide) fun a91 hA92 => ?_; clear hA90 a89
  refine wl_nil ?_
  have hS93 : Sep NoB w w83 [(row v78 44 2 (((movLots d ((m).tmod 500) k) ++ [(((d.lots.getD k (0, 0)).1) + ((m).tmod 500), ((d.lots.getD k (0, 0)).2) + ((m).tmod 500))]).length) (pairs ((movLots d ((m).tmod 500) k) ++ [(((d.lots.getD k (0, 0)).1) + ((m).tmod 500), ((d.lots.getD k (0, 0)).2) + ((m).tmod 500))]))), (blk b39 26 [v78, rs, (Value.int .i64 d.spread), (Value.slice none 0 0)]), (blk b4 26 [rl, rs, (Value.int .i64 d.spread), rb]), (rndR false rl rs rb rlv d)] := hS86.keep [1, 2, 3, 4] (by decide) _ rfl rfl; clear hS86
  exact then_n ⟨k + 1, ⟨v78, hA92.as _ rfl, (hS93.row_say (i := 0) rfl (by rw [movLots_succ]) (by rw [movLots_succ])), by omega⟩, by omega⟩
 ·skip
  rw [decide_eq_false hb63] at hA62
  have hS94 := hS52.row_say (i := 0) rfl (n' := (movedD d ((m).tmod 500)).lots.length) (xs' := pairs (movedD d ((m).tmod 500)).lots) (by rw [show k = d.lots.length by omega]; rfl) (by rw [show k = d.lots.length by omega]; rfl); clear hS52
  refine c_false hA62 rfl ?_
  refine c_exit ?_
  refine then_exit ?_
  refine then_exit ?_
  refine blk_hit ?_
  refine then_n ?_
  refine c_seq ?_
  refine c_seq ?_
  have hA95 := hA62.as [(10, (bptr b39 0)), (9, (Value.int .i64 ((m).tmod 500))), (4, (bptr b4 0)), (1, (Value.int .u8 (x : Int))), (2, (Value.int .u8 (y : Int)))] rfl; clear hA62
  refine c_region ?_
  refine st hA95 (op_assign rfl (evc _ _)) rfl rfl (by decide) fun a96 hA97 => ?_; clear hA95 a61
  refine wl_nil ?_
  refine then_n ?_
  refine c_block ?_
  have hS98 := (hS94.nil_row 62 2).lst_nil; clear hS94
  have hA99 := hA97.as [(12, (Value.int .i64 0)), (10, (bptr b39 0)), (9, (Value.int .i64 ((m).tmod 500))), (4, (bptr b4 0)), (1, (Value.int .u8 (x : Int))), (2, (Value.int .u8 (y : Int)))] rfl; clear hA97
  refine c_loop (G := Nat) (fun (k2 : Nat) a_ w_ => ∃ vb_ : Value, ∃ lv_ : List Value, Fr 258 [] [(12, (Value.int .i64 (k2 : Int))), (10, (bptr b39 0)), (9, (Value.int .i64 ((m).tmod 500))), (4, (bptr b4 0)), (1, (Value.int .u8 (x : Int))), (2, (Value.int .u8 (y : Int)))] a_ ∧ Sep NoB w w_ [(lstR lv_ ((List.range k2).map fun q => movRow d ((m).tmod 500) q d.samples.length)), (row vb_ 62 2 ((d.tols.take k2).length) (vpairs ((d.tols.take k2).zip lv_))), (row vl_ 44 2 ((movedD d ((m).tmod 500)).lots.length) (pairs ((movedD d ((m).tmod 500)).lots))), (blk b39 26 [vl_, rs, (Value.int .i64 d.spread), vb_]), (blk b4 26 [rl, rs, (Value.int .i64 d.spread), rb]), (rndR false rl rs rb rlv d)] ∧ (k2 ≤ d.tols.length)) (fun k2 => d.tols.length - k2) 0 ⟨(Value.slice none 0 0), [], hA99.as _ rfl, hS98, by omega⟩ ?_
  clear hA99 hS98 a96
  rintro k2 a100 w102 ⟨vb_, lv_, hA101, hS103, hkk2⟩
  have hol := hS103.lst_len 0 rfl; have htk : (d.tols.take k2).length = k2 := by simp; omega
  have hrk : (((List.range k2).map fun q => movRow d ((m).tmod 500) q d.samples.length)).length = k2 := by simp
  refine c_seq ?_
  refine c_seq ?_
  refine c_region ?_
  refine st hA101 (op_move rfl (hA101.ev rfl)) rfl rfl (by decide) fun a104 hA105 => ?_; clear hA101 a100
  refine st hA105 (op_field rfl fd_26_3 (hA105.ev rfl)) rfl rfl (by decide) fun a106 hA107 => ?_; clear hA105 a104
  refine st hA107 (op_load1 rfl ty_24 (hA107.ev rfl) (hS103.bk 4 rfl) rfl) rfl rfl (by decide) fun a108 hA109 => ?_; clear hA107 a106
  refine st hA109 (op_lenS rfl un_24 (hA109.ev rfl) (rnd_at (hS103.ok 5 _ rfl)).labs) rfl rfl (by decide) fun a110 hA111 => ?_; clear hA109 a108
  refine st hA111 (op_lss rfl (hA111.ev rfl) (hA111.ev rfl)) rfl rfl (by decide) fun a112 hA113 => ?_; clear hA111 a110
  refine wl_nil ?_
  refine then_n ?_
  by_cases hb114 : (k2 : Int) < (d.tols.length : Int)
  ·skip
   rw [decide_eq_true hb114] at hA113
   have htl := hV.tols k2 (by omega); have hrl0 := hV.rdl k2 (by omega)
   refine c_true hA113 rfl ?_
   refine c_skip ?_
   refine then_n ?_
   refine c_seq ?_
   refine c_block ?_
   refine c_seq ?_
   refine c_region ?_
   refine st hA113 (op_field rfl fd_26_3 (hA113.ev rfl)) rfl rfl (by decide) fun a115 hA116 => ?_; clear hA113 a112
   refine st hA116 (op_load1 rfl ty_24 (hA116.ev rfl) (hS103.bk 4 rfl) rfl) rfl rfl (by decide) fun a117 hA118 => ?_; clear hA116 a115
   refine st hA118 (op_move rfl (hA118.ev rfl)) rfl rfl (by decide) fun a119 hA120 => ?_; clear hA118 a117
   refine st hA120 (op_indexS rfl un_24 ty_62 (hA120.ev rfl) (i := k2) (hA120.ev rfl) (rnd_at (hS103.ok 5 _ rfl)).labs (by decide) (by omega)) rfl rfl (by decide) fun a121 hA122 => ?_; clear hA120 a119
   refine st hA122 (op_fieldS rfl fd_62_0 (hA122.ev rfl) (rnd_at (hS103.ok 5 _ rfl)).labs (by rw [((rnd_at (hS103.ok 5 _ rfl)).labs).1]; omega)) rfl rfl (by decide) fun a123 hA124 => ?_; clear hA122 a121
   refine st hA124 (op_load1E rfl ty_3 (hA124.ev rfl) (rnd_at (hS103.ok 5 _ rfl)).labs (labs_at0 (rnd_at (hS103.ok 5 _ rfl)).lvl (by omega))) rfl rfl (by decide) fun a125 hA126 => ?_; clear hA124 a123
   refine st hA126 (op_build rfl (pv1 (hA126.ev rfl)) (bd_62_0i _)) rfl rfl (by decide) fun a127 hA128 => ?_; clear hA126 a125
   refine stw hA128 (op_alloc hS103 rfl ze_62 (cs := [(Value.int .i64 0), (Value.slice none 0 0)]) rfl) rfl rfl (by decide) ?_
   rintro a129 _ w131 ⟨b132, rfl, hS133⟩ hA130; clear hA128 hS103 a127
   refine sts hA130 (op_store hS133 rfl ty_62 (hA130.ev rfl) (hA130.ev rfl) (i := 0) rfl (vs := [(Value.int .i64 (d.tols.getD k2 0)), (Value.slice none 0 0)]) rfl rfl (all_c rfl (all_c rfl all_n)) (Nat.le_of_ble_eq_true rfl)) rfl rfl ?_
   intro _ w134 hS135 hA136; clear hA130
   have hS137 : Sep NoB w w134 [(blk b132 62 [(Value.int .i64 (d.tols.getD k2 0)), (Value.slice none 0 0)]), (lstR lv_ ((List.range k2).map fun q => movRow d ((m).tmod 500) q d.samples.length)), (row vb_ 62 2 ((d.tols.take k2).length) (vpairs ((d.tols.take k2).zip lv_))), (row vl_ 44 2 ((movedD d ((m).tmod 500)).lots.length) (pairs ((movedD d ((m).tmod 500)).lots))), (blk b39 26 [vl_, rs, (Value.int .i64 d.spread), vb_]), (blk b4 26 [rl, rs, (Value.int .i64 d.spread), rb]), (rndR false rl rs rb rlv d)] := hS135; clear hS135 hS133
   refine wl_nil ?_
   refine then_n ?_
   refine c_seq ?_
   refine c_seq ?_
   have hA138 := hA136.as [(13, (bptr b132 0)), (12, (Value.int .i64 (k2 : Int))), (10, (bptr b39 0)), (9, (Value.int .i64 ((m).tmod 500))), (4, (bptr b4 0)), (1, (Value.int .u8 (x : Int))), (2, (Value.int .u8 (y : Int)))] rfl; clear hA136
   refine c_region ?_
   refine st hA138 (op_assign rfl (evc _ _)) rfl rfl (by decide) fun a139 hA140 => ?_; clear hA138 a129
   refine wl_nil ?_
   refine then_n ?_
   refine c_block ?_
   have hS141 := hS137.nil_row 3 1; clear hS137
   have hA142 := hA140.as [(14, (Value.int .i64 0)), (13, (bptr b132 0)), (12, (Value.int .i64 (k2 : Int))), (10, (bptr b39 0)), (9, (Value.int .i64 ((m).tmod 500))), (4, (bptr b4 0)), (1, (Value.int .u8 (x : Int))), (2, (Value.int .u8 (y : Int)))] rfl; clear hA140
   refine c_loop (G := Nat) (fun (i2 : Nat) a_ w_ => ∃ vr_ : Value, Fr 258 [] [(14, (Value.int .i64 (i2 : Int))), (13, (bptr b132 0)), (12, (Value.int .i64 (k2 : Int))), (10, (bptr b39 0)), (9, (Value.int .i64 ((m).tmod 500))), (4, (bptr b4 0)), (1, (Value.int .u8 (x : Int))), (2, (Value.int .u8 (y : Int)))] a_ ∧ Sep NoB w w_ [(row vr_ 3 1 ((movRow d ((m).tmod 500) k2 i2).length) (ints (movRow d ((m).tmod 500) k2 i2))), (blk b132 62 [(Value.int .i64 (d.tols.getD k2 0)), vr_]), (lstR lv_ ((List.range k2).map fun q => movRow d ((m).tmod 500) q d.samples.length)), (row vb_ 62 2 ((d.tols.take k2).length) (vpairs ((d.tols.take k2).zip lv_))), (row vl_ 44 2 ((movedD d ((m).tmod 500)).lots.length) (pairs ((movedD d ((m).tmod 500)).lots))), (blk b39 26 [vl_, rs, (Value.int .i64 d.spread), vb_]), (blk b4 26 [rl, rs, (Value.int .i64 d.spread), rb]), (rndR false rl rs rb rlv d)] ∧ (i2 ≤ d.samples.length)) (fun i2 => d.samples.length - i2) 0 ⟨(Value.slice none 0 0), hA142.as _ rfl, hS141, by omega⟩ ?_
   clear hA142 hS141 a139
   rintro i2 a143 w145 ⟨vr_, hA144, hS146, hki2⟩
   have hrl := movRow_len d ((m).tmod 500) k2 i2
   refine c_seq ?_
   refine c_seq ?_
   refine c_region ?_
   refine st hA144 (op_move rfl (hA144.ev rfl)) rfl rfl (by decide) fun a147 hA148 => ?_; clear hA144 a143
   refine st hA148 (op_field rfl fd_26_3 (hA148.ev rfl)) rfl rfl (by decide) fun a149 hA150 => ?_; clear hA148 a147
   refine st hA150 (op_load1 rfl ty_24 (hA150.ev rfl) (hS146.bk 6 rfl) rfl) rfl rfl (by decide) fun a151 hA152 => ?_; clear hA150 a149
   refine st hA152 (op_move rfl (hA152.ev rfl)) rfl rfl (by decide) fun a153 hA154 => ?_; clear hA152 a151
   refine st hA154 (op_indexS rfl un_24 ty_62 (hA154.ev rfl) (i := k2) (hA154.ev rfl) (rnd_at (hS146.ok 7 _ rfl)).labs (by decide) (by omega)) rfl rfl (by decide) fun a155 hA156 => ?_; clear hA154 a153
   refine st hA156 (op_fieldS rfl fd_62_1 (hA156.ev rfl) (rnd_at (hS146.ok 7 _ rfl)).labs (by rw [((rnd_at (hS146.ok 7 _ rfl)).labs).1]; omega)) rfl rfl (by decide) fun a157 hA158 => ?_; clear hA156 a155
   refine st hA158 (op_load1E rfl ty_23 (hA158.ev rfl) (rnd_at (hS146.ok 7 _ rfl)).labs (labs_at1 (rnd_at (hS146.ok 7 _ rfl)).lvl (by omega))) rfl rfl (by decide) fun a159 hA160 => ?_; clear hA158 a157
   refine st hA160 (op_lenS rfl un_23 (hA160.ev rfl) ((rnd_at (hS146.ok 7 _ rfl)).rds k2 (by rw [(rnd_at (hS146.ok 7 _ rfl)).rdl]; omega))) rfl rfl (by decide) fun a161 hA162 => ?_; clear hA160 a159
   refine st hA162 (op_lss rfl (hA162.ev rfl) (hA162.ev rfl)) rfl rfl (by decide) fun a163 hA164 => ?_; clear hA162 a161
   refine wl_nil ?_
   refine then_n ?_
   by_cases hb165 : (i2 : Int) < ((d.rds.getD k2 []).length : Int)
   ·skip
    rw [decide_eq_true hb165] at hA164
    have hrd := hV.rds k2 (by omega) i2 (by omega)
    refine c_true hA164 rfl ?_
    refine c_skip ?_
    refine then_n ?_
    refine c_seq ?_
    refine c_block ?_
    refine c_seq ?_
    have hA166 := hA164.as [(14, (Value.int .i64 (i2 : Int))), (13, (bptr b132 0)), (12, (Value.int .i64 (k2 : Int))), (10, (bptr b39 0)), (9, (Value.int .i64 ((m).tmod 500))), (4, (bptr b4 0)), (1, (Value.int .u8 (x : Int))), (2, (Value.int .u8 (y : Int)))] rfl; clear hA164
    refine c_region ?_
    refine st hA166 (op_field rfl fd_26_3 (hA166.ev rfl)) rfl rfl (by decide) fun a167 hA168 => ?_; clear hA166 a163
    refine st hA168 (op_load1 rfl ty_24 (hA168.ev rfl) (hS146.bk 6 rfl) rfl) rfl rfl (by decide) fun a169 hA170 => ?_; clear hA168 a167
    refine st hA170 (op_move rfl (hA170.ev rfl)) rfl rfl (by decide) fun a171 hA172 => ?_; clear hA170 a169
    refine st hA172 (op_indexS rfl un_24 ty_62 (hA172.ev rfl) (i := k2) (hA172.ev rfl) (rnd_at (hS146.ok 7 _ rfl)).labs (by decide) (by omega)) rfl rfl (by decide) fun a173 hA174 => ?_; clear hA172 a171
    refine st hA174 (op_fieldS rfl fd_62_1 (hA174.ev rfl) (rnd_at (hS146.ok 7 _ rfl)).labs (by rw [((rnd_at (hS146.ok 7 _ rfl)).labs).1]; omega)) rfl rfl (by decide) fun a175 hA176 => ?_; clear hA174 a173
    refine st hA176 (op_load1E rfl ty_23 (hA176.ev rfl) (rnd_at (hS146.ok 7 _ rfl)).labs (labs_at1 (rnd_at (hS146.ok 7 _ rfl)).lvl (by omega))) rfl rfl (by decide) fun a177 hA178 => ?_; clear hA176 a175
    refine st hA178 (op_move rfl (hA178.ev rfl)) rfl rfl (by decide) fun a179 hA180 => ?_; clear hA178 a177
    refine st hA180 (op_indexS rfl un_23 ty_3 (hA180.ev rfl) (i := i2) (hA180.ev rfl) ((rnd_at (hS146.ok 7 _ rfl)).rds k2 (by rw [(rnd_at (hS146.ok 7 _ rfl)).rdl]; omega)) (by decide) (by omega)) rfl rfl (by decide) fun a181 hA182 => ?_; clear hA180 a179
    refine st hA182 (op_load1E rfl ty_3 (hA182.ev rfl) ((rnd_at (hS146.ok 7 _ rfl)).rds k2 (by rw [(rnd_at (hS146.ok 7 _ rfl)).rdl]; omega)) (ints_at (by omega))) rfl rfl (by decide) fun a183 hA184 => ?_; clear hA182 a181
    refine st hA184 (op_assign rfl (hA184.ev rfl)) rfl rfl (by decide) fun a185 hA186 => ?_; clear hA184 a183
    refine wl_nil ?_
    refine then_n ?_
    refine c_seq ?_
    refine c_seq ?_
    have hA187 := hA186.as [(15, (Value.int .i64 ((d.rds.getD k2 []).getD i2 0))), (14, (Value.int .i64 (i2 : Int))), (13, (bptr b132 0)), (12, (Value.int .i64 (k2 : Int))), (10, (bptr b39 0)), (9, (Value.int .i64 ((m).tmod 500))), (4, (bptr b4 0)), (1, (Value.int .u8 (x : Int))), (2, (Value.int .u8 (y : Int)))] rfl; clear hA186
    refine c_region ?_
    refine st hA187 (op_move rfl (hA187.ev rfl)) rfl rfl (by decide) fun a188 hA189 => ?_; clear hA187 a185
    refine st hA189 (op_geq rfl (hA189.ev rfl) (evc _ _)) rfl rfl (by decide) fun a190 hA191 => ?_; clear hA189 a188
    refine wl_nil ?_
    refine then_n ?_
    by_cases hb192 : 0 ≤ ((d.rds.getD k2 []).getD i2 0)
    ·skip
     rw [decide_eq_true hb192] at hA191
     refine c_true hA191 rfl ?_
     refine c_region ?_
     refine st hA191 (op_move rfl (hA191.ev rfl)) rfl rfl (by decide) fun a193 hA194 => ?_; clear hA191 a190
     refine st hA194 (op_move rfl (hA194.ev rfl)) rfl rfl (by decide) fun a195 hA196 => ?_; clear hA194 a193
     refine st hA196 (op_add rfl (hA196.ev rfl) (hA196.ev rfl) (by omega) (by omega)) rfl rfl (by decide) fun a197 hA198 => ?_; clear hA196 a195
     refine st hA198 (op_assign rfl (hA198.ev rfl)) rfl rfl (by decide) fun a199 hA200 => ?_; clear hA198 a197
     refine wl_nil ?_
     refine then_n ?_
     refine c_region ?_
     refine st hA200 (op_field rfl fd_62_1 (hA200.ev rfl)) rfl rfl (by decide) fun a201 hA202 => ?_; clear hA200 a199
     refine st hA202 (op_load1 rfl ty_23 (hA202.ev rfl) (hS146.bk 1 rfl) rfl) rfl rfl (by decide) fun a203 hA204 => ?_; clear hA202 a201
     refine st hA204 (op_move rfl (hA204.ev rfl)) rfl rfl (by decide) fun a205 hA206 => ?_; clear hA204 a203
     refine stw hA206 (op_buildSlice hS146 rfl (pv1 (hA206.ev rfl)) un_23 ty_3 ze_3 (by decide) (cs := [(Value.int .i64 (((d.rds.getD k2 []).getD i2 0) + ((m).tmod 500)))]) (bs_3_1_0i _)) rfl rfl (by decide) ?_
     rintro a207 _ w209 ⟨b210, rfl, hS211⟩ hA208; clear hA206 hS146 a205
     refine stw hA208 (op_append hS211 rfl un_23 el_3 (hA208.ev rfl) (hA208.ev rfl) (i := 1) rfl (SlAt.of_blk (hS211.bk 0 rfl) rfl (Nat.le_of_ble_eq_true rfl)) rfl (by simp only [maxLen]; omega) (by omega)) rfl rfl (by decide) ?_
     intro a212 v215 w214 hS216 hA213
     have hS217 := hS216.row_say (i := 1) rfl (n' := ((movRow d ((m).tmod 500) k2 i2) ++ [((d.rds.getD k2 []).getD i2 0) + ((m).tmod 500)]).length) (xs' := (ints ((movRow d ((m).tmod 500) k2 i2) ++ [((d.rds.getD k2 []).getD i2 0) + ((m).tmod 500)]))) (by simp) (by simp [ints]); clear hS216 hA208 hS211 a207
     refine st hA213 (op_field rfl fd_62_1 (hA213.ev rfl)) rfl rfl (by decide) fun a218 hA219 => ?_; clear hA213 a212
     refine sts hA219 (op_store hS217 rfl ty_23 (hA219.ev rfl) (hA219.ev rfl) (i := 2) rfl (vs := [v215]) (isSl_cells (SlAt.isSl (SlAt.of_row (hS217.ok_row 1 rfl)))) rfl (all_c (SlAt.one (SlAt.of_row (hS217.ok_row 1 rfl))) all_n) (Nat.le_of_ble_eq_true rfl)) rfl rfl ?_
     intro _ w220 hS221 hA222; clear hA219
     have hS223 : Sep NoB w w220 [(blk b210 3 [(Value.int .i64 (((d.rds.getD k2 []).getD i2 0) + ((m).tmod 500)))]), (row v215 3 1 (((movRow d ((m).tmod 500) k2 i2) ++ [((d.rds.getD k2 []).getD i2 0) + ((m).tmod 500)]).length) (ints ((movRow d ((m).tmod 500) k2 i2) ++ [((d.rds.getD k2 []).getD i2 0) + ((m).tmod 500)]))), (blk b132 62 [(Value.int .i64 (d.tols.getD k2 0)), v215]), (lstR lv_ ((List.range k2).map fun q => movRow d ((m).tmod 500) q d.samples.length)), (row vb_ 62 2 ((d.tols.take k2).length) (vpairs ((d.tols.take k2).zip lv_))), (row vl_ 44 2 ((movedD d ((m).tmod 500)).lots.length) (pairs ((movedD d ((m).tmod 500)).lots))), (blk b39 26 [vl_, rs, (Value.int .i64 d.spread), vb_]), (blk b4 26 [rl, rs, (Value.int .i64 d.spread), rb]), (rndR false rl rs rb rlv d)] := hS221; clear hS221 hS217
     refine wl_nil ?_
     refine blk_n ?_
     refine then_n ?_
     have hA224 := hA222.as [(14, (Value.int .i64 (i2 : Int))), (13, (bptr b132 0)), (12, (Value.int .i64 (k2 : Int))), (10, (bptr b39 0)), (9, (Value.int .i64 ((m).tmod 500))), (4, (bptr b4 0)), (1, (Value.int .u8 (x : Int))), (2, (Value.int .u8 (y : Int)))] rfl; clear hA222
     refine c_region ?_
     refine st hA224 (op_move rfl (hA224.ev rfl)) rfl rfl (by decide) fun a225 hA226 => ?_; clear hA224 a218
     refine st hA226 (op_add rfl (hA226.ev rfl) (evc _ _) (by omega) (by omega)) rfl rfl (by decide) fun a227 hA228 => ?_; clear hA226 a225
     refine st hA228 (op_assign rfl (hA228.ev rfl)) rfl rfl (by decide) fun a229 hA230 => ?_; clear hA228 a227
     refine wl_nil ?_
     have hS231 : Sep NoB w w220 [(row v215 3 1 (((movRow d ((m).tmod 500) k2 i2) ++ [((d.rds.getD k2 []).getD i2 0) + ((m).tmod 500)]).length) (ints ((movRow d ((m).tmod 500) k2 i2) ++ [((d.rds.getD k2 []).getD i2 0) + ((m).tmod 500)]))), (blk b132 62 [(Value.int .i64 (d.tols.getD k2 0)), v215]), (lstR lv_ ((List.range k2).map fun q => movRow d ((m).tmod 500) q d.samples.length)), (row vb_ 62 2 ((d.tols.take k2).length) (vpairs ((d.tols.take k2).zip lv_))), (row vl_ 44 2 ((movedD d ((m).tmod 500)).lots.length) (pairs ((movedD d ((m).tmod 500)).lots))), (blk b39 26 [vl_, rs, (Value.int .i64 d.spread), vb_]), (blk b4 26 [rl, rs, (Value.int .i64 d.spread), rb]), (rndR false rl rs rb rlv d)] := hS223.keep [1, 2, 3, 4, 5, 6, 7, 8] (by decide) _ rfl rfl; clear hS223
     exact then_n ⟨i2 + 1, ⟨v215, hA230.as _ rfl, (hS231.row_say (i := 0) rfl (by rw [movRow_succ]; first | rw [mov_yes (by assumption)] | rw [mov_no (by assumption)]) (by rw [movRow_succ]; first | rw [mov_yes (by assumption)] | rw [mov_no (by assumption)])), by omega⟩, by omega⟩
    ·skip
     rw [decide_eq_false hb192] at hA191
     refine c_false hA191 rfl ?_
     refine c_skip ?_
     refine then_n ?_
     refine c_region ?_
     refine st hA191 (op_field rfl fd_62_1 (hA191.ev rfl)) rfl rfl (by decide) fun a232 hA233 => ?_; clear hA191 a190
     refine st hA233 (op_load1 rfl ty_23 (hA233.ev rfl) (hS146.bk 1 rfl) rfl) rfl rfl (by decide) fun a234 hA235 => ?_; clear hA233 a232
     refine st hA235 (op_move rfl (hA235.ev rfl)) rfl rfl (by decide) fun a236 hA237 => ?_; clear hA235 a234
     refine stw hA237 (op_buildSlice hS146 rfl (pv1 (hA237.ev rfl)) un_23 ty_3 ze_3 (by decide) (cs := [(Value.int .i64 ((d.rds.getD k2 []).getD i2 0))]) (bs_3_1_0i _)) rfl rfl (by decide) ?_
     rintro a238 _ w240 ⟨b241, rfl, hS242⟩ hA239; clear hA237 hS146 a236
     refine stw hA239 (op_append hS242 rfl un_23 el_3 (hA239.ev rfl) (hA239.ev rfl) (i := 1) rfl (SlAt.of_blk (hS242.bk 0 rfl) rfl (Nat.le_of_ble_eq_true rfl)) rfl (by simp only [maxLen]; omega) (by omega)) rfl rfl (by decide) ?_
     intro a243 v246 w245 hS247 hA244
     have hS248 := hS247.row_say (i := 1) rfl (n' := ((movRow d ((m).tmod 500) k2 i2) ++ [(d.rds.getD k2 []).getD i2 0]).length) (xs' := (ints ((movRow d ((m).tmod 500) k2 i2) ++ [(d.rds.getD k2 []).getD i2 0]))) (by simp) (by simp [ints]); clear hS247 hA239 hS242 a238
     refine st hA244 (op_field rfl fd_62_1 (hA244.ev rfl)) rfl rfl (by decide) fun a249 hA250 => ?_; clear hA244 a243
     refine sts hA250 (op_store hS248 rfl ty_23 (hA250.ev rfl) (hA250.ev rfl) (i := 2) rfl (vs := [v246]) (isSl_cells (SlAt.isSl (SlAt.of_row (hS248.ok_row 1 rfl)))) rfl (all_c (SlAt.one (SlAt.of_row (hS248.ok_row 1 rfl))) all_n) (Nat.le_of_ble_eq_true rfl)) rfl rfl ?_
     intro _ w251 hS252 hA253; clear hA250
     have hS254 : Sep NoB w w251 [(blk b241 3 [(Value.int .i64 ((d.rds.getD k2 []).getD i2 0))]), (row v246 3 1 (((movRow d ((m).tmod 500) k2 i2) ++ [(d.rds.getD k2 []).getD i2 0]).length) (ints ((movRow d ((m).tmod 500) k2 i2) ++ [(d.rds.getD k2 []).getD i2 0]))), (blk b132 62 [(Value.int .i64 (d.tols.getD k2 0)), v246]), (lstR lv_ ((List.range k2).map fun q => movRow d ((m).tmod 500) q d.samples.length)), (row vb_ 62 2 ((d.tols.take k2).length) (vpairs ((d.tols.take k2).zip lv_))), (row vl_ 44 2 ((movedD d ((m).tmod 500)).lots.length) (pairs ((movedD d ((m).tmod 500)).lots))), (blk b39 26 [vl_, rs, (Value.int .i64 d.spread), vb_]), (blk b4 26 [rl, rs, (Value.int .i64 d.spread), rb]), (rndR false rl rs rb rlv d)] := hS252; clear hS252 hS248
     refine wl_nil ?_
     refine blk_n ?_
     refine then_n ?_
     have hA255 := hA253.as [(14, (Value.int .i64 (i2 : Int))), (13, (bptr b132 0)), (12, (Value.int .i64 (k2 : Int))), (10, (bptr b39 0)), (9, (Value.int .i64 ((m).tmod 500))), (4, (bptr b4 0)), (1, (Value.int .u8 (x : Int))), (2, (Value.int .u8 (y : Int)))] rfl; clear hA253
     refine c_region ?_
     refine st hA255 (op_move rfl (hA255.ev rfl)) rfl rfl (by decide) fun a256 hA257 => ?_; clear hA255 a249
     refine st hA257 (op_add rfl (hA257.ev rfl) (evc _ _) (by omega) (by omega)) rfl rfl (by decide) fun a258 hA259 => ?_; clear hA257 a256
     refine st hA259 (op_assign rfl (hA259.ev rfl)) rfl rfl (by decide) fun a260 hA261 => ?_; clear hA259 a258
     refine wl_nil ?_
     have hS262 : Sep NoB w w251 [(row v246 3 1 (((movRow d ((m).tmod 500) k2 i2) ++ [(d.rds.getD k2 []).getD i2 0]).length) (ints ((movRow d ((m).tmod 500) k2 i2) ++ [(d.rds.getD k2 []).getD i2 0]))), (blk b132 62 [(Value.int .i64 (d.tols.getD k2 0)), v246]), (lstR lv_ ((List.range k2).map fun q => movRow d ((m).tmod 500) q d.samples.length)), (row vb_ 62 2 ((d.tols.take k2).length) (vpairs ((d.tols.take k2).zip lv_))), (row vl_ 44 2 ((movedD d ((m).tmod 500)).lots.length) (pairs ((movedD d ((m).tmod 500)).lots))), (blk b39 26 [vl_, rs, (Value.int .i64 d.spread), vb_]), (blk b4 26 [rl, rs, (Value.int .i64 d.spread), rb]), (rndR false rl rs rb rlv d)] := hS254.keep [1, 2, 3, 4, 5, 6, 7, 8] (by decide) _ rfl rfl; clear hS254
     exact then_n ⟨i2 + 1, ⟨v246, hA261.as _ rfl, (hS262.row_say (i := 0) rfl (by rw [movRow_succ]; first | rw [mov_yes (by assumption)] | rw [mov_no (by assumption)]) (by rw [movRow_succ]; first | rw [mov_yes (by assumption)] | rw [mov_no (by assumption)])), by omega⟩, by omega⟩
   ·skip
    rw [decide_eq_false hb165] at hA164
    refine c_false hA164 rfl ?_
    refine c_exit ?_
    refine then_exit ?_
    refine then_exit ?_
    refine blk_hit ?_
    refine then_n ?_
    have hA263 := hA164.as [(13, (bptr b132 0)), (12, (Value.int .i64 (k2 : Int))), (10, (bptr b39 0)), (9, (Value.int .i64 ((m).tmod 500))), (4, (bptr b4 0)), (1, (Value.int .u8 (x : Int))), (2, (Value.int .u8 (y : Int)))] rfl; clear hA164
    refine c_region ?_
    refine st hA263 (op_field rfl fd_26_3 (hA263.ev rfl)) rfl rfl (by decide) fun a264 hA265 => ?_; clear hA263 a163
    refine st hA265 (op_load1 rfl ty_24 (hA265.ev rfl) (hS146.bk 5 rfl) rfl) rfl rfl (by decide) fun a266 hA267 => ?_; clear hA265 a264
    refine st hA267 (op_loadA rfl ty_62 (hA267.ev rfl) (hS146.bk 1 rfl) (l := [(Value.int .i64 (d.tols.getD k2 0)), vr_]) rfl rfl) rfl rfl (by decide) fun a268 hA269 => ?_; clear hA267 a266
    refine stw hA269 (op_buildSlice hS146 rfl (pv1 (hA269.ev rfl)) un_24 ty_62 ze_62 (by decide) (cs := [(Value.int .i64 (d.tols.getD k2 0)), vr_]) (bs_62_1_0iva _ _)) rfl rfl (by decide) ?_
    rintro a270 _ w272 ⟨b273, rfl, hS274⟩ hA271; clear hA269 hS146 a268
    refine stw hA271 (op_append hS274 rfl un_24 el_62 (hA271.ev rfl) (hA271.ev rfl) (i := 4) rfl (SlAt.of_blk (hS274.bk 0 rfl) rfl (Nat.le_of_ble_eq_true rfl)) (all_c rfl (all_c (SlAt.one (SlAt.of_row (hS274.ok_row 1 rfl))) all_n)) (by simp only [maxLen]; omega) (by omega)) rfl rfl (by decide) ?_
    intro a275 v278 w277 hS279 hA276
    have hS280 := hS279.row_say (i := 4) rfl (n' := ((d.tols.take k2).length + 1)) (xs' := (vpairs (((d.tols.take k2).zip lv_) ++ [(d.tols.getD k2 0, vr_)]))) rfl (by simp [vpairs]); clear hS279 hA271 hS274 a270
    refine st hA276 (op_field rfl fd_26_3 (hA276.ev rfl)) rfl rfl (by decide) fun a281 hA282 => ?_; clear hA276 a275
    refine sts hA282 (op_store hS280 rfl ty_24 (hA282.ev rfl) (hA282.ev rfl) (i := 6) rfl (vs := [v278]) (isSl_cells (SlAt.isSl (SlAt.of_row (hS280.ok_row 4 rfl)))) rfl (all_c (SlAt.one (SlAt.of_row (hS280.ok_row 4 rfl))) all_n) (Nat.le_of_ble_eq_true rfl)) rfl rfl ?_
    intro _ w283 hS284 hA285; clear hA282
    have hS286 : Sep NoB w w283 [(blk b273 62 [(Value.int .i64 (d.tols.getD k2 0)), vr_]), (row vr_ 3 1 ((movRow d ((m).tmod 500) k2 i2).length) (ints (movRow d ((m).tmod 500) k2 i2))), (blk b132 62 [(Value.int .i64 (d.tols.getD k2 0)), vr_]), (lstR lv_ ((List.range k2).map fun q => movRow d ((m).tmod 500) q d.samples.length)), (row v278 62 2 ((d.tols.take k2).length + 1) (vpairs (((d.tols.take k2).zip lv_) ++ [(d.tols.getD k2 0, vr_)]))), (row vl_ 44 2 ((movedD d ((m).tmod 500)).lots.length) (pairs ((movedD d ((m).tmod 500)).lots))), (blk b39 26 [vl_, rs, (Value.int .i64 d.spread), v278]), (blk b4 26 [rl, rs, (Value.int .i64 d.spread), rb]), (rndR false rl rs rb rlv d)] := hS284; clear hS284 hS280
    refine wl_nil ?_
    refine blk_n ?_
    refine then_n ?_
    have hA287 := hA285.as [(12, (Value.int .i64 (k2 : Int))), (10, (bptr b39 0)), (9, (Value.int .i64 ((m).tmod 500))), (4, (bptr b4 0)), (1, (Value.int .u8 (x : Int))), (2, (Value.int .u8 (y : Int)))] rfl; clear hA285
    refine c_region ?_
    refine st hA287 (op_move rfl (hA287.ev rfl)) rfl rfl (by decide) fun a288 hA289 => ?_; clear hA287 a281
    refine st hA289 (op_add rfl (hA289.ev rfl) (evc _ _) (by omega) (by omega)) rfl rfl (by decide) fun a290 hA291 => ?_; clear hA289 a288
    refine st hA291 (op_assign rfl (hA291.ev rfl)) rfl rfl (by decide) fun a292 hA293 => ?_; clear hA291 a290
    refine wl_nil ?_
    have hS294 : Sep NoB w w283 [(row vr_ 3 1 ((movRow d ((m).tmod 500) k2 i2).length) (ints (movRow d ((m).tmod 500) k2 i2))), (lstR lv_ ((List.range k2).map fun q => movRow d ((m).tmod 500) q d.samples.length)), (blk b273 62 [(Value.int .i64 (d.tols.getD k2 0)), vr_]), (blk b132 62 [(Value.int .i64 (d.tols.getD k2 0)), vr_]), (row v278 62 2 ((d.tols.take k2).length + 1) (vpairs (((d.tols.take k2).zip lv_) ++ [(d.tols.getD k2 0, vr_)]))), (row vl_ 44 2 ((movedD d ((m).tmod 500)).lots.length) (pairs ((movedD d ((m).tmod 500)).lots))), (blk b39 26 [vl_, rs, (Value.int .i64 d.spread), v278]), (blk b4 26 [rl, rs, (Value.int .i64 d.spread), rb]), (rndR false rl rs rb rlv d)] := hS286.keep [1, 3, 0, 2, 4, 5, 6, 7, 8] (by decide) _ rfl rfl; clear hS286
    have hS295 := hS294.lst_snoc; clear hS294
    have hS296 : Sep NoB w w283 [(lstR (lv_ ++ [vr_]) (((List.range k2).map fun q => movRow d ((m).tmod 500) q d.samples.length) ++ [(movRow d ((m).tmod 500) k2 i2)])), (row v278 62 2 ((d.tols.take k2).length + 1) (vpairs (((d.tols.take k2).zip lv_) ++ [(d.tols.getD k2 0, vr_)]))), (row vl_ 44 2 ((movedD d ((m).tmod 500)).lots.length) (pairs ((movedD d ((m).tmod 500)).lots))), (blk b39 26 [vl_, rs, (Value.int .i64 d.spread), v278]), (blk b4 26 [rl, rs, (Value.int .i64 d.spread), rb]), (rndR false rl rs rb rlv d)] := hS295.keep [0, 3, 4, 5, 6, 7] (by decide) _ rfl rfl; clear hS295
    exact then_n ⟨k2 + 1, ⟨v278, (lv_ ++ [vr_]), hA293.as _ rfl, ((hS296.row_say (i := 1) rfl (by rw [take_snocL d.tols _ 0 (by omega)]; simp) (by rw [take_snocL d.tols _ 0 (by omega), zip_snoc (by omega)])).lst_say (i := 0) rfl (by rw [map_range_succ, show d.samples.length = i2 by omega])), by omega⟩, by omega⟩
  ·skip
   rw [decide_eq_false hb114] at hA113
   have hS297 := (hS103.row_say (i := 1) rfl (n' := d.tols.length) (xs' := vpairs (d.tols.zip lv_)) (by rw [show k2 = d.tols.length by omega, List.take_length]) (by rw [show k2 = d.tols.length by omega, List.take_length])).lst_say (i := 0) rfl (ls' := (movedD d ((m).tmod 500)).rds) (by rw [show k2 = d.tols.length by omega]; rfl); clear hS103
   have hll := hS297.lst_len 0 rfl; have hrl9 : (movedD d ((m).tmod 500)).rds.length = d.tols.length := moved_rdl
   refine c_false hA113 rfl ?_
   refine c_exit ?_
   refine then_exit ?_
   refine then_exit ?_
   refine blk_hit ?_
   refine then_n ?_
   refine c_seq ?_
   refine c_seq ?_
   have hA298 := hA113.as [(10, (bptr b39 0)), (9, (Value.int .i64 ((m).tmod 500))), (4, (bptr b4 0)), (1, (Value.int .u8 (x : Int))), (2, (Value.int .u8 (y : Int)))] rfl; clear hA113
   refine c_region ?_
   refine st hA298 (op_loadA rfl ty_26 (hA298.ev rfl) (hS297.bk 3 rfl) (l := [vl_, rs, (Value.int .i64 d.spread), vb_]) rfl rfl) rfl rfl (by decide) fun a299 hA300 => ?_; clear hA298 a112
   refine stw hA300 (op_call rfl en_28 (ev1 (hA300.ev rfl)) (Fault_ok vl_ rs vb_ lv_ (movedD d ((m).tmod 500)) _ (show RoundAt _ vl_ rs vb_ lv_ (movedD d ((m).tmod 500)) from ⟨SlAt.of_row (hS297.ok_row 2 rfl), (rnd_at (hS297.ok 5 _ rfl)).samples, SlAt.of_row (hS297.ok_row 1 rfl), (hS297.lst_at 0 rfl).2, hll.trans hrl9, hrl9⟩))) rfl rfl (by decide) ?_
   rintro a301 _ w303 ⟨rfl, hE304⟩ hA302; have hS305 := hS297.step hE304; clear hE304 hA300 hS297 a299
   refine st hA302 (op_neq rfl (hA302.ev rfl) (evc _ _)) rfl rfl (by decide) fun a306 hA307 => ?_; clear hA302 a301
   have hd308 : (checkR (movedD d ((m).tmod 500))) = 0 := hcM
   rw [decide_eq_true hd308] at hA307
   refine wl_nil ?_
   refine then_n ?_
   refine c_false hA307 rfl ?_
   refine c_skip ?_
   refine then_n ?_
   refine c_seq ?_
   refine c_region ?_
   refine st hA307 (op_loadA rfl ty_26 (hA307.ev rfl) (hS305.bk 4 rfl) (l := [rl, rs, (Value.int .i64 d.spread), rb]) rfl rfl) rfl rfl (by decide) fun a309 hA310 => ?_; clear hA307 a306
   refine st hA310 (op_move rfl (hA310.ev rfl)) rfl rfl (by decide) fun a311 hA312 => ?_; clear hA310 a309
   refine stw hA312 (op_call rfl en_36 (ev2 (hA312.ev rfl) (hA312.ev rfl)) (chosen_ok rl rs rb rlv d _ (rnd_at (hS305.ok 5 _ rfl)) x (by omega))) rfl rfl (by decide) ?_
   rintro a313 v319 w315 ⟨hE316, hO317⟩ hA314; have hS318 := hS305.new_row hE316 hO317; clear hE316 hO317 hA312 hS305 a311
   refine st hA314 (op_assign rfl (hA314.ev rfl)) rfl rfl (by decide) fun a320 hA321 => ?_; clear hA314 a313
   refine wl_nil ?_
   refine then_n ?_
   refine c_seq ?_
   have hA322 := hA321.as [(16, v319), (10, (bptr b39 0)), (9, (Value.int .i64 ((m).tmod 500))), (4, (bptr b4 0)), (2, (Value.int .u8 (y : Int)))] rfl; clear hA321
   refine c_region ?_
   refine st hA322 (op_loadA rfl ty_26 (hA322.ev rfl) (hS318.bk 5 rfl) (l := [rl, rs, (Value.int .i64 d.spread), rb]) rfl rfl) rfl rfl (by decide) fun a323 hA324 => ?_; clear hA322 a320
   refine stw hA324 (op_call rfl en_20 (ev1 (hA324.ev rfl)) (Round_ok rl rs rb rlv d _ (rnd_at (hS318.ok 6 _ rfl)) hth)) rfl rfl (by decide) ?_
   rintro a325 _ w327 ⟨vl328, vs329, vb330, lv331, rfl, hT332⟩ hA326; have hS333 := hS318.callS hT332 rfl; clear hT332 hA324 hS318 a323
   refine st hA326 (op_move rfl (hA326.ev rfl)) rfl rfl (by decide) fun a334 hA335 => ?_; clear hA326 a325
   refine stw hA335 (op_call rfl en_22 (ev1 (hA335.ev rfl)) (list_ok (chosenF d.tols.length x) _ _ (SlAt.of_row (hS333.ok_row 1 rfl)) (Nat.le_trans (chosenF_len _ _) (by omega)))) rfl rfl (by decide) ?_
   rintro a336 v342 w338 ⟨hE339, hO340⟩ hA337; have hS341 := hS333.new_row hE339 hO340; clear hE339 hO340 hA335 hS333 a334
   refine stw hA337 (op_call rfl en_21 (ev2 (hA337.ev rfl) (hA337.ev rfl)) (by have h := (explains_ok vl328 vs329 vb330 lv331 d _ (rnd_at (hS341.ok 1 _ rfl)) _ (chosenF d.tols.length x) (SlAt.of_row (hS341.ok_row 0 rfl)) (Nat.le_trans (chosenF_len _ _) (by omega))); rw [he] at h; exact h)) rfl rfl (by decide) ?_
   rintro a343 _ w345 ⟨rfl, hE346⟩ hA344; have hS347 := hS341.step hE346; clear hE346 hA337 hS341 a336
   refine st hA344 (op_move rfl (hA344.ev rfl)) rfl rfl (by decide) fun a348 hA349 => ?_; clear hA344 a343
   refine st hA349 (op_extract rfl (hA349.ev rfl) rfl) rfl rfl (by decide) fun a350 hA351 => ?_; clear hA349 a348
   refine st hA351 (op_extract rfl (hA351.ev rfl) rfl) rfl rfl (by decide) fun a352 hA353 => ?_; clear hA351 a350
   refine st hA353 (op_assign rfl (hA353.ev rfl)) rfl rfl (by decide) fun a354 hA355 => ?_; clear hA353 a352
   refine st hA355 (op_assign rfl (hA355.ev rfl)) rfl rfl (by decide) fun a356 hA357 => ?_; clear hA355 a354
   refine wl_nil ?_
   refine then_n ?_
   refine c_seq ?_
   have hA358 := hA357.as [(18, (Value.int .i64 0)), (17, (Value.bool bb)), (16, v319), (10, (bptr b39 0)), (9, (Value.int .i64 ((m).tmod 500))), (4, (bptr b4 0)), (2, (Value.int .u8 (y : Int)))] rfl; clear hA357
   refine c_region ?_
   refine st hA358 (op_loadA rfl ty_26 (hA358.ev rfl) (hS347.bk 6 rfl) (l := [vl_, rs, (Value.int .i64 d.spread), vb_]) rfl rfl) rfl rfl (by decide) fun a359 hA360 => ?_; clear hA358 a356
   refine stw hA360 (op_call rfl en_20 (ev1 (hA360.ev rfl)) (Round_ok vl_ rs vb_ lv_ (movedD d ((m).tmod 500)) _ (show RoundAt _ vl_ rs vb_ lv_ (movedD d ((m).tmod 500)) from ⟨SlAt.of_row (hS347.ok_row 5 rfl), (rnd_at (hS347.ok 8 _ rfl)).samples, SlAt.of_row (hS347.ok_row 4 rfl), (hS347.lst_at 3 rfl).2, hll.trans hrl9, hrl9⟩) (moved_thin hV))) rfl rfl (by decide) ?_
   rintro a361 _ w363 ⟨vl364, vs365, vb366, lv367, rfl, hT368⟩ hA362; have hS369 := hS347.callS hT368 rfl; clear hT368 hA360 hS347 a359
   refine st hA362 (op_move rfl (hA362.ev rfl)) rfl rfl (by decide) fun a370 hA371 => ?_; clear hA362 a361
   refine stw hA371 (op_call rfl en_22 (ev1 (hA371.ev rfl)) (list_ok (chosenF d.tols.length x) _ _ (SlAt.of_row (hS369.ok_row 3 rfl)) (Nat.le_trans (chosenF_len _ _) (by omega)))) rfl rfl (by decide) ?_
   rintro a372 v378 w374 ⟨hE375, hO376⟩ hA373; have hS377 := hS369.new_row hE375 hO376; clear hE375 hO376 hA371 hS369 a370
   refine stw hA373 (op_call rfl en_21 (ev2 (hA373.ev rfl) (hA373.ev rfl)) (by have h := (explains_ok vl364 vs365 vb366 lv367 (movedD d ((m).tmod 500)) _ (rnd_at (hS377.ok 1 _ rfl)) _ (chosenF d.tols.length x) (SlAt.of_row (hS377.ok_row 0 rfl)) (Nat.le_trans (chosenF_len _ _) (by omega))); rw [heM] at h; exact h)) rfl rfl (by decide) ?_
   rintro a379 _ w381 ⟨rfl, hE382⟩ hA380; have hS383 := hS377.step hE382; clear hE382 hA373 hS377 a372
   refine st hA380 (op_move rfl (hA380.ev rfl)) rfl rfl (by decide) fun a384 hA385 => ?_; clear hA380 a379
   refine st hA385 (op_extract rfl (hA385.ev rfl) rfl) rfl rfl (by decide) fun a386 hA387 => ?_; clear hA385 a384
   refine st hA387 (op_extract rfl (hA387.ev rfl) rfl) rfl rfl (by decide) fun a388 hA389 => ?_; clear hA387 a386
   refine st hA389 (op_assign rfl (hA389.ev rfl)) rfl rfl (by decide) fun a390 hA391 => ?_; clear hA389 a388
   refine st hA391 (op_assign rfl (hA391.ev rfl)) rfl rfl (by decide) fun a392 hA393 => ?_; clear hA391 a390
   refine wl_nil ?_
   refine then_n ?_
   refine c_seq ?_
   have hA394 := hA393.as [(20, (Value.int .i64 0)), (19, (Value.bool bb)), (18, (Value.int .i64 0)), (17, (Value.bool bb)), (16, v319), (10, (bptr b39 0)), (9, (Value.int .i64 ((m).tmod 500))), (4, (bptr b4 0)), (2, (Value.int .u8 (y : Int)))] rfl; clear hA393
   refine c_region ?_
   refine st hA394 (op_loadA rfl ty_26 (hA394.ev rfl) (hS383.bk 9 rfl) (l := [rl, rs, (Value.int .i64 d.spread), rb]) rfl rfl) rfl rfl (by decide) fun a395 hA396 => ?_; clear hA394 a392
   refine stw hA396 (op_call rfl en_20 (ev1 (hA396.ev rfl)) (Round_ok rl rs rb rlv d _ (rnd_at (hS383.ok 10 _ rfl)) hth)) rfl rfl (by decide) ?_
   rintro a397 _ w399 ⟨vl400, vs401, vb402, lv403, rfl, hT404⟩ hA398; have hS405 := hS383.callS hT404 rfl; clear hT404 hA396 hS383 a395
   refine st hA398 (op_move rfl (hA398.ev rfl)) rfl rfl (by decide) fun a406 hA407 => ?_; clear hA398 a397
   refine stw hA407 (op_call rfl en_22 (ev1 (hA407.ev rfl)) (list_ok (chosenF d.tols.length x) _ _ (SlAt.of_row (hS405.ok_row 5 rfl)) (Nat.le_trans (chosenF_len _ _) (by omega)))) rfl rfl (by decide) ?_
   rintro a408 v414 w410 ⟨hE411, hO412⟩ hA409; have hS413 := hS405.new_row hE411 hO412; clear hE411 hO412 hA407 hS405 a406
   refine stw hA409 (op_call rfl en_26 (ev2 (hA409.ev rfl) (hA409.ev rfl)) (by have h := (spansE_ok vl400 vs401 vb402 lv403 d _ (rnd_at (hS413.ok 1 _ rfl)) _ (chosenF d.tols.length x) (SlAt.of_row (hS413.ok_row 0 rfl)) (Nat.le_trans (chosenF_len _ _) (by omega))); rw [hs] at h; exact h)) rfl rfl (by decide) ?_
   rintro a415 _ w417 ⟨u421, rfl, hE418, hO419⟩ hA416; have hS420 := hS413.new_row hE418 hO419; clear hE418 hO419 hA409 hS413 a408
   refine st hA416 (op_move rfl (hA416.ev rfl)) rfl rfl (by decide) fun a422 hA423 => ?_; clear hA416 a415
   refine st hA423 (op_extract rfl (hA423.ev rfl) rfl) rfl rfl (by decide) fun a424 hA425 => ?_; clear hA423 a422
   refine st hA425 (op_extract rfl (hA425.ev rfl) rfl) rfl rfl (by decide) fun a426 hA427 => ?_; clear hA425 a424
   refine st hA427 (op_assign rfl (hA427.ev rfl)) rfl rfl (by decide) fun a428 hA429 => ?_; clear hA427 a426
   refine st hA429 (op_assign rfl (hA429.ev rfl)) rfl rfl (by decide) fun a430 hA431 => ?_; clear hA429 a428
   refine wl_nil ?_
   refine then_n ?_
   refine c_seq ?_
   have hA432 := hA431.as [(22, (Value.int .i64 c)), (21, u421), (20, (Value.int .i64 0)), (19, (Value.bool bb)), (18, (Value.int .i64 0)), (17, (Value.bool bb)), (16, v319), (10, (bptr b39 0)), (9, (Value.int .i64 ((m).tmod 500))), (4, (bptr b4 0)), (2, (Value.int .u8 (y : Int)))] rfl; clear hA431
   refine c_region ?_
   refine st hA432 (op_loadA rfl ty_26 (hA432.ev rfl) (hS420.bk 11 rfl) (l := [vl_, rs, (Value.int .i64 d.spread), vb_]) rfl rfl) rfl rfl (by decide) fun a433 hA434 => ?_; clear hA432 a430
   refine stw hA434 (op_call rfl en_20 (ev1 (hA434.ev rfl)) (Round_ok vl_ rs vb_ lv_ (movedD d ((m).tmod 500)) _ (show RoundAt _ vl_ rs vb_ lv_ (movedD d ((m).tmod 500)) from ⟨SlAt.of_row (hS420.ok_row 10 rfl), (rnd_at (hS420.ok 13 _ rfl)).samples, SlAt.of_row (hS420.ok_row 9 rfl), (hS420.lst_at 8 rfl).2, hll.trans hrl9, hrl9⟩) (moved_thin hV))) rfl rfl (by decide) ?_
   rintro a435 _ w437 ⟨vl438, vs439, vb440, lv441, rfl, hT442⟩ hA436; have hS443 := hS420.callS hT442 rfl; clear hT442 hA434 hS420 a433
   refine st hA436 (op_move rfl (hA436.ev rfl)) rfl rfl (by decide) fun a444 hA445 => ?_; clear hA436 a435
   refine stw hA445 (op_call rfl en_22 (ev1 (hA445.ev rfl)) (list_ok (chosenF d.tols.length x) _ _ (SlAt.of_row (hS443.ok_row 8 rfl)) (Nat.le_trans (chosenF_len _ _) (by omega)))) rfl rfl (by decide) ?_
   rintro a446 v452 w448 ⟨hE449, hO450⟩ hA447; have hS451 := hS443.new_row hE449 hO450; clear hE449 hO450 hA445 hS443 a444
   refine stw hA447 (op_call rfl en_26 (ev2 (hA447.ev rfl) (hA447.ev rfl)) (by have h := (spansE_ok vl438 vs439 vb440 lv441 (movedD d ((m).tmod 500)) _ (rnd_at (hS451.ok 1 _ rfl)) _ (chosenF d.tols.length x) (SlAt.of_row (hS451.ok_row 0 rfl)) (Nat.le_trans (chosenF_len _ _) (by omega))); rw [hsM] at h; exact h)) rfl rfl (by decide) ?_
   rintro a453 _ w455 ⟨u459, rfl, hE456, hO457⟩ hA454; have hS458 := hS451.new_row hE456 hO457; clear hE456 hO457 hA447 hS451 a446
   refine st hA454 (op_move rfl (hA454.ev rfl)) rfl rfl (by decide) fun a460 hA461 => ?_; clear hA454 a453
   refine st hA461 (op_extract rfl (hA461.ev rfl) rfl) rfl rfl (by decide) fun a462 hA463 => ?_; clear hA461 a460
   refine st hA463 (op_extract rfl (hA463.ev rfl) rfl) rfl rfl (by decide) fun a464 hA465 => ?_; clear hA463 a462
   refine st hA465 (op_assign rfl (hA465.ev rfl)) rfl rfl (by decide) fun a466 hA467 => ?_; clear hA465 a464
   refine st hA467 (op_assign rfl (hA467.ev rfl)) rfl rfl (by decide) fun a468 hA469 => ?_; clear hA467 a466
   refine wl_nil ?_
   refine then_n ?_
   refine c_seq ?_
   refine c_seq ?_
   have hA470 := hA469.as [(24, (Value.int .i64 c)), (23, u459), (22, (Value.int .i64 c)), (21, u421), (20, (Value.int .i64 0)), (19, (Value.bool bb)), (18, (Value.int .i64 0)), (17, (Value.bool bb)), (10, (bptr b39 0)), (9, (Value.int .i64 ((m).tmod 500))), (4, (bptr b4 0)), (2, (Value.int .u8 (y : Int)))] rfl; clear hA469
   refine c_region ?_
   refine st hA470 (op_move rfl (hA470.ev rfl)) rfl rfl (by decide) fun a471 hA472 => ?_; clear hA470 a468
   refine st hA472 (op_neq rfl (hA472.ev rfl) (evc _ _)) rfl rfl (by decide) fun a473 hA474 => ?_; clear hA472 a471
   refine st hA474 (op_move rfl (hA474.ev rfl)) rfl rfl (by decide) fun a475 hA476 => ?_; clear hA474 a473
   refine stg hA476 (op_move rfl (hA476.ev rfl)) rfl rfl rfl rfl (by decide) fun a477 hA478 => ?_; clear hA476 a475
   refine stg hA478 (op_neq rfl (hA478.ev rfl) (evc _ _)) rfl rfl rfl rfl (by decide) fun a479 hA480 => ?_; clear hA478 a477
   refine st hA480 (op_pick_f rfl (hA480.ev rfl) (hA480.ev rfl)) rfl rfl (by decide) fun a481 hA482 => ?_; clear hA480 a479
   refine st hA482 (op_move rfl (hA482.ev rfl)) rfl rfl (by decide) fun a483 hA484 => ?_; clear hA482 a481
   refine stg hA484 (op_move rfl (hA484.ev rfl)) rfl rfl rfl rfl (by decide) fun a485 hA486 => ?_; clear hA484 a483
   refine stg hA486 (op_move rfl (hA486.ev rfl)) rfl rfl rfl rfl (by decide) fun a487 hA488 => ?_; clear hA486 a485
   refine stg hA488 (op_neqB un_4 rfl (hA488.ev rfl) (hA488.ev rfl)) rfl rfl rfl rfl (by decide) fun a489 hA490 => ?_; clear hA488 a487
   refine st hA490 (op_pick_f rfl (hA490.ev rfl) (hA490.ev rfl)) rfl rfl (by decide) fun a491 hA492 => ?_; clear hA490 a489
   refine st hA492 (op_move rfl (hA492.ev rfl)) rfl rfl (by decide) fun a493 hA494 => ?_; clear hA492 a491
   rcases Bool.eq_false_or_eq_true (bb) with hb495 | hb495
   ·skip
    rw [hb495] at hA494
    refine stg hA494 (op_move rfl (hA494.ev rfl)) rfl rfl rfl rfl (by decide) fun a496 hA497 => ?_; clear hA494 a493
    refine stg hA497 (op_move rfl (hA497.ev rfl)) rfl rfl rfl rfl (by decide) fun a498 hA499 => ?_; clear hA497 a496
    refine stg hA499 (op_neq rfl (hA499.ev rfl) (hA499.ev rfl)) rfl rfl rfl rfl (by decide) fun a500 hA501 => ?_; clear hA499 a498
    have hd502 : c = c := rfl
    rw [decide_eq_true hd502] at hA501
    refine st hA501 (op_pick_f rfl (hA501.ev rfl) (hA501.ev rfl)) rfl rfl (by decide) fun a503 hA504 => ?_; clear hA501 a500
    refine st hA504 (op_move rfl (hA504.ev rfl)) rfl rfl (by decide) fun a505 hA506 => ?_; clear hA504 a503
    refine stg hA506 (op_move rfl (hA506.ev rfl)) rfl rfl rfl rfl (by decide) fun a507 hA508 => ?_; clear hA506 a505
    refine stg hA508 (op_lenS rfl un_31 (hA508.ev rfl) (SlAt.of_row (hS458.ok_row 3 rfl))) rfl rfl rfl rfl (by decide) fun a509 hA510 => ?_; clear hA508 a507
    refine stg hA510 (op_move rfl (hA510.ev rfl)) rfl rfl rfl rfl (by decide) fun a511 hA512 => ?_; clear hA510 a509
    refine stg hA512 (op_lenS rfl un_31 (hA512.ev rfl) (SlAt.of_row (hS458.ok_row 0 rfl))) rfl rfl rfl rfl (by decide) fun a513 hA514 => ?_; clear hA512 a511
    refine stg hA514 (op_neq rfl (hA514.ev rfl) (hA514.ev rfl)) rfl rfl rfl rfl (by decide) fun a515 hA516 => ?_; clear hA514 a513
    have hd517 : (S1.length : Int) = (S2.length : Int) := (by omega)
    rw [decide_eq_true hd517] at hA516
    refine st hA516 (op_pick_f rfl (hA516.ev rfl) (hA516.ev rfl)) rfl rfl (by decide) fun a518 hA519 => ?_; clear hA516 a515
    refine wl_nil ?_
    refine then_n ?_
    refine c_false hA519 rfl ?_
    refine c_skip ?_
    refine then_n ?_
    refine c_seq ?_
    refine c_seq ?_
    have hA520 := hA519.as [(23, u459), (21, u421), (10, (bptr b39 0)), (9, (Value.int .i64 ((m).tmod 500))), (4, (bptr b4 0)), (2, (Value.int .u8 (y : Int)))] rfl; clear hA519
    refine c_region ?_
    refine st hA520 (op_assign rfl (evc _ _)) rfl rfl (by decide) fun a521 hA522 => ?_; clear hA520 a518
    refine wl_nil ?_
    refine then_n ?_
    refine c_block ?_
    have hA523 := hA522.as [(25, (Value.int .i64 0)), (23, u459), (21, u421), (10, (bptr b39 0)), (9, (Value.int .i64 ((m).tmod 500))), (4, (bptr b4 0)), (2, (Value.int .u8 (y : Int)))] rfl; clear hA522
    refine c_loop (G := Nat) (fun (k3 : Nat) a_ w_ => Fr 258 [] [(25, (Value.int .i64 (k3 : Int))), (23, u459), (21, u421), (10, (bptr b39 0)), (9, (Value.int .i64 ((m).tmod 500))), (4, (bptr b4 0)), (2, (Value.int .u8 (y : Int)))] a_ ∧ Sep NoB w w_ [(row u459 46 2 S2.length (pairs S2)), (row v452 3 1 ((chosenF d.tols.length x).length) (ints (chosenF d.tols.length x))), (rndR true vl438 vs439 vb440 lv441 (movedD d ((m).tmod 500))), (row u421 46 2 S1.length (pairs S1)), (row v414 3 1 ((chosenF d.tols.length x).length) (ints (chosenF d.tols.length x))), (rndR true vl400 vs401 vb402 lv403 d), (row v378 3 1 ((chosenF d.tols.length x).length) (ints (chosenF d.tols.length x))), (rndR true vl364 vs365 vb366 lv367 (movedD d ((m).tmod 500))), (row v342 3 1 ((chosenF d.tols.length x).length) (ints (chosenF d.tols.length x))), (rndR true vl328 vs329 vb330 lv331 d), (row v319 3 1 ((chosenF d.tols.length x).length) (ints (chosenF d.tols.length x))), (lstR lv_ (movedD d ((m).tmod 500)).rds), (row vb_ 62 2 d.tols.length (vpairs (d.tols.zip lv_))), (row vl_ 44 2 ((movedD d ((m).tmod 500)).lots.length) (pairs ((movedD d ((m).tmod 500)).lots))), (blk b39 26 [vl_, rs, (Value.int .i64 d.spread), vb_]), (blk b4 26 [rl, rs, (Value.int .i64 d.spread), rb]), (rndR false rl rs rb rlv d)] ∧ (k3 ≤ S1.length)) (fun k3 => S1.length - k3) 0 ⟨hA523.as _ rfl, hS458, by omega⟩ ?_
    clear hA523 hS458 a521
    rintro k3 a524 w526 ⟨hA525, hS527, hkk3⟩
    refine c_seq ?_
    refine c_seq ?_
    refine c_region ?_
    refine st hA525 (op_move rfl (hA525.ev rfl)) rfl rfl (by decide) fun a528 hA529 => ?_; clear hA525 a524
    refine st hA529 (op_move rfl (hA529.ev rfl)) rfl rfl (by decide) fun a530 hA531 => ?_; clear hA529 a528
    refine st hA531 (op_lenS rfl un_31 (hA531.ev rfl) (SlAt.of_row (hS527.ok_row 3 rfl))) rfl rfl (by decide) fun a532 hA533 => ?_; clear hA531 a530
    refine st hA533 (op_lss rfl (hA533.ev rfl) (hA533.ev rfl)) rfl rfl (by decide) fun a534 hA535 => ?_; clear hA533 a532
    refine wl_nil ?_
    refine then_n ?_
    by_cases hb536 : (k3 : Int) < (S1.length : Int)
    ·skip
     rw [decide_eq_true hb536] at hA535
     have hbk := hb k3 (by omega)
     refine c_true hA535 rfl ?_
     refine c_skip ?_
     refine then_n ?_
     refine c_seq ?_
     refine c_block ?_
     refine c_seq ?_
     have hA537 := hA535.as [(25, (Value.int .i64 (k3 : Int))), (23, u459), (21, u421), (10, (bptr b39 0)), (9, (Value.int .i64 ((m).tmod 500))), (4, (bptr b4 0)), (2, (Value.int .u8 (y : Int)))] rfl; clear hA535
     refine c_drawV mixed hA537 hS527 26 [[], [], [0, 1], [2], [3], [], [], [5, 6], [7], [8], [], [9, 10], [4, 11], [12], [13], [13], [13, 14, 15], [13, 16], [13, 17], [13], [13], [13, 19, 20], [13, 21], [13, 22], [13], [13, 23, 24]] [(fun (vs538 : Nat → Value) (v_ : Value) (rs_ : List Res) => v_ = u459 ∧ rs_ = []), (fun (vs538 : Nat → Value) (v_ : Value) (rs_ : List Res) => v_ = (Value.int .i64 (k3 : Int)) ∧ rs_ = []), (fun (vs538 : Nat → Value) (v_ : Value) (rs_ : List Res) => v_ = (eptr u459 (k3 * 2)) ∧ rs_ = []), (fun (vs538 : Nat → Value) (v_ : Value) (rs_ : List Res) => v_ = (eptr u459 (k3 * 2 + 0)) ∧ rs_ = []), (fun (vs538 : Nat → Value) (v_ : Value) (rs_ : List Res) => v_ = (Value.int .i64 ((S2.getD k3 (0, 0)).1)) ∧ rs_ = []), (fun (vs538 : Nat → Value) (v_ : Value) (rs_ : List Res) => v_ = u421 ∧ rs_ = []), (fun (vs538 : Nat → Value) (v_ : Value) (rs_ : List Res) => v_ = (Value.int .i64 (k3 : Int)) ∧ rs_ = []), (fun (vs538 : Nat → Value) (v_ : Value) (rs_ : List Res) => v_ = (eptr u421 (k3 * 2)) ∧ rs_ = []), (fun (vs538 : Nat → Value) (v_ : Value) (rs_ : List Res) => v_ = (eptr u421 (k3 * 2 + 0)) ∧ rs_ = []), (fun (vs538 : Nat → Value) (v_ : Value) (rs_ : List Res) => v_ = (Value.int .i64 ((S1.getD k3 (0, 0)).1)) ∧ rs_ = []), (fun (vs538 : Nat → Value) (v_ : Value) (rs_ : List Res) => v_ = (Value.int .i64 ((m).tmod 500)) ∧ rs_ = []), (fun (vs538 : Nat → Value) (v_ : Value) (rs_ : List Res) => v_ = (Value.int .i64 (((S1.getD k3 (0, 0)).1) + ((m).tmod 500))) ∧ rs_ = []), (fun (vs538 : Nat → Value) (v_ : Value) (rs_ : List Res) => v_ = (Value.bool (!true)) ∧ rs_ = []), (fun (vs538 : Nat → Value) (v_ : Value) (rs_ : List Res) => v_ = (Value.bool (!true)) ∧ rs_ = []), (fun (vs538 : Nat → Value) (v_ : Value) (rs_ : List Res) => v_ = u459 ∧ rs_ = []), (fun (vs538 : Nat → Value) (v_ : Value) (rs_ : List Res) => v_ = (Value.int .i64 (k3 : Int)) ∧ rs_ = []), (fun (vs538 : Nat → Value) (v_ : Value) (rs_ : List Res) => v_ = (eptr u459 (k3 * 2)) ∧ rs_ = []), (fun (vs538 : Nat → Value) (v_ : Value) (rs_ : List Res) => v_ = (eptr u459 (k3 * 2 + 1)) ∧ rs_ = []), (fun (vs538 : Nat → Value) (v_ : Value) (rs_ : List Res) => v_ = (Value.int .i64 ((S2.getD k3 (0, 0)).2)) ∧ rs_ = []), (fun (vs538 : Nat → Value) (v_ : Value) (rs_ : List Res) => v_ = u421 ∧ rs_ = []), (fun (vs538 : Nat → Value) (v_ : Value) (rs_ : List Res) => v_ = (Value.int .i64 (k3 : Int)) ∧ rs_ = []), (fun (vs538 : Nat → Value) (v_ : Value) (rs_ : List Res) => v_ = (eptr u421 (k3 * 2)) ∧ rs_ = []), (fun (vs538 : Nat → Value) (v_ : Value) (rs_ : List Res) => v_ = (eptr u421 (k3 * 2 + 1)) ∧ rs_ = []), (fun (vs538 : Nat → Value) (v_ : Value) (rs_ : List Res) => v_ = (Value.int .i64 ((S1.getD k3 (0, 0)).2)) ∧ rs_ = []), (fun (vs538 : Nat → Value) (v_ : Value) (rs_ : List Res) => v_ = (Value.int .i64 ((m).tmod 500)) ∧ rs_ = []), (fun (vs538 : Nat → Value) (v_ : Value) (rs_ : List Res) => v_ = (Value.int .i64 (((S1.getD k3 (0, 0)).2) + ((m).tmod 500))) ∧ rs_ = [])] (by decide +kernel) (by decide +kernel) rfl rfl ⟨(fun _ _ _ _ _ h_ => h_), (fun _ _ _ _ _ h_ => h_), (fun _ _ _ _ _ h_ => h_), (fun _ _ _ _ _ h_ => h_), (fun _ _ _ _ _ h_ => h_), (fun _ _ _ _ _ h_ => h_), (fun _ _ _ _ _ h_ => h_), (fun _ _ _ _ _ h_ => h_), (fun _ _ _ _ _ h_ => h_), (fun _ _ _ _ _ h_ => h_), (fun _ _ _ _ _ h_ => h_), (fun _ _ _ _ _ h_ => h_), (fun _ _ _ _ _ h_ => h_), (fun _ _ _ _ _ h_ => h_), (fun _ _ _ _ _ h_ => h_), (fun _ _ _ _ _ h_ => h_), (fun _ _ _ _ _ h_ => h_), (fun _ _ _ _ _ h_ => h_), (fun _ _ _ _ _ h_ => h_), (fun _ _ _ _ _ h_ => h_), (fun _ _ _ _ _ h_ => h_), (fun _ _ _ _ _ h_ => h_), (fun _ _ _ _ _ h_ => h_), (fun _ _ _ _ _ h_ => h_), (fun _ _ _ _ _ h_ => h_), (fun _ _ _ _ _ h_ => h_), trivial⟩ ?_ ?_
     ·skip
      refine ⟨fun a w vs538 hA hS hd => ?_, ?_⟩
      ·skip
       exact opG_of rfl (vv (op_move rfl (hA.ev rfl)) (And.intro rfl rfl))
      refine ⟨fun a w vs538 hA hS hd => ?_, ?_⟩
      ·skip
       exact opG_of rfl (vv (op_move rfl (hA.ev rfl)) (And.intro rfl rfl))
      refine ⟨fun a w vs538 hA hS hd => ?_, ?_⟩
      ·skip
       obtain ⟨e0, rs0, hy0, hp0⟩ := hd 0 (by decide)
       obtain ⟨hv0, hr0⟩ := hy0; subst hr0
       rw [hv0] at e0
       obtain ⟨e1, rs1, hy1, hp1⟩ := hd 1 (by decide)
       obtain ⟨hv1, hr1⟩ := hy1; subst hr1
       rw [hv1] at e1
       exact opG_of rfl (vv (op_indexS rfl un_31 ty_46 (tmp_ev (slot_ev e0 rfl)) (i := k3) (tmp_ev (slot_ev e1 rfl)) (SlAt.of_row (hS.ok_row 0 rfl)) (by decide) (by omega)) (And.intro rfl rfl))
      refine ⟨fun a w vs538 hA hS hd => ?_, ?_⟩
      ·skip
       obtain ⟨e2, rs2, hy2, hp2⟩ := hd 2 (by decide)
       obtain ⟨hv2, hr2⟩ := hy2; subst hr2
       rw [hv2] at e2
       exact opG_of rfl (vv (op_fieldS rfl fd_46_0 (tmp_ev (slot_ev e2 rfl)) (SlAt.of_row (hS.ok_row 0 rfl)) (by rw [((SlAt.of_row (hS.ok_row 0 rfl))).1]; omega)) (And.intro rfl rfl))
      refine ⟨fun a w vs538 hA hS hd => ?_, ?_⟩
      ·skip
       obtain ⟨e3, rs3, hy3, hp3⟩ := hd 3 (by decide)
       obtain ⟨hv3, hr3⟩ := hy3; subst hr3
       rw [hv3] at e3
       exact opG_of rfl (vv (op_load1E rfl ty_3 (tmp_ev (slot_ev e3 rfl)) (SlAt.of_row (hS.ok_row 0 rfl)) (pairs_at0 (by omega))) (And.intro rfl rfl))
      refine ⟨fun a w vs538 hA hS hd => ?_, ?_⟩
      ·skip
       exact opG_of rfl (vv (op_move rfl (hA.ev rfl)) (And.intro rfl rfl))
      refine ⟨fun a w vs538 hA hS hd => ?_, ?_⟩
      ·skip
       exact opG_of rfl (vv (op_move rfl (hA.ev rfl)) (And.intro rfl rfl))
      refine ⟨fun a w vs538 hA hS hd => ?_, ?_⟩
      ·skip
       obtain ⟨e5, rs5, hy5, hp5⟩ := hd 5 (by decide)
       obtain ⟨hv5, hr5⟩ := hy5; subst hr5
       rw [hv5] at e5
       obtain ⟨e6, rs6, hy6, hp6⟩ := hd 6 (by decide)
       obtain ⟨hv6, hr6⟩ := hy6; subst hr6
       rw [hv6] at e6
       exact opG_of rfl (vv (op_indexS rfl un_31 ty_46 (tmp_ev (slot_ev e5 rfl)) (i := k3) (tmp_ev (slot_ev e6 rfl)) (SlAt.of_row (hS.ok_row 3 rfl)) (by decide) (by omega)) (And.intro rfl rfl))
      refine ⟨fun a w vs538 hA hS hd => ?_, ?_⟩
      ·skip
       obtain ⟨e7, rs7, hy7, hp7⟩ := hd 7 (by decide)
       obtain ⟨hv7, hr7⟩ := hy7; subst hr7
       rw [hv7] at e7
       exact opG_of rfl (vv (op_fieldS rfl fd_46_0 (tmp_ev (slot_ev e7 rfl)) (SlAt.of_row (hS.ok_row 3 rfl)) (by rw [((SlAt.of_row (hS.ok_row 3 rfl))).1]; omega)) (And.intro rfl rfl))
      refine ⟨fun a w vs538 hA hS hd => ?_, ?_⟩
      ·skip
       obtain ⟨e8, rs8, hy8, hp8⟩ := hd 8 (by decide)
       obtain ⟨hv8, hr8⟩ := hy8; subst hr8
       rw [hv8] at e8
       exact opG_of rfl (vv (op_load1E rfl ty_3 (tmp_ev (slot_ev e8 rfl)) (SlAt.of_row (hS.ok_row 3 rfl)) (pairs_at0 (by omega))) (And.intro rfl rfl))
      refine ⟨fun a w vs538 hA hS hd => ?_, ?_⟩
      ·skip
       exact opG_of rfl (vv (op_move rfl (hA.ev rfl)) (And.intro rfl rfl))
      refine ⟨fun a w vs538 hA hS hd => ?_, ?_⟩
      ·skip
       obtain ⟨e9, rs9, hy9, hp9⟩ := hd 9 (by decide)
       obtain ⟨hv9, hr9⟩ := hy9; subst hr9
       rw [hv9] at e9
       obtain ⟨e10, rs10, hy10, hp10⟩ := hd 10 (by decide)
       obtain ⟨hv10, hr10⟩ := hy10; subst hr10
       rw [hv10] at e10
       exact opG_of rfl (vv (op_add rfl (tmp_ev (slot_ev e9 rfl)) (tmp_ev (slot_ev e10 rfl)) (by omega) (by omega)) (And.intro rfl rfl))
      refine ⟨fun a w vs538 hA hS hd => ?_, ?_⟩
      ·skip
       obtain ⟨e4, rs4, hy4, hp4⟩ := hd 4 (by decide)
       obtain ⟨hv4, hr4⟩ := hy4; subst hr4
       rw [hv4] at e4
       obtain ⟨e11, rs11, hy11, hp11⟩ := hd 11 (by decide)
       obtain ⟨hv11, hr11⟩ := hy11; subst hr11
       rw [hv11] at e11
       exact opG_of rfl (vv (op_neq rfl (tmp_ev (slot_ev e4 rfl)) (tmp_ev (slot_ev e11 rfl))) (And.intro (by show Value.bool _ = _; simp only [decide_eq_true (show ((S2.getD k3 (0, 0)).1) = (((S1.getD k3 (0, 0)).1) + ((m).tmod 500)) from (hb k3 (by omega)).2.1), decide_true, decide_false, Bool.not_true, Bool.not_false]) rfl))
      refine ⟨fun a w vs538 hA hS hd => ?_, ?_⟩
      ·skip
       obtain ⟨e12, rs12, hy12, hp12⟩ := hd 12 (by decide)
       obtain ⟨hv12, hr12⟩ := hy12; subst hr12
       rw [hv12] at e12
       exact opG_of rfl (vv (op_move rfl (tmp_ev (slot_ev e12 rfl))) (And.intro rfl rfl))
      refine ⟨fun a w vs538 hA hS hd => ?_, ?_⟩
      ·skip
       obtain ⟨e13, rs13, hy13, hp13⟩ := hd 13 (by decide)
       obtain ⟨hv13, hr13⟩ := hy13; subst hr13
       rw [hv13] at e13
       exact opG_yes rfl rfl (slot_ev e13 rfl) (vv (op_move rfl (hA.ev rfl)) (And.intro rfl rfl))
      refine ⟨fun a w vs538 hA hS hd => ?_, ?_⟩
      ·skip
       obtain ⟨e13, rs13, hy13, hp13⟩ := hd 13 (by decide)
       obtain ⟨hv13, hr13⟩ := hy13; subst hr13
       rw [hv13] at e13
       exact opG_yes rfl rfl (slot_ev e13 rfl) (vv (op_move rfl (hA.ev rfl)) (And.intro rfl rfl))
      refine ⟨fun a w vs538 hA hS hd => ?_, ?_⟩
      ·skip
       obtain ⟨e13, rs13, hy13, hp13⟩ := hd 13 (by decide)
       obtain ⟨hv13, hr13⟩ := hy13; subst hr13
       rw [hv13] at e13
       obtain ⟨e14, rs14, hy14, hp14⟩ := hd 14 (by decide)
       obtain ⟨hv14, hr14⟩ := hy14; subst hr14
       rw [hv14] at e14
       obtain ⟨e15, rs15, hy15, hp15⟩ := hd 15 (by decide)
       obtain ⟨hv15, hr15⟩ := hy15; subst hr15
       rw [hv15] at e15
       exact opG_yes rfl rfl (slot_ev e13 rfl) (vv (op_indexS rfl un_31 ty_46 (tmp_ev (slot_ev e14 rfl)) (i := k3) (tmp_ev (slot_ev e15 rfl)) (SlAt.of_row (hS.ok_row 0 rfl)) (by decide) (by omega)) (And.intro rfl rfl))
      refine ⟨fun a w vs538 hA hS hd => ?_, ?_⟩
      ·skip
       obtain ⟨e13, rs13, hy13, hp13⟩ := hd 13 (by decide)
       obtain ⟨hv13, hr13⟩ := hy13; subst hr13
       rw [hv13] at e13
       obtain ⟨e16, rs16, hy16, hp16⟩ := hd 16 (by decide)
       obtain ⟨hv16, hr16⟩ := hy16; subst hr16
       rw [hv16] at e16
       exact opG_yes rfl rfl (slot_ev e13 rfl) (vv (op_fieldS rfl fd_46_1 (tmp_ev (slot_ev e16 rfl)) (SlAt.of_row (hS.ok_row 0 rfl)) (by rw [((SlAt.of_row (hS.ok_row 0 rfl))).1]; omega)) (And.intro rfl rfl))
      refine ⟨fun a w vs538 hA hS hd => ?_, ?_⟩
      ·skip
       obtain ⟨e13, rs13, hy13, hp13⟩ := hd 13 (by decide)
       obtain ⟨hv13, hr13⟩ := hy13; subst hr13
       rw [hv13] at e13
       obtain ⟨e17, rs17, hy17, hp17⟩ := hd 17 (by decide)
       obtain ⟨hv17, hr17⟩ := hy17; subst hr17
       rw [hv17] at e17
       exact opG_yes rfl rfl (slot_ev e13 rfl) (vv (op_load1E rfl ty_3 (tmp_ev (slot_ev e17 rfl)) (SlAt.of_row (hS.ok_row 0 rfl)) (pairs_at1 (by omega))) (And.intro rfl rfl))
      refine ⟨fun a w vs538 hA hS hd => ?_, ?_⟩
      ·skip
       obtain ⟨e13, rs13, hy13, hp13⟩ := hd 13 (by decide)
       obtain ⟨hv13, hr13⟩ := hy13; subst hr13
       rw [hv13] at e13
       exact opG_yes rfl rfl (slot_ev e13 rfl) (vv (op_move rfl (hA.ev rfl)) (And.intro rfl rfl))
      refine ⟨fun a w vs538 hA hS hd => ?_, ?_⟩
      ·skip
       obtain ⟨e13, rs13, hy13, hp13⟩ := hd 13 (by decide)
       obtain ⟨hv13, hr13⟩ := hy13; subst hr13
       rw [hv13] at e13
       exact opG_yes rfl rfl (slot_ev e13 rfl) (vv (op_move rfl (hA.ev rfl)) (And.intro rfl rfl))
      refine ⟨fun a w vs538 hA hS hd => ?_, ?_⟩
      ·skip
       obtain ⟨e13, rs13, hy13, hp13⟩ := hd 13 (by decide)
       obtain ⟨hv13, hr13⟩ := hy13; subst hr13
       rw [hv13] at e13
       obtain ⟨e19, rs19, hy19, hp19⟩ := hd 19 (by decide)
       obtain ⟨hv19, hr19⟩ := hy19; subst hr19
       rw [hv19] at e19
       obtain ⟨e20, rs20, hy20, hp20⟩ := hd 20 (by decide)
       obtain ⟨hv20, hr20⟩ := hy20; subst hr20
       rw [hv20] at e20
       exact opG_yes rfl rfl (slot_ev e13 rfl) (vv (op_indexS rfl un_31 ty_46 (tmp_ev (slot_ev e19 rfl)) (i := k3) (tmp_ev (slot_ev e20 rfl)) (SlAt.of_row (hS.ok_row 3 rfl)) (by decide) (by omega)) (And.intro rfl rfl))
      refine ⟨fun a w vs538 hA hS hd => ?_, ?_⟩
      ·skip
       obtain ⟨e13, rs13, hy13, hp13⟩ := hd 13 (by decide)
       obtain ⟨hv13, hr13⟩ := hy13; subst hr13
       rw [hv13] at e13
       obtain ⟨e21, rs21, hy21, hp21⟩ := hd 21 (by decide)
       obtain ⟨hv21, hr21⟩ := hy21; subst hr21
       rw [hv21] at e21
       exact opG_yes rfl rfl (slot_ev e13 rfl) (vv (op_fieldS rfl fd_46_1 (tmp_ev (slot_ev e21 rfl)) (SlAt.of_row (hS.ok_row 3 rfl)) (by rw [((SlAt.of_row (hS.ok_row 3 rfl))).1]; omega)) (And.intro rfl rfl))
      refine ⟨fun a w vs538 hA hS hd => ?_, ?_⟩
      ·skip
       obtain ⟨e13, rs13, hy13, hp13⟩ := hd 13 (by decide)
       obtain ⟨hv13, hr13⟩ := hy13; subst hr13
       rw [hv13] at e13
       obtain ⟨e22, rs22, hy22, hp22⟩ := hd 22 (by decide)
       obtain ⟨hv22, hr22⟩ := hy22; subst hr22
       rw [hv22] at e22
       exact opG_yes rfl rfl (slot_ev e13 rfl) (vv (op_load1E rfl ty_3 (tmp_ev (slot_ev e22 rfl)) (SlAt.of_row (hS.ok_row 3 rfl)) (pairs_at1 (by omega))) (And.intro rfl rfl))
      refine ⟨fun a w vs538 hA hS hd => ?_, ?_⟩
      ·skip
       obtain ⟨e13, rs13, hy13, hp13⟩ := hd 13 (by decide)
       obtain ⟨hv13, hr13⟩ := hy13; subst hr13
       rw [hv13] at e13
       exact opG_yes rfl rfl (slot_ev e13 rfl) (vv (op_move rfl (hA.ev rfl)) (And.intro rfl rfl))
      refine ⟨fun a w vs538 hA hS hd => ?_, ?_⟩
      ·skip
       obtain ⟨e13, rs13, hy13, hp13⟩ := hd 13 (by decide)
       obtain ⟨hv13, hr13⟩ := hy13; subst hr13
       rw [hv13] at e13
       obtain ⟨e23, rs23, hy23, hp23⟩ := hd 23 (by decide)
       obtain ⟨hv23, hr23⟩ := hy23; subst hr23
       rw [hv23] at e23
       obtain ⟨e24, rs24, hy24, hp24⟩ := hd 24 (by decide)
       obtain ⟨hv24, hr24⟩ := hy24; subst hr24
       rw [hv24] at e24
       exact opG_yes rfl rfl (slot_ev e13 rfl) (vv (op_add rfl (tmp_ev (slot_ev e23 rfl)) (tmp_ev (slot_ev e24 rfl)) (by omega) (by omega)) (And.intro rfl rfl))
      trivial
     intro a539 w540 vs538 rsf544 hA541 hH543 hS542; clear hA537 hS527
     obtain ⟨hs_0, hy_0⟩ := hH543 0 (by decide)
     obtain ⟨hv_0, hr_0⟩ := hy_0
     obtain ⟨hs_1, hy_1⟩ := hH543 1 (by decide)
     obtain ⟨hv_1, hr_1⟩ := hy_1
     obtain ⟨hs_2, hy_2⟩ := hH543 2 (by decide)
     obtain ⟨hv_2, hr_2⟩ := hy_2
     obtain ⟨hs_3, hy_3⟩ := hH543 3 (by decide)
     obtain ⟨hv_3, hr_3⟩ := hy_3
     obtain ⟨hs_4, hy_4⟩ := hH543 4 (by decide)
     obtain ⟨hv_4, hr_4⟩ := hy_4
     obtain ⟨hs_5, hy_5⟩ := hH543 5 (by decide)
     obtain ⟨hv_5, hr_5⟩ := hy_5
     obtain ⟨hs_6, hy_6⟩ := hH543 6 (by decide)
     obtain ⟨hv_6, hr_6⟩ := hy_6
     obtain ⟨hs_7, hy_7⟩ := hH543 7 (by decide)
     obtain ⟨hv_7, hr_7⟩ := hy_7
     obtain ⟨hs_8, hy_8⟩ := hH543 8 (by decide)
     obtain ⟨hv_8, hr_8⟩ := hy_8
     obtain ⟨hs_9, hy_9⟩ := hH543 9 (by decide)
     obtain ⟨hv_9, hr_9⟩ := hy_9
     obtain ⟨hs_10, hy_10⟩ := hH543 10 (by decide)
     obtain ⟨hv_10, hr_10⟩ := hy_10
     obtain ⟨hs_11, hy_11⟩ := hH543 11 (by decide)
     obtain ⟨hv_11, hr_11⟩ := hy_11
     obtain ⟨hs_12, hy_12⟩ := hH543 12 (by decide)
     obtain ⟨hv_12, hr_12⟩ := hy_12
     obtain ⟨hs_13, hy_13⟩ := hH543 13 (by decide)
     obtain ⟨hv_13, hr_13⟩ := hy_13
     obtain ⟨hs_14, hy_14⟩ := hH543 14 (by decide)
     obtain ⟨hv_14, hr_14⟩ := hy_14
     obtain ⟨hs_15, hy_15⟩ := hH543 15 (by decide)
     obtain ⟨hv_15, hr_15⟩ := hy_15
     obtain ⟨hs_16, hy_16⟩ := hH543 16 (by decide)
     obtain ⟨hv_16, hr_16⟩ := hy_16
     obtain ⟨hs_17, hy_17⟩ := hH543 17 (by decide)
     obtain ⟨hv_17, hr_17⟩ := hy_17
     obtain ⟨hs_18, hy_18⟩ := hH543 18 (by decide)
     obtain ⟨hv_18, hr_18⟩ := hy_18
     obtain ⟨hs_19, hy_19⟩ := hH543 19 (by decide)
     obtain ⟨hv_19, hr_19⟩ := hy_19
     obtain ⟨hs_20, hy_20⟩ := hH543 20 (by decide)
     obtain ⟨hv_20, hr_20⟩ := hy_20
     obtain ⟨hs_21, hy_21⟩ := hH543 21 (by decide)
     obtain ⟨hv_21, hr_21⟩ := hy_21
     obtain ⟨hs_22, hy_22⟩ := hH543 22 (by decide)
     obtain ⟨hv_22, hr_22⟩ := hy_22
     obtain ⟨hs_23, hy_23⟩ := hH543 23 (by decide)
     obtain ⟨hv_23, hr_23⟩ := hy_23
     obtain ⟨hs_24, hy_24⟩ := hH543 24 (by decide)
     obtain ⟨hv_24, hr_24⟩ := hy_24
     obtain ⟨hs_25, hy_25⟩ := hH543 25 (by decide)
     obtain ⟨hv_25, hr_25⟩ := hy_25
     have hS545 : Sep NoB w w540 [(row u459 46 2 S2.length (pairs S2)), (row v452 3 1 ((chosenF d.tols.length x).length) (ints (chosenF d.tols.length x))), (rndR true vl438 vs439 vb440 lv441 (movedD d ((m).tmod 500))), (row u421 46 2 S1.length (pairs S1)), (row v414 3 1 ((chosenF d.tols.length x).length) (ints (chosenF d.tols.length x))), (rndR true vl400 vs401 vb402 lv403 d), (row v378 3 1 ((chosenF d.tols.length x).length) (ints (chosenF d.tols.length x))), (rndR true vl364 vs365 vb366 lv367 (movedD d ((m).tmod 500))), (row v342 3 1 ((chosenF d.tols.length x).length) (ints (chosenF d.tols.length x))), (rndR true vl328 vs329 vb330 lv331 d), (row v319 3 1 ((chosenF d.tols.length x).length) (ints (chosenF d.tols.length x))), (lstR lv_ (movedD d ((m).tmod 500)).rds), (row vb_ 62 2 d.tols.length (vpairs (d.tols.zip lv_))), (row vl_ 44 2 ((movedD d ((m).tmod 500)).lots.length) (pairs ((movedD d ((m).tmod 500)).lots))), (blk b39 26 [vl_, rs, (Value.int .i64 d.spread), vb_]), (blk b4 26 [rl, rs, (Value.int .i64 d.spread), rb]), (rndR false rl rs rb rlv d)] := by rw [show catR rsf544 0 26 = ([] : List Res) by (try simp only [catR, hr_0, hr_1, hr_2, hr_3, hr_4, hr_5, hr_6, hr_7, hr_8, hr_9, hr_10, hr_11, hr_12, hr_13, hr_14, hr_15, hr_16, hr_17, hr_18, hr_19, hr_20, hr_21, hr_22, hr_23, hr_24, hr_25]); (try rfl)] at hS542; exact hS542
     rw [hv_13] at hs_13
     have hA546 : Fr 258 [] [(203, (Value.bool (!true))), (25, (Value.int .i64 (k3 : Int))), (23, u459), (21, u421), (10, (bptr b39 0)), (9, (Value.int .i64 ((m).tmod 500))), (4, (bptr b4 0)), (2, (Value.int .u8 (y : Int)))] a539 := hA541.add (slot_ev hs_13 rfl); clear hA541
     rw [hv_18] at hs_18
     have hA547 : Fr 258 [] [(208, (Value.int .i64 ((S2.getD k3 (0, 0)).2))), (203, (Value.bool (!true))), (25, (Value.int .i64 (k3 : Int))), (23, u459), (21, u421), (10, (bptr b39 0)), (9, (Value.int .i64 ((m).tmod 500))), (4, (bptr b4 0)), (2, (Value.int .u8 (y : Int)))] a539 := hA546.add (slot_ev hs_18 rfl); clear hA546
     rw [hv_25] at hs_25
     have hA548 : Fr 258 [] [(215, (Value.int .i64 (((S1.getD k3 (0, 0)).2) + ((m).tmod 500)))), (208, (Value.int .i64 ((S2.getD k3 (0, 0)).2))), (203, (Value.bool (!true))), (25, (Value.int .i64 (k3 : Int))), (23, u459), (21, u421), (10, (bptr b39 0)), (9, (Value.int .i64 ((m).tmod 500))), (4, (bptr b4 0)), (2, (Value.int .u8 (y : Int)))] a539 := hA547.add (slot_ev hs_25 rfl); clear hA547
     clear hH543 hS542 hs_0 hs_1 hs_2 hs_3 hs_4 hs_5 hs_6 hs_7 hs_8 hs_9 hs_10 hs_11 hs_12 hs_13 hs_14 hs_15 hs_16 hs_17 hs_18 hs_19 hs_20 hs_21 hs_22 hs_23 hs_24 hs_25
     clear hr_0
     clear hv_0
     clear hr_1
     clear hv_1
     clear hr_2
     clear hv_2
     clear hr_3
     clear hv_3
     clear hr_4
     clear hv_4
     clear hr_5
     clear hv_5
     clear hr_6
     clear hv_6
     clear hr_7
     clear hv_7
     clear hr_8
     clear hv_8
     clear hr_9
     clear hv_9
     clear hr_10
     clear hv_10
     clear hr_11
     clear hv_11
     clear hr_12
     clear hv_12
     clear hr_13
     clear hv_13
     clear hr_14
     clear hv_14
     clear hr_15
     clear hv_15
     clear hr_16
     clear hv_16
     clear hr_17
     clear hv_17
     clear hr_18
     clear hv_18
     clear hr_19
     clear hv_19
     clear hr_20
     clear hv_20
     clear hr_21
     clear hv_21
     clear hr_22
     clear hv_22
     clear hr_23
     clear hv_23
     clear hr_24
     clear hv_24
     clear hr_25
     clear hv_25
     refine stg hA548 (op_neq rfl (hA548.ev rfl) (hA548.ev rfl)) rfl rfl rfl rfl (by decide) fun a549 hA550 => ?_; clear hA548 a539
     have hd551 : ((S2.getD k3 (0, 0)).2) = (((S1.getD k3 (0, 0)).2) + ((m).tmod 500)) := (hb k3 (by omega)).2.2
     rw [decide_eq_true hd551] at hA550
     refine st hA550 (op_pick_f rfl (hA550.ev rfl) (hA550.ev rfl)) rfl rfl (by decide) fun a552 hA553 => ?_; clear hA550 a549
     refine wl_nil ?_
     refine then_n ?_
     refine c_false hA553 rfl ?_
     refine c_skip ?_
     refine blk_n ?_
     refine then_n ?_
     refine c_region ?_
     refine st hA553 (op_move rfl (hA553.ev rfl)) rfl rfl (by decide) fun a554 hA555 => ?_; clear hA553 a552
     refine st hA555 (op_add rfl (hA555.ev rfl) (evc _ _) (by omega) (by omega)) rfl rfl (by decide) fun a556 hA557 => ?_; clear hA555 a554
     refine st hA557 (op_assign rfl (hA557.ev rfl)) rfl rfl (by decide) fun a558 hA559 => ?_; clear hA557 a556
     refine wl_nil ?_
     exact then_n ⟨k3 + 1, ⟨hA559.as _ rfl, hS545, by omega⟩, by omega⟩
    ·skip
     rw [decide_eq_false hb536] at hA535
     refine c_false hA535 rfl ?_
     refine c_exit ?_
     refine then_exit ?_
     refine then_exit ?_
     refine blk_hit ?_
     refine then_n ?_
     refine c_seq ?_
     refine c_seq ?_
     have hA560 := hA535.as [(10, (bptr b39 0)), (4, (bptr b4 0)), (2, (Value.int .u8 (y : Int)))] rfl; clear hA535
     refine c_region ?_
     refine st hA560 (op_field rfl fd_26_3 (hA560.ev rfl)) rfl rfl (by decide) fun a561 hA562 => ?_; clear hA560 a534
     refine st hA562 (op_load1 rfl ty_24 (hA562.ev rfl) (hS527.bk 15 rfl) rfl) rfl rfl (by decide) fun a563 hA564 => ?_; clear hA562 a561
     refine st hA564 (op_lenS rfl un_24 (hA564.ev rfl) (rnd_at (hS527.ok 16 _ rfl)).labs) rfl rfl (by decide) fun a565 hA566 => ?_; clear hA564 a563
     refine st hA566 (op_eql rfl (hA566.ev rfl) (evc _ _)) rfl rfl (by decide) fun a567 hA568 => ?_; clear hA566 a565
     refine wl_nil ?_
     refine then_n ?_
     by_cases hb569 : (d.tols.length : Int) = 0
     ·skip
      rw [decide_eq_true hb569] at hA568
      refine c_true hA568 rfl ?_
      refine c_seq ?_
      have hA570 := hA568.as [] rfl; clear hA568
      refine c_region ?_
      refine stw hA570 (op_call rfl en_18 ev0 (wakes_ok _)) rfl rfl (by decide) ?_
      rintro a571 _ w573 ⟨rfl, hE574⟩ hA572; have hS575 := hS527.step hE574; clear hE574 hA570 hS527 a567
      refine st hA572 (op_assign rfl (hA572.ev rfl)) rfl rfl (by decide) fun a576 hA577 => ?_; clear hA572 a571
      refine wl_nil ?_
      refine then_n ?_
      refine c_ret ?_
      refine then_ret ?_
      refine fin_run hA577 (.inl rfl) (run_results1 hA577 rfl (.tmp rfl)) ?_
      exact ⟨rfl, hS575.ext⟩
     ·skip
      rw [decide_eq_false hb569] at hA568
      refine c_false hA568 rfl ?_
      refine c_skip ?_
      refine then_n ?_
      refine c_seq ?_
      have hA578 := hA568.as [(10, (bptr b39 0)), (4, (bptr b4 0)), (2, (Value.int .u8 (y : Int)))] rfl; clear hA568
      refine c_drawF mixed hA578 hS527 13 11 rfl rfl [[], [0], [], [2], [], [4], [5], [3, 6], [1, 7], [8], [9], [9], []] [(fun (vs579 : Nat → Value) (v_ : Value) (rs_ : List Res) => v_ = (Value.agg #[rl, rs, (Value.int .i64 d.spread), rb]) ∧ rs_ = []), (fun (vs579 : Nat → Value) (v_ : Value) (rs_ : List Res) => ∃ (lv1_ : List Value), v_ = (Value.agg #[(comp v_ 0), (comp v_ 1), (Value.int .i64 d.spread), (comp v_ 3)]) ∧ rs_ = [(rndR true (comp v_ 0) (comp v_ 1) (comp v_ 3) lv1_ d)]), (fun (vs579 : Nat → Value) (v_ : Value) (rs_ : List Res) => v_ = (Value.int .u8 (y : Int)) ∧ rs_ = []), (fun (vs579 : Nat → Value) (v_ : Value) (rs_ : List Res) => v_ = (Value.int .i64 (y : Int)) ∧ rs_ = []), (fun (vs579 : Nat → Value) (v_ : Value) (rs_ : List Res) => v_ = (bptr b4 3) ∧ rs_ = []), (fun (vs579 : Nat → Value) (v_ : Value) (rs_ : List Res) => v_ = rb ∧ rs_ = []), (fun (vs579 : Nat → Value) (v_ : Value) (rs_ : List Res) => v_ = (Value.int .i64 (d.tols.length : Int)) ∧ rs_ = []), (fun (vs579 : Nat → Value) (v_ : Value) (rs_ : List Res) => v_ = (Value.int .i64 (((y : Int)).tmod (d.tols.length : Int))) ∧ rs_ = []), (fun (vs579 : Nat → Value) (v_ : Value) (rs_ : List Res) => v_ = (Value.tuple #[(Value.agg #[(Value.int .i64 a), (Value.int .i64 b)]), (Value.int .i64 c2)]) ∧ rs_ = []), (fun (vs579 : Nat → Value) (v_ : Value) (rs_ : List Res) => v_ = (Value.tuple #[(Value.agg #[(Value.int .i64 a), (Value.int .i64 b)]), (Value.int .i64 c2)]) ∧ rs_ = []), (fun (vs579 : Nat → Value) (v_ : Value) (rs_ : List Res) => v_ = (Value.agg #[(Value.int .i64 a), (Value.int .i64 b)]) ∧ rs_ = []), (fun (vs579 : Nat → Value) (v_ : Value) (rs_ : List Res) => v_ = (Value.int .i64 c2) ∧ rs_ = []), (fun (vs579 : Nat → Value) (v_ : Value) (rs_ : List Res) => ∃ (b12_ : Nat), v_ = (bptr b12_ 0) ∧ rs_ = [(blk b12_ 46 [(Value.int .i64 0), (Value.int .i64 0)])])] (by decide +kernel) (by decide +kernel) (by decide +kernel) rfl rfl ⟨(fun _ _ _ _ _ h_ => h_), (fun _ _ _ _ _ h_ => h_), (fun _ _ _ _ _ h_ => h_), (fun _ _ _ _ _ h_ => h_), (fun _ _ _ _ _ h_ => h_), (fun _ _ _ _ _ h_ => h_), (fun _ _ _ _ _ h_ => h_), (fun _ _ _ _ _ h_ => h_), (fun _ _ _ _ _ h_ => h_), (fun _ _ _ _ _ h_ => h_), (fun _ _ _ _ _ h_ => h_), (fun _ _ _ _ _ h_ => h_), (fun _ _ _ _ _ h_ => h_), trivial⟩ ?_ ?_ ?_
      ·skip
       refine ⟨fun a w vs579 hA hS hd => ?_, ?_⟩
       ·skip
        exact opG_of rfl (vv (op_loadA rfl ty_26 (hA.ev rfl) (hS.bk 15 rfl) (l := [rl, rs, (Value.int .i64 d.spread), rb]) rfl rfl) (And.intro rfl rfl))
       refine ⟨fun a w vs579 hA hS hd => ?_, ?_⟩
       ·skip
        obtain ⟨e0, rs0, hy0, hp0⟩ := hd 0 (by decide)
        obtain ⟨hv0, hr0⟩ := hy0; subst hr0
        rw [hv0] at e0
        exact opG_of rfl (vn (op_call rfl en_20 (ev1 (tmp_ev (slot_ev e0 rfl))) (Round_ok rl rs rb rlv d _ (rnd_at (hS.ok 16 _ rfl)) hth)) (fun v w' h => by obtain ⟨vl, vs, vb, lv, rfl, hT⟩ := h; exact ⟨_, ⟨lv, rfl, rfl⟩, hT, rfl⟩))
       refine ⟨fun a w vs579 hA hS hd => ?_, ?_⟩
       ·skip
        exact opG_of rfl (vv (op_move rfl (hA.ev rfl)) (And.intro rfl rfl))
       refine ⟨fun a w vs579 hA hS hd => ?_, ?_⟩
       ·skip
        obtain ⟨e2, rs2, hy2, hp2⟩ := hd 2 (by decide)
        obtain ⟨hv2, hr2⟩ := hy2; subst hr2
        rw [hv2] at e2
        exact opG_of rfl (vv (op_conv un_5 un_3 rfl (tmp_ev (slot_ev e2 rfl)) (v := (y : Int)) (wrap_i64 (by omega) (by omega))) (And.intro rfl rfl))
       refine ⟨fun a w vs579 hA hS hd => ?_, ?_⟩
       ·skip
        exact opG_of rfl (vv (op_field rfl fd_26_3 (hA.ev rfl)) (And.intro rfl rfl))
       refine ⟨fun a w vs579 hA hS hd => ?_, ?_⟩
       ·skip
        obtain ⟨e4, rs4, hy4, hp4⟩ := hd 4 (by decide)
        obtain ⟨hv4, hr4⟩ := hy4; subst hr4
        rw [hv4] at e4
        exact opG_of rfl (vv (op_load1 rfl ty_24 (tmp_ev (slot_ev e4 rfl)) (hS.bk 15 rfl) rfl) (And.intro rfl rfl))
       refine ⟨fun a w vs579 hA hS hd => ?_, ?_⟩
       ·skip
        obtain ⟨e5, rs5, hy5, hp5⟩ := hd 5 (by decide)
        obtain ⟨hv5, hr5⟩ := hy5; subst hr5
        rw [hv5] at e5
        exact opG_of rfl (vv (op_lenS rfl un_24 (tmp_ev (slot_ev e5 rfl)) (rnd_at (hS.ok 16 _ rfl)).labs) (And.intro rfl rfl))
       refine ⟨fun a w vs579 hA hS hd => ?_, ?_⟩
       ·skip
        obtain ⟨e3, rs3, hy3, hp3⟩ := hd 3 (by decide)
        obtain ⟨hv3, hr3⟩ := hy3; subst hr3
        rw [hv3] at e3
        obtain ⟨e6, rs6, hy6, hp6⟩ := hd 6 (by decide)
        obtain ⟨hv6, hr6⟩ := hy6; subst hr6
        rw [hv6] at e6
        exact opG_of rfl (vv (op_rem rfl (tmp_ev (slot_ev e3 rfl)) (tmp_ev (slot_ev e6 rfl)) (by omega)) (And.intro rfl rfl))
       refine ⟨fun a w vs579 hA hS hd => ?_, ?_⟩
       ·skip
        obtain ⟨e1, rs1, hy1, hp1⟩ := hd 1 (by decide)
        obtain ⟨lv1_, hv1, hr1⟩ := hy1; subst hr1
        rw [hv1] at e1
        have hp1_0 := hp1 _ (List.mem_of_getElem? (i := 0) rfl)
        obtain ⟨e7, rs7, hy7, hp7⟩ := hd 7 (by decide)
        obtain ⟨hv7, hr7⟩ := hy7; subst hr7
        rw [hv7] at e7
        exact opG_of rfl (vx (op_call rfl en_32 (ev2 (tmp_ev (slot_ev e1 rfl)) (tmp_ev (slot_ev e7 rfl))) (by have h := (shifts_fn (comp (vs579 1) 0) (comp (vs579 1) 1) (comp (vs579 1) 3) lv1_ d _ (rnd_at hp1_0) (((y : Int)).tmod (d.tols.length : Int))); rw [hz] at h; exact h)) (And.intro rfl rfl))
       refine ⟨fun a w vs579 hA hS hd => ?_, ?_⟩
       ·skip
        obtain ⟨e8, rs8, hy8, hp8⟩ := hd 8 (by decide)
        obtain ⟨hv8, hr8⟩ := hy8; subst hr8
        rw [hv8] at e8
        exact opG_of rfl (vv (op_move rfl (tmp_ev (slot_ev e8 rfl))) (And.intro rfl rfl))
       refine ⟨fun a w vs579 hA hS hd => ?_, ?_⟩
       ·skip
        obtain ⟨e9, rs9, hy9, hp9⟩ := hd 9 (by decide)
        obtain ⟨hv9, hr9⟩ := hy9; subst hr9
        rw [hv9] at e9
        exact opG_of rfl (vv (op_extract rfl (tmp_ev (slot_ev e9 rfl)) rfl) (And.intro rfl rfl))
       refine ⟨fun a w vs579 hA hS hd => ?_, ?_⟩
       ·skip
        obtain ⟨e9, rs9, hy9, hp9⟩ := hd 9 (by decide)
        obtain ⟨hv9, hr9⟩ := hy9; subst hr9
        rw [hv9] at e9
        exact opG_of rfl (vv (op_extract rfl (tmp_ev (slot_ev e9 rfl)) rfl) (And.intro rfl rfl))
       refine ⟨fun a w vs579 hA hS hd => ?_, ?_⟩
       ·skip
        exact opG_of rfl (valloc rfl ze_46 (cs := [(Value.int .i64 0), (Value.int .i64 0)]) rfl (fun b_ => ⟨b_, rfl, rfl⟩))
       trivial
      ·skip
       intro a580 w581 vs579 rsf585 hA582 hH584 hS583; clear hA578 hS527
       obtain ⟨hs_0, hy_0⟩ := hH584 0 (by decide)
       obtain ⟨hv_0, hr_0⟩ := hy_0
       obtain ⟨hs_1, hy_1⟩ := hH584 1 (by decide)
       obtain ⟨lv1_, hv_1, hr_1⟩ := hy_1
       obtain ⟨hs_2, hy_2⟩ := hH584 2 (by decide)
       obtain ⟨hv_2, hr_2⟩ := hy_2
       obtain ⟨hs_3, hy_3⟩ := hH584 3 (by decide)
       obtain ⟨hv_3, hr_3⟩ := hy_3
       obtain ⟨hs_4, hy_4⟩ := hH584 4 (by decide)
       obtain ⟨hv_4, hr_4⟩ := hy_4
       obtain ⟨hs_5, hy_5⟩ := hH584 5 (by decide)
       obtain ⟨hv_5, hr_5⟩ := hy_5
       obtain ⟨hs_6, hy_6⟩ := hH584 6 (by decide)
       obtain ⟨hv_6, hr_6⟩ := hy_6
       obtain ⟨hs_7, hy_7⟩ := hH584 7 (by decide)
       obtain ⟨hv_7, hr_7⟩ := hy_7
       obtain ⟨hs_8, hy_8⟩ := hH584 8 (by decide)
       obtain ⟨hv_8, hr_8⟩ := hy_8
       obtain ⟨hs_9, hy_9⟩ := hH584 9 (by decide)
       obtain ⟨hv_9, hr_9⟩ := hy_9
       obtain ⟨hs_10, hy_10⟩ := hH584 10 (by decide)
       obtain ⟨hv_10, hr_10⟩ := hy_10
       obtain ⟨hs_11, hy_11⟩ := hH584 11 (by decide)
       obtain ⟨hv_11, hr_11⟩ := hy_11
       obtain ⟨hs_12, hy_12⟩ := hH584 12 (by decide)
       obtain ⟨b12_, hv_12, hr_12⟩ := hy_12
       have hS586 : Sep NoB w w581 [(rndR true (comp (vs579 1) 0) (comp (vs579 1) 1) (comp (vs579 1) 3) lv1_ d), (blk b12_ 46 [(Value.int .i64 0), (Value.int .i64 0)]), (row u459 46 2 S2.length (pairs S2)), (row v452 3 1 ((chosenF d.tols.length x).length) (ints (chosenF d.tols.length x))), (rndR true vl438 vs439 vb440 lv441 (movedD d ((m).tmod 500))), (row u421 46 2 S1.length (pairs S1)), (row v414 3 1 ((chosenF d.tols.length x).length) (ints (chosenF d.tols.length x))), (rndR true vl400 vs401 vb402 lv403 d), (row v378 3 1 ((chosenF d.tols.length x).length) (ints (chosenF d.tols.length x))), (rndR true vl364 vs365 vb366 lv367 (movedD d ((m).tmod 500))), (row v342 3 1 ((chosenF d.tols.length x).length) (ints (chosenF d.tols.length x))), (rndR true vl328 vs329 vb330 lv331 d), (row v319 3 1 ((chosenF d.tols.length x).length) (ints (chosenF d.tols.length x))), (lstR lv_ (movedD d ((m).tmod 500)).rds), (row vb_ 62 2 d.tols.length (vpairs (d.tols.zip lv_))), (row vl_ 44 2 ((movedD d ((m).tmod 500)).lots.length) (pairs ((movedD d ((m).tmod 500)).lots))), (blk b39 26 [vl_, rs, (Value.int .i64 d.spread), vb_]), (blk b4 26 [rl, rs, (Value.int .i64 d.spread), rb]), (rndR false rl rs rb rlv d)] := by rw [show catR rsf585 0 13 = ([(rndR true (comp (vs579 1) 0) (comp (vs579 1) 1) (comp (vs579 1) 3) lv1_ d), (blk b12_ 46 [(Value.int .i64 0), (Value.int .i64 0)])] : List Res) by (try simp only [catR, hr_0, hr_1, hr_2, hr_3, hr_4, hr_5, hr_6, hr_7, hr_8, hr_9, hr_10, hr_11, hr_12]); (try rfl)] at hS583; exact hS583
       rw [hv_10] at hs_10
       have hA587 : Fr 258 [] [(233, (Value.agg #[(Value.int .i64 a), (Value.int .i64 b)])), (10, (bptr b39 0)), (4, (bptr b4 0)), (2, (Value.int .u8 (y : Int)))] a580 := hA582.add (slot_ev hs_10 rfl); clear hA582
       rw [hv_11] at hs_11
       have hA588 : Fr 258 [] [(234, (Value.int .i64 c2)), (233, (Value.agg #[(Value.int .i64 a), (Value.int .i64 b)])), (10, (bptr b39 0)), (4, (bptr b4 0)), (2, (Value.int .u8 (y : Int)))] a580 := hA587.add (slot_ev hs_11 rfl); clear hA587
       rw [hv_12] at hs_12
       have hA589 : Fr 258 [] [(26, (bptr b12_ 0)), (234, (Value.int .i64 c2)), (233, (Value.agg #[(Value.int .i64 a), (Value.int .i64 b)])), (10, (bptr b39 0)), (4, (bptr b4 0)), (2, (Value.int .u8 (y : Int)))] a580 := hA588.add (slot_ev hs_12 rfl); clear hA588
       clear hH584 hS583 hs_0 hs_1 hs_2 hs_3 hs_4 hs_5 hs_6 hs_7 hs_8 hs_9 hs_10 hs_11 hs_12
       clear hr_0
       clear hv_0
       clear hr_1
       clear hv_1
       clear hr_2
       clear hv_2
       clear hr_3
       clear hv_3
       clear hr_4
       clear hv_4
       clear hr_5
       clear hv_5
       clear hr_6
       clear hv_6
       clear hr_7
       clear hv_7
       clear hr_8
       clear hv_8
       clear hr_9
       clear hv_9
       clear hr_10
       clear hv_10
       clear hr_11
       clear hv_11
       clear hr_12
       clear hv_12
       refine sts hA589 (op_store hS586 rfl ty_46 (hA589.ev rfl) (hA589.ev rfl) (i := 1) rfl (vs := [(Value.int .i64 a), (Value.int .i64 b)]) rfl rfl rfl (Nat.le_of_ble_eq_true rfl)) rfl rfl ?_
       intro _ w590 hS591 hA592; clear hA589
       have hS593 : Sep NoB w w590 [(rndR true (comp (vs579 1) 0) (comp (vs579 1) 1) (comp (vs579 1) 3) lv1_ d), (blk b12_ 46 [(Value.int .i64 a), (Value.int .i64 b)]), (row u459 46 2 S2.length (pairs S2)), (row v452 3 1 ((chosenF d.tols.length x).length) (ints (chosenF d.tols.length x))), (rndR true vl438 vs439 vb440 lv441 (movedD d ((m).tmod 500))), (row u421 46 2 S1.length (pairs S1)), (row v414 3 1 ((chosenF d.tols.length x).length) (ints (chosenF d.tols.length x))), (rndR true vl400 vs401 vb402 lv403 d), (row v378 3 1 ((chosenF d.tols.length x).length) (ints (chosenF d.tols.length x))), (rndR true vl364 vs365 vb366 lv367 (movedD d ((m).tmod 500))), (row v342 3 1 ((chosenF d.tols.length x).length) (ints (chosenF d.tols.length x))), (rndR true vl328 vs329 vb330 lv331 d), (row v319 3 1 ((chosenF d.tols.length x).length) (ints (chosenF d.tols.length x))), (lstR lv_ (movedD d ((m).tmod 500)).rds), (row vb_ 62 2 d.tols.length (vpairs (d.tols.zip lv_))), (row vl_ 44 2 ((movedD d ((m).tmod 500)).lots.length) (pairs ((movedD d ((m).tmod 500)).lots))), (blk b39 26 [vl_, rs, (Value.int .i64 d.spread), vb_]), (blk b4 26 [rl, rs, (Value.int .i64 d.spread), rb]), (rndR false rl rs rb rlv d)] := hS591; clear hS591 hS586
       refine st hA592 (op_assign rfl (hA592.ev rfl)) rfl rfl (by decide) fun a594 hA595 => ?_; clear hA592 a580
       refine wl_nil ?_
       refine then_n ?_
       refine c_seq ?_
       have hA596 := hA595.as [(27, (Value.int .i64 c2)), (26, (bptr b12_ 0)), (10, (bptr b39 0)), (4, (bptr b4 0)), (2, (Value.int .u8 (y : Int)))] rfl; clear hA595
       refine c_drawF mixed hA596 hS593 13 11 rfl rfl [[], [0], [], [2], [], [4], [5], [3, 6], [1, 7], [8], [9], [9], []] [(fun (vs597 : Nat → Value) (v_ : Value) (rs_ : List Res) => v_ = (Value.agg #[vl_, rs, (Value.int .i64 d.spread), vb_]) ∧ rs_ = []), (fun (vs597 : Nat → Value) (v_ : Value) (rs_ : List Res) => ∃ (lv1_vs597 : List Value), v_ = (Value.agg #[(comp v_ 0), (comp v_ 1), (Value.int .i64 ((movedD d ((m).tmod 500)).spread)), (comp v_ 3)]) ∧ rs_ = [(rndR true (comp v_ 0) (comp v_ 1) (comp v_ 3) lv1_vs597 (movedD d ((m).tmod 500)))]), (fun (vs597 : Nat → Value) (v_ : Value) (rs_ : List Res) => v_ = (Value.int .u8 (y : Int)) ∧ rs_ = []), (fun (vs597 : Nat → Value) (v_ : Value) (rs_ : List Res) => v_ = (Value.int .i64 (y : Int)) ∧ rs_ = []), (fun (vs597 : Nat → Value) (v_ : Value) (rs_ : List Res) => v_ = (bptr b4 3) ∧ rs_ = []), (fun (vs597 : Nat → Value) (v_ : Value) (rs_ : List Res) => v_ = rb ∧ rs_ = []), (fun (vs597 : Nat → Value) (v_ : Value) (rs_ : List Res) => v_ = (Value.int .i64 (d.tols.length : Int)) ∧ rs_ = []), (fun (vs597 : Nat → Value) (v_ : Value) (rs_ : List Res) => v_ = (Value.int .i64 (((y : Int)).tmod (d.tols.length : Int))) ∧ rs_ = []), (fun (vs597 : Nat → Value) (v_ : Value) (rs_ : List Res) => v_ = (Value.tuple #[(Value.agg #[(Value.int .i64 a), (Value.int .i64 b)]), (Value.int .i64 c2)]) ∧ rs_ = []), (fun (vs597 : Nat → Value) (v_ : Value) (rs_ : List Res) => v_ = (Value.tuple #[(Value.agg #[(Value.int .i64 a), (Value.int .i64 b)]), (Value.int .i64 c2)]) ∧ rs_ = []), (fun (vs597 : Nat → Value) (v_ : Value) (rs_ : List Res) => v_ = (Value.agg #[(Value.int .i64 a), (Value.int .i64 b)]) ∧ rs_ = []), (fun (vs597 : Nat → Value) (v_ : Value) (rs_ : List Res) => v_ = (Value.int .i64 c2) ∧ rs_ = []), (fun (vs597 : Nat → Value) (v_ : Value) (rs_ : List Res) => ∃ (b12_vs597 : Nat), v_ = (bptr b12_vs597 0) ∧ rs_ = [(blk b12_vs597 46 [(Value.int .i64 0), (Value.int .i64 0)])])] (by decide +kernel) (by decide +kernel) (by decide +kernel) rfl rfl ⟨(fun _ _ _ _ _ h_ => h_), (fun _ _ _ _ _ h_ => h_), (fun _ _ _ _ _ h_ => h_), (fun _ _ _ _ _ h_ => h_), (fun _ _ _ _ _ h_ => h_), (fun _ _ _ _ _ h_ => h_), (fun _ _ _ _ _ h_ => h_), (fun _ _ _ _ _ h_ => h_), (fun _ _ _ _ _ h_ => h_), (fun _ _ _ _ _ h_ => h_), (fun _ _ _ _ _ h_ => h_), (fun _ _ _ _ _ h_ => h_), (fun _ _ _ _ _ h_ => h_), trivial⟩ ?_ ?_ ?_
       ·skip
        refine ⟨fun a w vs597 hA hS hd => ?_, ?_⟩
        ·skip
         exact opG_of rfl (vv (op_loadA rfl ty_26 (hA.ev rfl) (hS.bk 16 rfl) (l := [vl_, rs, (Value.int .i64 d.spread), vb_]) rfl rfl) (And.intro rfl rfl))
        refine ⟨fun a w vs597 hA hS hd => ?_, ?_⟩
        ·skip
         obtain ⟨e0, rs0, hy0, hp0⟩ := hd 0 (by decide)
         obtain ⟨hv0, hr0⟩ := hy0; subst hr0
         rw [hv0] at e0
         exact opG_of rfl (vn (op_call rfl en_20 (ev1 (tmp_ev (slot_ev e0 rfl))) (Round_ok vl_ rs vb_ lv_ (movedD d ((m).tmod 500)) _ (show RoundAt _ vl_ rs vb_ lv_ (movedD d ((m).tmod 500)) from ⟨SlAt.of_row (hS.ok_row 15 rfl), (rnd_at (hS.ok 18 _ rfl)).samples, SlAt.of_row (hS.ok_row 14 rfl), (hS.lst_at 13 rfl).2, hll.trans hrl9, hrl9⟩) (moved_thin hV))) (fun v w' h => by obtain ⟨vl, vs, vb, lv, rfl, hT⟩ := h; exact ⟨_, ⟨lv, rfl, rfl⟩, hT, rfl⟩))
        refine ⟨fun a w vs597 hA hS hd => ?_, ?_⟩
        ·skip
         exact opG_of rfl (vv (op_move rfl (hA.ev rfl)) (And.intro rfl rfl))
        refine ⟨fun a w vs597 hA hS hd => ?_, ?_⟩
        ·skip
         obtain ⟨e2, rs2, hy2, hp2⟩ := hd 2 (by decide)
         obtain ⟨hv2, hr2⟩ := hy2; subst hr2
         rw [hv2] at e2
         exact opG_of rfl (vv (op_conv un_5 un_3 rfl (tmp_ev (slot_ev e2 rfl)) (v := (y : Int)) (wrap_i64 (by omega) (by omega))) (And.intro rfl rfl))
        refine ⟨fun a w vs597 hA hS hd => ?_, ?_⟩
        ·skip
         exact opG_of rfl (vv (op_field rfl fd_26_3 (hA.ev rfl)) (And.intro rfl rfl))
        refine ⟨fun a w vs597 hA hS hd => ?_, ?_⟩
        ·skip
         obtain ⟨e4, rs4, hy4, hp4⟩ := hd 4 (by decide)
         obtain ⟨hv4, hr4⟩ := hy4; subst hr4
         rw [hv4] at e4
         exact opG_of rfl (vv (op_load1 rfl ty_24 (tmp_ev (slot_ev e4 rfl)) (hS.bk 17 rfl) rfl) (And.intro rfl rfl))
        refine ⟨fun a w vs597 hA hS hd => ?_, ?_⟩
        ·skip
         obtain ⟨e5, rs5, hy5, hp5⟩ := hd 5 (by decide)
         obtain ⟨hv5, hr5⟩ := hy5; subst hr5
         rw [hv5] at e5
         exact opG_of rfl (vv (op_lenS rfl un_24 (tmp_ev (slot_ev e5 rfl)) (rnd_at (hS.ok 18 _ rfl)).labs) (And.intro rfl rfl))
        refine ⟨fun a w vs597 hA hS hd => ?_, ?_⟩
        ·skip
         obtain ⟨e3, rs3, hy3, hp3⟩ := hd 3 (by decide)
         obtain ⟨hv3, hr3⟩ := hy3; subst hr3
         rw [hv3] at e3
         obtain ⟨e6, rs6, hy6, hp6⟩ := hd 6 (by decide)
         obtain ⟨hv6, hr6⟩ := hy6; subst hr6
         rw [hv6] at e6
         exact opG_of rfl (vv (op_rem rfl (tmp_ev (slot_ev e3 rfl)) (tmp_ev (slot_ev e6 rfl)) (by omega)) (And.intro rfl rfl))
        refine ⟨fun a w vs597 hA hS hd => ?_, ?_⟩
        ·skip
         obtain ⟨e1, rs1, hy1, hp1⟩ := hd 1 (by decide)
         obtain ⟨lv1_vs597, hv1, hr1⟩ := hy1; subst hr1
         rw [hv1] at e1
         have hp1_0 := hp1 _ (List.mem_of_getElem? (i := 0) rfl)
         obtain ⟨e7, rs7, hy7, hp7⟩ := hd 7 (by decide)
         obtain ⟨hv7, hr7⟩ := hy7; subst hr7
         rw [hv7] at e7
         exact opG_of rfl (vx (op_call rfl en_32 (ev2 (tmp_ev (slot_ev e1 rfl)) (tmp_ev (slot_ev e7 rfl))) (by have h := (shifts_fn (comp (vs597 1) 0) (comp (vs597 1) 1) (comp (vs597 1) 3) lv1_vs597 (movedD d ((m).tmod 500)) _ (rnd_at hp1_0) (((y : Int)).tmod (d.tols.length : Int))); rw [hzM] at h; exact h)) (And.intro rfl rfl))
        refine ⟨fun a w vs597 hA hS hd => ?_, ?_⟩
        ·skip
         obtain ⟨e8, rs8, hy8, hp8⟩ := hd 8 (by decide)
         obtain ⟨hv8, hr8⟩ := hy8; subst hr8
         rw [hv8] at e8
         exact opG_of rfl (vv (op_move rfl (tmp_ev (slot_ev e8 rfl))) (And.intro rfl rfl))
        refine ⟨fun a w vs597 hA hS hd => ?_, ?_⟩
        ·skip
         obtain ⟨e9, rs9, hy9, hp9⟩ := hd 9 (by decide)
         obtain ⟨hv9, hr9⟩ := hy9; subst hr9
         rw [hv9] at e9
         exact opG_of rfl (vv (op_extract rfl (tmp_ev (slot_ev e9 rfl)) rfl) (And.intro rfl rfl))
        refine ⟨fun a w vs597 hA hS hd => ?_, ?_⟩
        ·skip
         obtain ⟨e9, rs9, hy9, hp9⟩ := hd 9 (by decide)
         obtain ⟨hv9, hr9⟩ := hy9; subst hr9
         rw [hv9] at e9
         exact opG_of rfl (vv (op_extract rfl (tmp_ev (slot_ev e9 rfl)) rfl) (And.intro rfl rfl))
        refine ⟨fun a w vs597 hA hS hd => ?_, ?_⟩
        ·skip
         exact opG_of rfl (valloc rfl ze_46 (cs := [(Value.int .i64 0), (Value.int .i64 0)]) rfl (fun b_ => ⟨b_, rfl, rfl⟩))
        trivial
       ·skip
        intro a598 w599 vs597 rsf603 hA600 hH602 hS601; clear hA596 hS593
        obtain ⟨hs_0, hy_0⟩ := hH602 0 (by decide)
        obtain ⟨hv_0, hr_0⟩ := hy_0
        obtain ⟨hs_1, hy_1⟩ := hH602 1 (by decide)
        obtain ⟨lv1_vs597, hv_1, hr_1⟩ := hy_1
        obtain ⟨hs_2, hy_2⟩ := hH602 2 (by decide)
        obtain ⟨hv_2, hr_2⟩ := hy_2
        obtain ⟨hs_3, hy_3⟩ := hH602 3 (by decide)
        obtain ⟨hv_3, hr_3⟩ := hy_3
        obtain ⟨hs_4, hy_4⟩ := hH602 4 (by decide)
        obtain ⟨hv_4, hr_4⟩ := hy_4
        obtain ⟨hs_5, hy_5⟩ := hH602 5 (by decide)
        obtain ⟨hv_5, hr_5⟩ := hy_5
        obtain ⟨hs_6, hy_6⟩ := hH602 6 (by decide)
        obtain ⟨hv_6, hr_6⟩ := hy_6
        obtain ⟨hs_7, hy_7⟩ := hH602 7 (by decide)
        obtain ⟨hv_7, hr_7⟩ := hy_7
        obtain ⟨hs_8, hy_8⟩ := hH602 8 (by decide)
        obtain ⟨hv_8, hr_8⟩ := hy_8
        obtain ⟨hs_9, hy_9⟩ := hH602 9 (by decide)
        obtain ⟨hv_9, hr_9⟩ := hy_9
        obtain ⟨hs_10, hy_10⟩ := hH602 10 (by decide)
        obtain ⟨hv_10, hr_10⟩ := hy_10
        obtain ⟨hs_11, hy_11⟩ := hH602 11 (by decide)
        obtain ⟨hv_11, hr_11⟩ := hy_11
        obtain ⟨hs_12, hy_12⟩ := hH602 12 (by decide)
        obtain ⟨b12_vs597, hv_12, hr_12⟩ := hy_12
        have hS604 : Sep NoB w w599 [(rndR true (comp (vs597 1) 0) (comp (vs597 1) 1) (comp (vs597 1) 3) lv1_vs597 (movedD d ((m).tmod 500))), (blk b12_vs597 46 [(Value.int .i64 0), (Value.int .i64 0)]), (rndR true (comp (vs579 1) 0) (comp (vs579 1) 1) (comp (vs579 1) 3) lv1_ d), (blk b12_ 46 [(Value.int .i64 a), (Value.int .i64 b)]), (row u459 46 2 S2.length (pairs S2)), (row v452 3 1 ((chosenF d.tols.length x).length) (ints (chosenF d.tols.length x))), (rndR true vl438 vs439 vb440 lv441 (movedD d ((m).tmod 500))), (row u421 46 2 S1.length (pairs S1)), (row v414 3 1 ((chosenF d.tols.length x).length) (ints (chosenF d.tols.length x))), (rndR true vl400 vs401 vb402 lv403 d), (row v378 3 1 ((chosenF d.tols.length x).length) (ints (chosenF d.tols.length x))), (rndR true vl364 vs365 vb366 lv367 (movedD d ((m).tmod 500))), (row v342 3 1 ((chosenF d.tols.length x).length) (ints (chosenF d.tols.length x))), (rndR true vl328 vs329 vb330 lv331 d), (row v319 3 1 ((chosenF d.tols.length x).length) (ints (chosenF d.tols.length x))), (lstR lv_ (movedD d ((m).tmod 500)).rds), (row vb_ 62 2 d.tols.length (vpairs (d.tols.zip lv_))), (row vl_ 44 2 ((movedD d ((m).tmod 500)).lots.length) (pairs ((movedD d ((m).tmod 500)).lots))), (blk b39 26 [vl_, rs, (Value.int .i64 d.spread), vb_]), (blk b4 26 [rl, rs, (Value.int .i64 d.spread), rb]), (rndR false rl rs rb rlv d)] := by rw [show catR rsf603 0 13 = ([(rndR true (comp (vs597 1) 0) (comp (vs597 1) 1) (comp (vs597 1) 3) lv1_vs597 (movedD d ((m).tmod 500))), (blk b12_vs597 46 [(Value.int .i64 0), (Value.int .i64 0)])] : List Res) by (try simp only [catR, hr_0, hr_1, hr_2, hr_3, hr_4, hr_5, hr_6, hr_7, hr_8, hr_9, hr_10, hr_11, hr_12]); (try rfl)] at hS601; exact hS601
        rw [hv_10] at hs_10
        have hA605 : Fr 258 [] [(245, (Value.agg #[(Value.int .i64 a), (Value.int .i64 b)])), (27, (Value.int .i64 c2)), (26, (bptr b12_ 0)), (10, (bptr b39 0)), (4, (bptr b4 0)), (2, (Value.int .u8 (y : Int)))] a598 := hA600.add (slot_ev hs_10 rfl); clear hA600
        rw [hv_11] at hs_11
        have hA606 : Fr 258 [] [(246, (Value.int .i64 c2)), (245, (Value.agg #[(Value.int .i64 a), (Value.int .i64 b)])), (27, (Value.int .i64 c2)), (26, (bptr b12_ 0)), (10, (bptr b39 0)), (4, (bptr b4 0)), (2, (Value.int .u8 (y : Int)))] a598 := hA605.add (slot_ev hs_11 rfl); clear hA605
        rw [hv_12] at hs_12
        have hA607 : Fr 258 [] [(28, (bptr b12_vs597 0)), (246, (Value.int .i64 c2)), (245, (Value.agg #[(Value.int .i64 a), (Value.int .i64 b)])), (27, (Value.int .i64 c2)), (26, (bptr b12_ 0)), (10, (bptr b39 0)), (4, (bptr b4 0)), (2, (Value.int .u8 (y : Int)))] a598 := hA606.add (slot_ev hs_12 rfl); clear hA606
        clear hH602 hS601 hs_0 hs_1 hs_2 hs_3 hs_4 hs_5 hs_6 hs_7 hs_8 hs_9 hs_10 hs_11 hs_12
        clear hr_0
        clear hv_0
        clear hr_1
        clear hv_1
        clear hr_2
        clear hv_2
        clear hr_3
        clear hv_3
        clear hr_4
        clear hv_4
        clear hr_5
        clear hv_5
        clear hr_6
        clear hv_6
        clear hr_7
        clear hv_7
        clear hr_8
        clear hv_8
        clear hr_9
        clear hv_9
        clear hr_10
        clear hv_10
        clear hr_11
        clear hv_11
        clear hr_12
        clear hv_12
        refine sts hA607 (op_store hS604 rfl ty_46 (hA607.ev rfl) (hA607.ev rfl) (i := 1) rfl (vs := [(Value.int .i64 a), (Value.int .i64 b)]) rfl rfl rfl (Nat.le_of_ble_eq_true rfl)) rfl rfl ?_
        intro _ w608 hS609 hA610; clear hA607
        have hS611 : Sep NoB w w608 [(rndR true (comp (vs597 1) 0) (comp (vs597 1) 1) (comp (vs597 1) 3) lv1_vs597 (movedD d ((m).tmod 500))), (blk b12_vs597 46 [(Value.int .i64 a), (Value.int .i64 b)]), (rndR true (comp (vs579 1) 0) (comp (vs579 1) 1) (comp (vs579 1) 3) lv1_ d), (blk b12_ 46 [(Value.int .i64 a), (Value.int .i64 b)]), (row u459 46 2 S2.length (pairs S2)), (row v452 3 1 ((chosenF d.tols.length x).length) (ints (chosenF d.tols.length x))), (rndR true vl438 vs439 vb440 lv441 (movedD d ((m).tmod 500))), (row u421 46 2 S1.length (pairs S1)), (row v414 3 1 ((chosenF d.tols.length x).length) (ints (chosenF d.tols.length x))), (rndR true vl400 vs401 vb402 lv403 d), (row v378 3 1 ((chosenF d.tols.length x).length) (ints (chosenF d.tols.length x))), (rndR true vl364 vs365 vb366 lv367 (movedD d ((m).tmod 500))), (row v342 3 1 ((chosenF d.tols.length x).length) (ints (chosenF d.tols.length x))), (rndR true vl328 vs329 vb330 lv331 d), (row v319 3 1 ((chosenF d.tols.length x).length) (ints (chosenF d.tols.length x))), (lstR lv_ (movedD d ((m).tmod 500)).rds), (row vb_ 62 2 d.tols.length (vpairs (d.tols.zip lv_))), (row vl_ 44 2 ((movedD d ((m).tmod 500)).lots.length) (pairs ((movedD d ((m).tmod 500)).lots))), (blk b39 26 [vl_, rs, (Value.int .i64 d.spread), vb_]), (blk b4 26 [rl, rs, (Value.int .i64 d.spread), rb]), (rndR false rl rs rb rlv d)] := hS609; clear hS609 hS604
        refine st hA610 (op_assign rfl (hA610.ev rfl)) rfl rfl (by decide) fun a612 hA613 => ?_; clear hA610 a598
        refine wl_nil ?_
        refine then_n ?_
        refine c_seq ?_
        refine c_region ?_
        refine st hA613 (op_move rfl (hA613.ev rfl)) rfl rfl (by decide) fun a614 hA615 => ?_; clear hA613 a612
        refine st hA615 (op_move rfl (hA615.ev rfl)) rfl rfl (by decide) fun a616 hA617 => ?_; clear hA615 a614
        refine st hA617 (op_eql rfl (hA617.ev rfl) (hA617.ev rfl)) rfl rfl (by decide) fun a618 hA619 => ?_; clear hA617 a616
        have hd620 : c2 = c2 := rfl
        rw [decide_eq_true hd620] at hA619
        refine st hA619 (op_move rfl (hA619.ev rfl)) rfl rfl (by decide) fun a621 hA622 => ?_; clear hA619 a618
        refine stg hA622 (op_loadA rfl ty_46 (hA622.ev rfl) (hS611.bk 3 rfl) (l := [(Value.int .i64 a), (Value.int .i64 b)]) rfl rfl) rfl rfl rfl rfl (by decide) fun a623 hA624 => ?_; clear hA622 a621
        refine stg hA624 (op_loadA rfl ty_46 (hA624.ev rfl) (hS611.bk 1 rfl) (l := [(Value.int .i64 a), (Value.int .i64 b)]) rfl rfl) rfl rfl rfl rfl (by decide) fun a625 hA626 => ?_; clear hA624 a623
        refine stg hA626 (op_eqlP tw_46 rfl (hA626.ev rfl) (hA626.ev rfl)) rfl rfl rfl rfl (by decide) fun a627 hA628 => ?_; clear hA626 a625
        have hd629 : (decide ((a : Int) = a) && decide ((b : Int) = b)) = true := by simp only [decide_true, Bool.and_self]
        rw [hd629] at hA628
        have hq630 := hd629; simp only [Bool.and_eq_true, Bool.and_eq_false_iff, decide_eq_true_eq, decide_eq_false_iff_not] at hq630
        refine st hA628 (op_pick_t rfl (hA628.ev rfl) (hA628.ev rfl)) rfl rfl (by decide) fun a631 hA632 => ?_; clear hA628 a627
        refine st hA632 (op_move rfl (hA632.ev rfl)) rfl rfl (by decide) fun a633 hA634 => ?_; clear hA632 a631
        refine stwg hA634 (op_call rfl en_18 ev0 (wakes_ok _)) rfl rfl rfl rfl (by decide) ?_
        rintro a635 _ w637 ⟨rfl, hE638⟩ hA636; have hS639 := hS611.step hE638; clear hE638 hA634 hS611 a633
        refine st hA636 (op_pick_t rfl (hA636.ev rfl) (hA636.ev rfl)) rfl rfl (by decide) fun a640 hA641 => ?_; clear hA636 a635
        refine st hA641 (op_assign rfl (hA641.ev rfl)) rfl rfl (by decide) fun a642 hA643 => ?_; clear hA641 a640
        refine wl_nil ?_
        refine then_n ?_
        refine c_ret ?_
        refine fin_run hA643 (.inl rfl) (run_results1 hA643 rfl (.tmp rfl)) ?_
        exact ⟨rfl, hS639.ext⟩
       ·skip
        intro a644 w645 vs597 rsf649 hA646 hH648 hrq hS647; clear hA596 hS593
        obtain ⟨hs_0, hy_0⟩ := hH648 0 (by decide) (by decide)
        obtain ⟨hv_0, hr_0⟩ := hy_0
        obtain ⟨hs_1, hy_1⟩ := hH648 1 (by decide) (by decide)
        obtain ⟨lv1_vs597, hv_1, hr_1⟩ := hy_1
        obtain ⟨hs_2, hy_2⟩ := hH648 2 (by decide) (by decide)
        obtain ⟨hv_2, hr_2⟩ := hy_2
        obtain ⟨hs_3, hy_3⟩ := hH648 3 (by decide) (by decide)
        obtain ⟨hv_3, hr_3⟩ := hy_3
        obtain ⟨hs_4, hy_4⟩ := hH648 4 (by decide) (by decide)
        obtain ⟨hv_4, hr_4⟩ := hy_4
        obtain ⟨hs_5, hy_5⟩ := hH648 5 (by decide) (by decide)
        obtain ⟨hv_5, hr_5⟩ := hy_5
        obtain ⟨hs_6, hy_6⟩ := hH648 6 (by decide) (by decide)
        obtain ⟨hv_6, hr_6⟩ := hy_6
        obtain ⟨hs_7, hy_7⟩ := hH648 7 (by decide) (by decide)
        obtain ⟨hv_7, hr_7⟩ := hy_7
        obtain ⟨hs_8, hy_8⟩ := hH648 8 (by decide) (by decide)
        obtain ⟨hv_8, hr_8⟩ := hy_8
        obtain ⟨hs_9, hy_9⟩ := hH648 9 (by decide) (by decide)
        obtain ⟨hv_9, hr_9⟩ := hy_9
        obtain ⟨hs_10, hy_10⟩ := hH648 10 (by decide) (by decide)
        obtain ⟨hv_10, hr_10⟩ := hy_10
        obtain ⟨hs_12, hy_12⟩ := hH648 12 (by decide) (by decide)
        obtain ⟨b12_vs597, hv_12, hr_12⟩ := hy_12
        have hS650 : Sep NoB w w645 [(rndR true (comp (vs597 1) 0) (comp (vs597 1) 1) (comp (vs597 1) 3) lv1_vs597 (movedD d ((m).tmod 500))), (blk b12_vs597 46 [(Value.int .i64 0), (Value.int .i64 0)]), (rndR true (comp (vs579 1) 0) (comp (vs579 1) 1) (comp (vs579 1) 3) lv1_ d), (blk b12_ 46 [(Value.int .i64 a), (Value.int .i64 b)]), (row u459 46 2 S2.length (pairs S2)), (row v452 3 1 ((chosenF d.tols.length x).length) (ints (chosenF d.tols.length x))), (rndR true vl438 vs439 vb440 lv441 (movedD d ((m).tmod 500))), (row u421 46 2 S1.length (pairs S1)), (row v414 3 1 ((chosenF d.tols.length x).length) (ints (chosenF d.tols.length x))), (rndR true vl400 vs401 vb402 lv403 d), (row v378 3 1 ((chosenF d.tols.length x).length) (ints (chosenF d.tols.length x))), (rndR true vl364 vs365 vb366 lv367 (movedD d ((m).tmod 500))), (row v342 3 1 ((chosenF d.tols.length x).length) (ints (chosenF d.tols.length x))), (rndR true vl328 vs329 vb330 lv331 d), (row v319 3 1 ((chosenF d.tols.length x).length) (ints (chosenF d.tols.length x))), (lstR lv_ (movedD d ((m).tmod 500)).rds), (row vb_ 62 2 d.tols.length (vpairs (d.tols.zip lv_))), (row vl_ 44 2 ((movedD d ((m).tmod 500)).lots.length) (pairs ((movedD d ((m).tmod 500)).lots))), (blk b39 26 [vl_, rs, (Value.int .i64 d.spread), vb_]), (blk b4 26 [rl, rs, (Value.int .i64 d.spread), rb]), (rndR false rl rs rb rlv d)] := by rw [show catR rsf649 0 13 = ([(rndR true (comp (vs597 1) 0) (comp (vs597 1) 1) (comp (vs597 1) 3) lv1_vs597 (movedD d ((m).tmod 500))), (blk b12_vs597 46 [(Value.int .i64 0), (Value.int .i64 0)])] : List Res) by (try simp only [catR, hr_0, hr_1, hr_2, hr_3, hr_4, hr_5, hr_6, hr_7, hr_8, hr_9, hr_10, hr_12, hrq]); (try rfl)] at hS647; exact hS647
        rw [hv_9] at hs_9
        have hA651 : Fr 258 [] [(235, (Value.tuple #[(Value.agg #[(Value.int .i64 a), (Value.int .i64 b)]), (Value.int .i64 c2)])), (27, (Value.int .i64 c2)), (26, (bptr b12_ 0)), (10, (bptr b39 0)), (4, (bptr b4 0)), (2, (Value.int .u8 (y : Int)))] a644 := hA646.add (slot_ev hs_9 rfl); clear hA646
        rw [hv_10] at hs_10
        have hA652 : Fr 258 [] [(245, (Value.agg #[(Value.int .i64 a), (Value.int .i64 b)])), (235, (Value.tuple #[(Value.agg #[(Value.int .i64 a), (Value.int .i64 b)]), (Value.int .i64 c2)])), (27, (Value.int .i64 c2)), (26, (bptr b12_ 0)), (10, (bptr b39 0)), (4, (bptr b4 0)), (2, (Value.int .u8 (y : Int)))] a644 := hA651.add (slot_ev hs_10 rfl); clear hA651
        rw [hv_12] at hs_12
        have hA653 : Fr 258 [] [(28, (bptr b12_vs597 0)), (245, (Value.agg #[(Value.int .i64 a), (Value.int .i64 b)])), (235, (Value.tuple #[(Value.agg #[(Value.int .i64 a), (Value.int .i64 b)]), (Value.int .i64 c2)])), (27, (Value.int .i64 c2)), (26, (bptr b12_ 0)), (10, (bptr b39 0)), (4, (bptr b4 0)), (2, (Value.int .u8 (y : Int)))] a644 := hA652.add (slot_ev hs_12 rfl); clear hA652
        clear hH648 hS647 hs_0 hs_1 hs_2 hs_3 hs_4 hs_5 hs_6 hs_7 hs_8 hs_9 hs_10 hs_12 hrq
        clear hr_0
        clear hv_0
        clear hr_1
        clear hv_1
        clear hr_2
        clear hv_2
        clear hr_3
        clear hv_3
        clear hr_4
        clear hv_4
        clear hr_5
        clear hv_5
        clear hr_6
        clear hv_6
        clear hr_7
        clear hv_7
        clear hr_8
        clear hv_8
        clear hr_9
        clear hv_9
        clear hr_10
        clear hv_10
        clear hr_12
        clear hv_12
        refine sts hA653 (op_store hS650 rfl ty_46 (hA653.ev rfl) (hA653.ev rfl) (i := 1) rfl (vs := [(Value.int .i64 a), (Value.int .i64 b)]) rfl rfl rfl (Nat.le_of_ble_eq_true rfl)) rfl rfl ?_
        intro _ w654 hS655 hA656; clear hA653
        have hS657 : Sep NoB w w654 [(rndR true (comp (vs597 1) 0) (comp (vs597 1) 1) (comp (vs597 1) 3) lv1_vs597 (movedD d ((m).tmod 500))), (blk b12_vs597 46 [(Value.int .i64 a), (Value.int .i64 b)]), (rndR true (comp (vs579 1) 0) (comp (vs579 1) 1) (comp (vs579 1) 3) lv1_ d), (blk b12_ 46 [(Value.int .i64 a), (Value.int .i64 b)]), (row u459 46 2 S2.length (pairs S2)), (row v452 3 1 ((chosenF d.tols.length x).length) (ints (chosenF d.tols.length x))), (rndR true vl438 vs439 vb440 lv441 (movedD d ((m).tmod 500))), (row u421 46 2 S1.length (pairs S1)), (row v414 3 1 ((chosenF d.tols.length x).length) (ints (chosenF d.tols.length x))), (rndR true vl400 vs401 vb402 lv403 d), (row v378 3 1 ((chosenF d.tols.length x).length) (ints (chosenF d.tols.length x))), (rndR true vl364 vs365 vb366 lv367 (movedD d ((m).tmod 500))), (row v342 3 1 ((chosenF d.tols.length x).length) (ints (chosenF d.tols.length x))), (rndR true vl328 vs329 vb330 lv331 d), (row v319 3 1 ((chosenF d.tols.length x).length) (ints (chosenF d.tols.length x))), (lstR lv_ (movedD d ((m).tmod 500)).rds), (row vb_ 62 2 d.tols.length (vpairs (d.tols.zip lv_))), (row vl_ 44 2 ((movedD d ((m).tmod 500)).lots.length) (pairs ((movedD d ((m).tmod 500)).lots))), (blk b39 26 [vl_, rs, (Value.int .i64 d.spread), vb_]), (blk b4 26 [rl, rs, (Value.int .i64 d.spread), rb]), (rndR false rl rs rb rlv d)] := hS655; clear hS655 hS650
        refine st hA656 (op_extract rfl (hA656.ev rfl) rfl) rfl rfl (by decide) fun a658 hA659 => ?_; clear hA656 a644
        refine st hA659 (op_assign rfl (hA659.ev rfl)) rfl rfl (by decide) fun a660 hA661 => ?_; clear hA659 a658
        refine wl_nil ?_
        refine then_n ?_
        refine c_seq ?_
        have hA662 := hA661.as [(29, (Value.int .i64 c2)), (28, (bptr b12_vs597 0)), (27, (Value.int .i64 c2)), (26, (bptr b12_ 0))] rfl; clear hA661
        refine c_region ?_
        refine st hA662 (op_move rfl (hA662.ev rfl)) rfl rfl (by decide) fun a663 hA664 => ?_; clear hA662 a660
        refine st hA664 (op_move rfl (hA664.ev rfl)) rfl rfl (by decide) fun a665 hA666 => ?_; clear hA664 a663
        refine st hA666 (op_eql rfl (hA666.ev rfl) (hA666.ev rfl)) rfl rfl (by decide) fun a667 hA668 => ?_; clear hA666 a665
        have hd669 : c2 = c2 := rfl
        rw [decide_eq_true hd669] at hA668
        refine st hA668 (op_move rfl (hA668.ev rfl)) rfl rfl (by decide) fun a670 hA671 => ?_; clear hA668 a667
        refine stg hA671 (op_loadA rfl ty_46 (hA671.ev rfl) (hS657.bk 3 rfl) (l := [(Value.int .i64 a), (Value.int .i64 b)]) rfl rfl) rfl rfl rfl rfl (by decide) fun a672 hA673 => ?_; clear hA671 a670
        refine stg hA673 (op_loadA rfl ty_46 (hA673.ev rfl) (hS657.bk 1 rfl) (l := [(Value.int .i64 a), (Value.int .i64 b)]) rfl rfl) rfl rfl rfl rfl (by decide) fun a674 hA675 => ?_; clear hA673 a672
        refine stg hA675 (op_eqlP tw_46 rfl (hA675.ev rfl) (hA675.ev rfl)) rfl rfl rfl rfl (by decide) fun a676 hA677 => ?_; clear hA675 a674
        have hd678 : (decide ((a : Int) = a) && decide ((b : Int) = b)) = true := by simp only [decide_true, Bool.and_self]
        rw [hd678] at hA677
        have hq679 := hd678; simp only [Bool.and_eq_true, Bool.and_eq_false_iff, decide_eq_true_eq, decide_eq_false_iff_not] at hq679
        refine st hA677 (op_pick_t rfl (hA677.ev rfl) (hA677.ev rfl)) rfl rfl (by decide) fun a680 hA681 => ?_; clear hA677 a676
        refine st hA681 (op_move rfl (hA681.ev rfl)) rfl rfl (by decide) fun a682 hA683 => ?_; clear hA681 a680
        refine stwg hA683 (op_call rfl en_18 ev0 (wakes_ok _)) rfl rfl rfl rfl (by decide) ?_
        rintro a684 _ w686 ⟨rfl, hE687⟩ hA685; have hS688 := hS657.step hE687; clear hE687 hA683 hS657 a682
        refine st hA685 (op_pick_t rfl (hA685.ev rfl) (hA685.ev rfl)) rfl rfl (by decide) fun a689 hA690 => ?_; clear hA685 a684
        refine st hA690 (op_assign rfl (hA690.ev rfl)) rfl rfl (by decide) fun a691 hA692 => ?_; clear hA690 a689
        refine wl_nil ?_
        refine then_n ?_
        refine c_ret ?_
        refine fin_run hA692 (.inl rfl) (run_results1 hA692 rfl (.tmp rfl)) ?_
        exact ⟨rfl, hS688.ext⟩
      ·skip
       intro a693 w694 vs579 rsf698 hA695 hH697 hrq hS696; clear hA578 hS527
       obtain ⟨hs_0, hy_0⟩ := hH697 0 (by decide) (by decide)
       obtain ⟨hv_0, hr_0⟩ := hy_0
       obtain ⟨hs_1, hy_1⟩ := hH697 1 (by decide) (by decide)
       obtain ⟨lv1_, hv_1, hr_1⟩ := hy_1
       obtain ⟨hs_2, hy_2⟩ := hH697 2 (by decide) (by decide)
       obtain ⟨hv_2, hr_2⟩ := hy_2
       obtain ⟨hs_3, hy_3⟩ := hH697 3 (by decide) (by decide)
       obtain ⟨hv_3, hr_3⟩ := hy_3
       obtain ⟨hs_4, hy_4⟩ := hH697 4 (by decide) (by decide)
       obtain ⟨hv_4, hr_4⟩ := hy_4
       obtain ⟨hs_5, hy_5⟩ := hH697 5 (by decide) (by decide)
       obtain ⟨hv_5, hr_5⟩ := hy_5
       obtain ⟨hs_6, hy_6⟩ := hH697 6 (by decide) (by decide)
       obtain ⟨hv_6, hr_6⟩ := hy_6
       obtain ⟨hs_7, hy_7⟩ := hH697 7 (by decide) (by decide)
       obtain ⟨hv_7, hr_7⟩ := hy_7
       obtain ⟨hs_8, hy_8⟩ := hH697 8 (by decide) (by decide)
       obtain ⟨hv_8, hr_8⟩ := hy_8
       obtain ⟨hs_9, hy_9⟩ := hH697 9 (by decide) (by decide)
       obtain ⟨hv_9, hr_9⟩ := hy_9
       obtain ⟨hs_10, hy_10⟩ := hH697 10 (by decide) (by decide)
       obtain ⟨hv_10, hr_10⟩ := hy_10
       obtain ⟨hs_12, hy_12⟩ := hH697 12 (by decide) (by decide)
       obtain ⟨b12_, hv_12, hr_12⟩ := hy_12
       have hS699 : Sep NoB w w694 [(rndR true (comp (vs579 1) 0) (comp (vs579 1) 1) (comp (vs579 1) 3) lv1_ d), (blk b12_ 46 [(Value.int .i64 0), (Value.int .i64 0)]), (row u459 46 2 S2.length (pairs S2)), (row v452 3 1 ((chosenF d.tols.length x).length) (ints (chosenF d.tols.length x))), (rndR true vl438 vs439 vb440 lv441 (movedD d ((m).tmod 500))), (row u421 46 2 S1.length (pairs S1)), (row v414 3 1 ((chosenF d.tols.length x).length) (ints (chosenF d.tols.length x))), (rndR true vl400 vs401 vb402 lv403 d), (row v378 3 1 ((chosenF d.tols.length x).length) (ints (chosenF d.tols.length x))), (rndR true vl364 vs365 vb366 lv367 (movedD d ((m).tmod 500))), (row v342 3 1 ((chosenF d.tols.length x).length) (ints (chosenF d.tols.length x))), (rndR true vl328 vs329 vb330 lv331 d), (row v319 3 1 ((chosenF d.tols.length x).length) (ints (chosenF d.tols.length x))), (lstR lv_ (movedD d ((m).tmod 500)).rds), (row vb_ 62 2 d.tols.length (vpairs (d.tols.zip lv_))), (row vl_ 44 2 ((movedD d ((m).tmod 500)).lots.length) (pairs ((movedD d ((m).tmod 500)).lots))), (blk b39 26 [vl_, rs, (Value.int .i64 d.spread), vb_]), (blk b4 26 [rl, rs, (Value.int .i64 d.spread), rb]), (rndR false rl rs rb rlv d)] := by rw [show catR rsf698 0 13 = ([(rndR true (comp (vs579 1) 0) (comp (vs579 1) 1) (comp (vs579 1) 3) lv1_ d), (blk b12_ 46 [(Value.int .i64 0), (Value.int .i64 0)])] : List Res) by (try simp only [catR, hr_0, hr_1, hr_2, hr_3, hr_4, hr_5, hr_6, hr_7, hr_8, hr_9, hr_10, hr_12, hrq]); (try rfl)] at hS696; exact hS696
       rw [hv_9] at hs_9
       have hA700 : Fr 258 [] [(223, (Value.tuple #[(Value.agg #[(Value.int .i64 a), (Value.int .i64 b)]), (Value.int .i64 c2)])), (10, (bptr b39 0)), (4, (bptr b4 0)), (2, (Value.int .u8 (y : Int)))] a693 := hA695.add (slot_ev hs_9 rfl); clear hA695
       rw [hv_10] at hs_10
       have hA701 : Fr 258 [] [(233, (Value.agg #[(Value.int .i64 a), (Value.int .i64 b)])), (223, (Value.tuple #[(Value.agg #[(Value.int .i64 a), (Value.int .i64 b)]), (Value.int .i64 c2)])), (10, (bptr b39 0)), (4, (bptr b4 0)), (2, (Value.int .u8 (y : Int)))] a693 := hA700.add (slot_ev hs_10 rfl); clear hA700
       rw [hv_12] at hs_12
       have hA702 : Fr 258 [] [(26, (bptr b12_ 0)), (233, (Value.agg #[(Value.int .i64 a), (Value.int .i64 b)])), (223, (Value.tuple #[(Value.agg #[(Value.int .i64 a), (Value.int .i64 b)]), (Value.int .i64 c2)])), (10, (bptr b39 0)), (4, (bptr b4 0)), (2, (Value.int .u8 (y : Int)))] a693 := hA701.add (slot_ev hs_12 rfl); clear hA701
       clear hH697 hS696 hs_0 hs_1 hs_2 hs_3 hs_4 hs_5 hs_6 hs_7 hs_8 hs_9 hs_10 hs_12 hrq
       clear hr_0
       clear hv_0
       clear hr_1
       clear hv_1
       clear hr_2
       clear hv_2
       clear hr_3
       clear hv_3
       clear hr_4
       clear hv_4
       clear hr_5
       clear hv_5
       clear hr_6
       clear hv_6
       clear hr_7
       clear hv_7
       clear hr_8
       clear hv_8
       clear hr_9
       clear hv_9
       clear hr_10
       clear hv_10
       clear hr_12
       clear hv_12
       refine sts hA702 (op_store hS699 rfl ty_46 (hA702.ev rfl) (hA702.ev rfl) (i := 1) rfl (vs := [(Value.int .i64 a), (Value.int .i64 b)]) rfl rfl rfl (Nat.le_of_ble_eq_true rfl)) rfl rfl ?_
       intro _ w703 hS704 hA705; clear hA702
       have hS706 : Sep NoB w w703 [(rndR true (comp (vs579 1) 0) (comp (vs579 1) 1) (comp (vs579 1) 3) lv1_ d), (blk b12_ 46 [(Value.int .i64 a), (Value.int .i64 b)]), (row u459 46 2 S2.length (pairs S2)), (row v452 3 1 ((chosenF d.tols.length x).length) (ints (chosenF d.tols.length x))), (rndR true vl438 vs439 vb440 lv441 (movedD d ((m).tmod 500))), (row u421 46 2 S1.length (pairs S1)), (row v414 3 1 ((chosenF d.tols.length x).length) (ints (chosenF d.tols.length x))), (rndR true vl400 vs401 vb402 lv403 d), (row v378 3 1 ((chosenF d.tols.length x).length) (ints (chosenF d.tols.length x))), (rndR true vl364 vs365 vb366 lv367 (movedD d ((m).tmod 500))), (row v342 3 1 ((chosenF d.tols.length x).length) (ints (chosenF d.tols.length x))), (rndR true vl328 vs329 vb330 lv331 d), (row v319 3 1 ((chosenF d.tols.length x).length) (ints (chosenF d.tols.length x))), (lstR lv_ (movedD d ((m).tmod 500)).rds), (row vb_ 62 2 d.tols.length (vpairs (d.tols.zip lv_))), (row vl_ 44 2 ((movedD d ((m).tmod 500)).lots.length) (pairs ((movedD d ((m).tmod 500)).lots))), (blk b39 26 [vl_, rs, (Value.int .i64 d.spread), vb_]), (blk b4 26 [rl, rs, (Value.int .i64 d.spread), rb]), (rndR false rl rs rb rlv d)] := hS704; clear hS704 hS699
       refine st hA705 (op_extract rfl (hA705.ev rfl) rfl) rfl rfl (by decide) fun a707 hA708 => ?_; clear hA705 a693
       refine st hA708 (op_assign rfl (hA708.ev rfl)) rfl rfl (by decide) fun a709 hA710 => ?_; clear hA708 a707
       refine wl_nil ?_
       refine then_n ?_
       refine c_seq ?_
       have hA711 := hA710.as [(27, (Value.int .i64 c2)), (26, (bptr b12_ 0)), (10, (bptr b39 0)), (4, (bptr b4 0)), (2, (Value.int .u8 (y : Int)))] rfl; clear hA710
       refine c_drawF mixed hA711 hS706 13 11 rfl rfl [[], [0], [], [2], [], [4], [5], [3, 6], [1, 7], [8], [9], [9], []] [(fun (vs712 : Nat → Value) (v_ : Value) (rs_ : List Res) => v_ = (Value.agg #[vl_, rs, (Value.int .i64 d.spread), vb_]) ∧ rs_ = []), (fun (vs712 : Nat → Value) (v_ : Value) (rs_ : List Res) => ∃ (lv1_vs712 : List Value), v_ = (Value.agg #[(comp v_ 0), (comp v_ 1), (Value.int .i64 ((movedD d ((m).tmod 500)).spread)), (comp v_ 3)]) ∧ rs_ = [(rndR true (comp v_ 0) (comp v_ 1) (comp v_ 3) lv1_vs712 (movedD d ((m).tmod 500)))]), (fun (vs712 : Nat → Value) (v_ : Value) (rs_ : List Res) => v_ = (Value.int .u8 (y : Int)) ∧ rs_ = []), (fun (vs712 : Nat → Value) (v_ : Value) (rs_ : List Res) => v_ = (Value.int .i64 (y : Int)) ∧ rs_ = []), (fun (vs712 : Nat → Value) (v_ : Value) (rs_ : List Res) => v_ = (bptr b4 3) ∧ rs_ = []), (fun (vs712 : Nat → Value) (v_ : Value) (rs_ : List Res) => v_ = rb ∧ rs_ = []), (fun (vs712 : Nat → Value) (v_ : Value) (rs_ : List Res) => v_ = (Value.int .i64 (d.tols.length : Int)) ∧ rs_ = []), (fun (vs712 : Nat → Value) (v_ : Value) (rs_ : List Res) => v_ = (Value.int .i64 (((y : Int)).tmod (d.tols.length : Int))) ∧ rs_ = []), (fun (vs712 : Nat → Value) (v_ : Value) (rs_ : List Res) => v_ = (Value.tuple #[(Value.agg #[(Value.int .i64 a), (Value.int .i64 b)]), (Value.int .i64 c2)]) ∧ rs_ = []), (fun (vs712 : Nat → Value) (v_ : Value) (rs_ : List Res) => v_ = (Value.tuple #[(Value.agg #[(Value.int .i64 a), (Value.int .i64 b)]), (Value.int .i64 c2)]) ∧ rs_ = []), (fun (vs712 : Nat → Value) (v_ : Value) (rs_ : List Res) => v_ = (Value.agg #[(Value.int .i64 a), (Value.int .i64 b)]) ∧ rs_ = []), (fun (vs712 : Nat → Value) (v_ : Value) (rs_ : List Res) => v_ = (Value.int .i64 c2) ∧ rs_ = []), (fun (vs712 : Nat → Value) (v_ : Value) (rs_ : List Res) => ∃ (b12_vs712 : Nat), v_ = (bptr b12_vs712 0) ∧ rs_ = [(blk b12_vs712 46 [(Value.int .i64 0), (Value.int .i64 0)])])] (by decide +kernel) (by decide +kernel) (by decide +kernel) rfl rfl ⟨(fun _ _ _ _ _ h_ => h_), (fun _ _ _ _ _ h_ => h_), (fun _ _ _ _ _ h_ => h_), (fun _ _ _ _ _ h_ => h_), (fun _ _ _ _ _ h_ => h_), (fun _ _ _ _ _ h_ => h_), (fun _ _ _ _ _ h_ => h_), (fun _ _ _ _ _ h_ => h_), (fun _ _ _ _ _ h_ => h_), (fun _ _ _ _ _ h_ => h_), (fun _ _ _ _ _ h_ => h_), (fun _ _ _ _ _ h_ => h_), (fun _ _ _ _ _ h_ => h_), trivial⟩ ?_ ?_ ?_
       ·skip
        refine ⟨fun a w vs712 hA hS hd => ?_, ?_⟩
        ·skip
         exact opG_of rfl (vv (op_loadA rfl ty_26 (hA.ev rfl) (hS.bk 16 rfl) (l := [vl_, rs, (Value.int .i64 d.spread), vb_]) rfl rfl) (And.intro rfl rfl))
        refine ⟨fun a w vs712 hA hS hd => ?_, ?_⟩
        ·skip
         obtain ⟨e0, rs0, hy0, hp0⟩ := hd 0 (by decide)
         obtain ⟨hv0, hr0⟩ := hy0; subst hr0
         rw [hv0] at e0
         exact opG_of rfl (vn (op_call rfl en_20 (ev1 (tmp_ev (slot_ev e0 rfl))) (Round_ok vl_ rs vb_ lv_ (movedD d ((m).tmod 500)) _ (show RoundAt _ vl_ rs vb_ lv_ (movedD d ((m).tmod 500)) from ⟨SlAt.of_row (hS.ok_row 15 rfl), (rnd_at (hS.ok 18 _ rfl)).samples, SlAt.of_row (hS.ok_row 14 rfl), (hS.lst_at 13 rfl).2, hll.trans hrl9, hrl9⟩) (moved_thin hV))) (fun v w' h => by obtain ⟨vl, vs, vb, lv, rfl, hT⟩ := h; exact ⟨_, ⟨lv, rfl, rfl⟩, hT, rfl⟩))
        refine ⟨fun a w vs712 hA hS hd => ?_, ?_⟩
        ·skip
         exact opG_of rfl (vv (op_move rfl (hA.ev rfl)) (And.intro rfl rfl))
        refine ⟨fun a w vs712 hA hS hd => ?_, ?_⟩
        ·skip
         obtain ⟨e2, rs2, hy2, hp2⟩ := hd 2 (by decide)
         obtain ⟨hv2, hr2⟩ := hy2; subst hr2
         rw [hv2] at e2
         exact opG_of rfl (vv (op_conv un_5 un_3 rfl (tmp_ev (slot_ev e2 rfl)) (v := (y : Int)) (wrap_i64 (by omega) (by omega))) (And.intro rfl rfl))
        refine ⟨fun a w vs712 hA hS hd => ?_, ?_⟩
        ·skip
         exact opG_of rfl (vv (op_field rfl fd_26_3 (hA.ev rfl)) (And.intro rfl rfl))
        refine ⟨fun a w vs712 hA hS hd => ?_, ?_⟩
        ·skip
         obtain ⟨e4, rs4, hy4, hp4⟩ := hd 4 (by decide)
         obtain ⟨hv4, hr4⟩ := hy4; subst hr4
         rw [hv4] at e4
         exact opG_of rfl (vv (op_load1 rfl ty_24 (tmp_ev (slot_ev e4 rfl)) (hS.bk 17 rfl) rfl) (And.intro rfl rfl))
        refine ⟨fun a w vs712 hA hS hd => ?_, ?_⟩
        ·skip
         obtain ⟨e5, rs5, hy5, hp5⟩ := hd 5 (by decide)
         obtain ⟨hv5, hr5⟩ := hy5; subst hr5
         rw [hv5] at e5
         exact opG_of rfl (vv (op_lenS rfl un_24 (tmp_ev (slot_ev e5 rfl)) (rnd_at (hS.ok 18 _ rfl)).labs) (And.intro rfl rfl))
        refine ⟨fun a w vs712 hA hS hd => ?_, ?_⟩
        ·skip
         obtain ⟨e3, rs3, hy3, hp3⟩ := hd 3 (by decide)
         obtain ⟨hv3, hr3⟩ := hy3; subst hr3
         rw [hv3] at e3
         obtain ⟨e6, rs6, hy6, hp6⟩ := hd 6 (by decide)
         obtain ⟨hv6, hr6⟩ := hy6; subst hr6
         rw [hv6] at e6
         exact opG_of rfl (vv (op_rem rfl (tmp_ev (slot_ev e3 rfl)) (tmp_ev (slot_ev e6 rfl)) (by omega)) (And.intro rfl rfl))
        refine ⟨fun a w vs712 hA hS hd => ?_, ?_⟩
        ·skip
         obtain ⟨e1, rs1, hy1, hp1⟩ := hd 1 (by decide)
         obtain ⟨lv1_vs712, hv1, hr1⟩ := hy1; subst hr1
         rw [hv1] at e1
         have hp1_0 := hp1 _ (List.mem_of_getElem? (i := 0) rfl)
         obtain ⟨e7, rs7, hy7, hp7⟩ := hd 7 (by decide)
         obtain ⟨hv7, hr7⟩ := hy7; subst hr7
         rw [hv7] at e7
         exact opG_of rfl (vx (op_call rfl en_32 (ev2 (tmp_ev (slot_ev e1 rfl)) (tmp_ev (slot_ev e7 rfl))) (by have h := (shifts_fn (comp (vs712 1) 0) (comp (vs712 1) 1) (comp (vs712 1) 3) lv1_vs712 (movedD d ((m).tmod 500)) _ (rnd_at hp1_0) (((y : Int)).tmod (d.tols.length : Int))); rw [hzM] at h; exact h)) (And.intro rfl rfl))
        refine ⟨fun a w vs712 hA hS hd => ?_, ?_⟩
        ·skip
         obtain ⟨e8, rs8, hy8, hp8⟩ := hd 8 (by decide)
         obtain ⟨hv8, hr8⟩ := hy8; subst hr8
         rw [hv8] at e8
         exact opG_of rfl (vv (op_move rfl (tmp_ev (slot_ev e8 rfl))) (And.intro rfl rfl))
        refine ⟨fun a w vs712 hA hS hd => ?_, ?_⟩
        ·skip
         obtain ⟨e9, rs9, hy9, hp9⟩ := hd 9 (by decide)
         obtain ⟨hv9, hr9⟩ := hy9; subst hr9
         rw [hv9] at e9
         exact opG_of rfl (vv (op_extract rfl (tmp_ev (slot_ev e9 rfl)) rfl) (And.intro rfl rfl))
        refine ⟨fun a w vs712 hA hS hd => ?_, ?_⟩
        ·skip
         obtain ⟨e9, rs9, hy9, hp9⟩ := hd 9 (by decide)
         obtain ⟨hv9, hr9⟩ := hy9; subst hr9
         rw [hv9] at e9
         exact opG_of rfl (vv (op_extract rfl (tmp_ev (slot_ev e9 rfl)) rfl) (And.intro rfl rfl))
        refine ⟨fun a w vs712 hA hS hd => ?_, ?_⟩
        ·skip
         exact opG_of rfl (valloc rfl ze_46 (cs := [(Value.int .i64 0), (Value.int .i64 0)]) rfl (fun b_ => ⟨b_, rfl, rfl⟩))
        trivial
       ·skip
        intro a713 w714 vs712 rsf718 hA715 hH717 hS716; clear hA711 hS706
        obtain ⟨hs_0, hy_0⟩ := hH717 0 (by decide)
        obtain ⟨hv_0, hr_0⟩ := hy_0
        obtain ⟨hs_1, hy_1⟩ := hH717 1 (by decide)
        obtain ⟨lv1_vs712, hv_1, hr_1⟩ := hy_1
        obtain ⟨hs_2, hy_2⟩ := hH717 2 (by decide)
        obtain ⟨hv_2, hr_2⟩ := hy_2
        obtain ⟨hs_3, hy_3⟩ := hH717 3 (by decide)
        obtain ⟨hv_3, hr_3⟩ := hy_3
        obtain ⟨hs_4, hy_4⟩ := hH717 4 (by decide)
        obtain ⟨hv_4, hr_4⟩ := hy_4
        obtain ⟨hs_5, hy_5⟩ := hH717 5 (by decide)
        obtain ⟨hv_5, hr_5⟩ := hy_5
        obtain ⟨hs_6, hy_6⟩ := hH717 6 (by decide)
        obtain ⟨hv_6, hr_6⟩ := hy_6
        obtain ⟨hs_7, hy_7⟩ := hH717 7 (by decide)
        obtain ⟨hv_7, hr_7⟩ := hy_7
        obtain ⟨hs_8, hy_8⟩ := hH717 8 (by decide)
        obtain ⟨hv_8, hr_8⟩ := hy_8
        obtain ⟨hs_9, hy_9⟩ := hH717 9 (by decide)
        obtain ⟨hv_9, hr_9⟩ := hy_9
        obtain ⟨hs_10, hy_10⟩ := hH717 10 (by decide)
        obtain ⟨hv_10, hr_10⟩ := hy_10
        obtain ⟨hs_11, hy_11⟩ := hH717 11 (by decide)
        obtain ⟨hv_11, hr_11⟩ := hy_11
        obtain ⟨hs_12, hy_12⟩ := hH717 12 (by decide)
        obtain ⟨b12_vs712, hv_12, hr_12⟩ := hy_12
        have hS719 : Sep NoB w w714 [(rndR true (comp (vs712 1) 0) (comp (vs712 1) 1) (comp (vs712 1) 3) lv1_vs712 (movedD d ((m).tmod 500))), (blk b12_vs712 46 [(Value.int .i64 0), (Value.int .i64 0)]), (rndR true (comp (vs579 1) 0) (comp (vs579 1) 1) (comp (vs579 1) 3) lv1_ d), (blk b12_ 46 [(Value.int .i64 a), (Value.int .i64 b)]), (row u459 46 2 S2.length (pairs S2)), (row v452 3 1 ((chosenF d.tols.length x).length) (ints (chosenF d.tols.length x))), (rndR true vl438 vs439 vb440 lv441 (movedD d ((m).tmod 500))), (row u421 46 2 S1.length (pairs S1)), (row v414 3 1 ((chosenF d.tols.length x).length) (ints (chosenF d.tols.length x))), (rndR true vl400 vs401 vb402 lv403 d), (row v378 3 1 ((chosenF d.tols.length x).length) (ints (chosenF d.tols.length x))), (rndR true vl364 vs365 vb366 lv367 (movedD d ((m).tmod 500))), (row v342 3 1 ((chosenF d.tols.length x).length) (ints (chosenF d.tols.length x))), (rndR true vl328 vs329 vb330 lv331 d), (row v319 3 1 ((chosenF d.tols.length x).length) (ints (chosenF d.tols.length x))), (lstR lv_ (movedD d ((m).tmod 500)).rds), (row vb_ 62 2 d.tols.length (vpairs (d.tols.zip lv_))), (row vl_ 44 2 ((movedD d ((m).tmod 500)).lots.length) (pairs ((movedD d ((m).tmod 500)).lots))), (blk b39 26 [vl_, rs, (Value.int .i64 d.spread), vb_]), (blk b4 26 [rl, rs, (Value.int .i64 d.spread), rb]), (rndR false rl rs rb rlv d)] := by rw [show catR rsf718 0 13 = ([(rndR true (comp (vs712 1) 0) (comp (vs712 1) 1) (comp (vs712 1) 3) lv1_vs712 (movedD d ((m).tmod 500))), (blk b12_vs712 46 [(Value.int .i64 0), (Value.int .i64 0)])] : List Res) by (try simp only [catR, hr_0, hr_1, hr_2, hr_3, hr_4, hr_5, hr_6, hr_7, hr_8, hr_9, hr_10, hr_11, hr_12]); (try rfl)] at hS716; exact hS716
        rw [hv_10] at hs_10
        have hA720 : Fr 258 [] [(245, (Value.agg #[(Value.int .i64 a), (Value.int .i64 b)])), (27, (Value.int .i64 c2)), (26, (bptr b12_ 0)), (10, (bptr b39 0)), (4, (bptr b4 0)), (2, (Value.int .u8 (y : Int)))] a713 := hA715.add (slot_ev hs_10 rfl); clear hA715
        rw [hv_11] at hs_11
        have hA721 : Fr 258 [] [(246, (Value.int .i64 c2)), (245, (Value.agg #[(Value.int .i64 a), (Value.int .i64 b)])), (27, (Value.int .i64 c2)), (26, (bptr b12_ 0)), (10, (bptr b39 0)), (4, (bptr b4 0)), (2, (Value.int .u8 (y : Int)))] a713 := hA720.add (slot_ev hs_11 rfl); clear hA720
        rw [hv_12] at hs_12
        have hA722 : Fr 258 [] [(28, (bptr b12_vs712 0)), (246, (Value.int .i64 c2)), (245, (Value.agg #[(Value.int .i64 a), (Value.int .i64 b)])), (27, (Value.int .i64 c2)), (26, (bptr b12_ 0)), (10, (bptr b39 0)), (4, (bptr b4 0)), (2, (Value.int .u8 (y : Int)))] a713 := hA721.add (slot_ev hs_12 rfl); clear hA721
        clear hH717 hS716 hs_0 hs_1 hs_2 hs_3 hs_4 hs_5 hs_6 hs_7 hs_8 hs_9 hs_10 hs_11 hs_12
        clear hr_0
        clear hv_0
        clear hr_1
        clear hv_1
        clear hr_2
        clear hv_2
        clear hr_3
        clear hv_3
        clear hr_4
        clear hv_4
        clear hr_5
        clear hv_5
        clear hr_6
        clear hv_6
        clear hr_7
        clear hv_7
        clear hr_8
        clear hv_8
        clear hr_9
        clear hv_9
        clear hr_10
        clear hv_10
        clear hr_11
        clear hv_11
        clear hr_12
        clear hv_12
        refine sts hA722 (op_store hS719 rfl ty_46 (hA722.ev rfl) (hA722.ev rfl) (i := 1) rfl (vs := [(Value.int .i64 a), (Value.int .i64 b)]) rfl rfl rfl (Nat.le_of_ble_eq_true rfl)) rfl rfl ?_
        intro _ w723 hS724 hA725; clear hA722
        have hS726 : Sep NoB w w723 [(rndR true (comp (vs712 1) 0) (comp (vs712 1) 1) (comp (vs712 1) 3) lv1_vs712 (movedD d ((m).tmod 500))), (blk b12_vs712 46 [(Value.int .i64 a), (Value.int .i64 b)]), (rndR true (comp (vs579 1) 0) (comp (vs579 1) 1) (comp (vs579 1) 3) lv1_ d), (blk b12_ 46 [(Value.int .i64 a), (Value.int .i64 b)]), (row u459 46 2 S2.length (pairs S2)), (row v452 3 1 ((chosenF d.tols.length x).length) (ints (chosenF d.tols.length x))), (rndR true vl438 vs439 vb440 lv441 (movedD d ((m).tmod 500))), (row u421 46 2 S1.length (pairs S1)), (row v414 3 1 ((chosenF d.tols.length x).length) (ints (chosenF d.tols.length x))), (rndR true vl400 vs401 vb402 lv403 d), (row v378 3 1 ((chosenF d.tols.length x).length) (ints (chosenF d.tols.length x))), (rndR true vl364 vs365 vb366 lv367 (movedD d ((m).tmod 500))), (row v342 3 1 ((chosenF d.tols.length x).length) (ints (chosenF d.tols.length x))), (rndR true vl328 vs329 vb330 lv331 d), (row v319 3 1 ((chosenF d.tols.length x).length) (ints (chosenF d.tols.length x))), (lstR lv_ (movedD d ((m).tmod 500)).rds), (row vb_ 62 2 d.tols.length (vpairs (d.tols.zip lv_))), (row vl_ 44 2 ((movedD d ((m).tmod 500)).lots.length) (pairs ((movedD d ((m).tmod 500)).lots))), (blk b39 26 [vl_, rs, (Value.int .i64 d.spread), vb_]), (blk b4 26 [rl, rs, (Value.int .i64 d.spread), rb]), (rndR false rl rs rb rlv d)] := hS724; clear hS724 hS719
        refine st hA725 (op_assign rfl (hA725.ev rfl)) rfl rfl (by decide) fun a727 hA728 => ?_; clear hA725 a713
        refine wl_nil ?_
        refine then_n ?_
        refine c_seq ?_
        refine c_region ?_
        refine st hA728 (op_move rfl (hA728.ev rfl)) rfl rfl (by decide) fun a729 hA730 => ?_; clear hA728 a727
        refine st hA730 (op_move rfl (hA730.ev rfl)) rfl rfl (by decide) fun a731 hA732 => ?_; clear hA730 a729
        refine st hA732 (op_eql rfl (hA732.ev rfl) (hA732.ev rfl)) rfl rfl (by decide) fun a733 hA734 => ?_; clear hA732 a731
        have hd735 : c2 = c2 := rfl
        rw [decide_eq_true hd735] at hA734
        refine st hA734 (op_move rfl (hA734.ev rfl)) rfl rfl (by decide) fun a736 hA737 => ?_; clear hA734 a733
        refine stg hA737 (op_loadA rfl ty_46 (hA737.ev rfl) (hS726.bk 3 rfl) (l := [(Value.int .i64 a), (Value.int .i64 b)]) rfl rfl) rfl rfl rfl rfl (by decide) fun a738 hA739 => ?_; clear hA737 a736
        refine stg hA739 (op_loadA rfl ty_46 (hA739.ev rfl) (hS726.bk 1 rfl) (l := [(Value.int .i64 a), (Value.int .i64 b)]) rfl rfl) rfl rfl rfl rfl (by decide) fun a740 hA741 => ?_; clear hA739 a738
        refine stg hA741 (op_eqlP tw_46 rfl (hA741.ev rfl) (hA741.ev rfl)) rfl rfl rfl rfl (by decide) fun a742 hA743 => ?_; clear hA741 a740
        have hd744 : (decide ((a : Int) = a) && decide ((b : Int) = b)) = true := by simp only [decide_true, Bool.and_self]
        rw [hd744] at hA743
        have hq745 := hd744; simp only [Bool.and_eq_true, Bool.and_eq_false_iff, decide_eq_true_eq, decide_eq_false_iff_not] at hq745
        refine st hA743 (op_pick_t rfl (hA743.ev rfl) (hA743.ev rfl)) rfl rfl (by decide) fun a746 hA747 => ?_; clear hA743 a742
        refine st hA747 (op_move rfl (hA747.ev rfl)) rfl rfl (by decide) fun a748 hA749 => ?_; clear hA747 a746
        refine stwg hA749 (op_call rfl en_18 ev0 (wakes_ok _)) rfl rfl rfl rfl (by decide) ?_
        rintro a750 _ w752 ⟨rfl, hE753⟩ hA751; have hS754 := hS726.step hE753; clear hE753 hA749 hS726 a748
        refine st hA751 (op_pick_t rfl (hA751.ev rfl) (hA751.ev rfl)) rfl rfl (by decide) fun a755 hA756 => ?_; clear hA751 a750
        refine st hA756 (op_assign rfl (hA756.ev rfl)) rfl rfl (by decide) fun a757 hA758 => ?_; clear hA756 a755
        refine wl_nil ?_
        refine then_n ?_
        refine c_ret ?_
        refine fin_run hA758 (.inl rfl) (run_results1 hA758 rfl (.tmp rfl)) ?_
        exact ⟨rfl, hS754.ext⟩
       ·skip
        intro a759 w760 vs712 rsf764 hA761 hH763 hrq hS762; clear hA711 hS706
        obtain ⟨hs_0, hy_0⟩ := hH763 0 (by decide) (by decide)
        obtain ⟨hv_0, hr_0⟩ := hy_0
        obtain ⟨hs_1, hy_1⟩ := hH763 1 (by decide) (by decide)
        obtain ⟨lv1_vs712, hv_1, hr_1⟩ := hy_1
        obtain ⟨hs_2, hy_2⟩ := hH763 2 (by decide) (by decide)
        obtain ⟨hv_2, hr_2⟩ := hy_2
        obtain ⟨hs_3, hy_3⟩ := hH763 3 (by decide) (by decide)
        obtain ⟨hv_3, hr_3⟩ := hy_3
        obtain ⟨hs_4, hy_4⟩ := hH763 4 (by decide) (by decide)
        obtain ⟨hv_4, hr_4⟩ := hy_4
        obtain ⟨hs_5, hy_5⟩ := hH763 5 (by decide) (by decide)
        obtain ⟨hv_5, hr_5⟩ := hy_5
        obtain ⟨hs_6, hy_6⟩ := hH763 6 (by decide) (by decide)
        obtain ⟨hv_6, hr_6⟩ := hy_6
        obtain ⟨hs_7, hy_7⟩ := hH763 7 (by decide) (by decide)
        obtain ⟨hv_7, hr_7⟩ := hy_7
        obtain ⟨hs_8, hy_8⟩ := hH763 8 (by decide) (by decide)
        obtain ⟨hv_8, hr_8⟩ := hy_8
        obtain ⟨hs_9, hy_9⟩ := hH763 9 (by decide) (by decide)
        obtain ⟨hv_9, hr_9⟩ := hy_9
        obtain ⟨hs_10, hy_10⟩ := hH763 10 (by decide) (by decide)
        obtain ⟨hv_10, hr_10⟩ := hy_10
        obtain ⟨hs_12, hy_12⟩ := hH763 12 (by decide) (by decide)
        obtain ⟨b12_vs712, hv_12, hr_12⟩ := hy_12
        have hS765 : Sep NoB w w760 [(rndR true (comp (vs712 1) 0) (comp (vs712 1) 1) (comp (vs712 1) 3) lv1_vs712 (movedD d ((m).tmod 500))), (blk b12_vs712 46 [(Value.int .i64 0), (Value.int .i64 0)]), (rndR true (comp (vs579 1) 0) (comp (vs579 1) 1) (comp (vs579 1) 3) lv1_ d), (blk b12_ 46 [(Value.int .i64 a), (Value.int .i64 b)]), (row u459 46 2 S2.length (pairs S2)), (row v452 3 1 ((chosenF d.tols.length x).length) (ints (chosenF d.tols.length x))), (rndR true vl438 vs439 vb440 lv441 (movedD d ((m).tmod 500))), (row u421 46 2 S1.length (pairs S1)), (row v414 3 1 ((chosenF d.tols.length x).length) (ints (chosenF d.tols.length x))), (rndR true vl400 vs401 vb402 lv403 d), (row v378 3 1 ((chosenF d.tols.length x).length) (ints (chosenF d.tols.length x))), (rndR true vl364 vs365 vb366 lv367 (movedD d ((m).tmod 500))), (row v342 3 1 ((chosenF d.tols.length x).length) (ints (chosenF d.tols.length x))), (rndR true vl328 vs329 vb330 lv331 d), (row v319 3 1 ((chosenF d.tols.length x).length) (ints (chosenF d.tols.length x))), (lstR lv_ (movedD d ((m).tmod 500)).rds), (row vb_ 62 2 d.tols.length (vpairs (d.tols.zip lv_))), (row vl_ 44 2 ((movedD d ((m).tmod 500)).lots.length) (pairs ((movedD d ((m).tmod 500)).lots))), (blk b39 26 [vl_, rs, (Value.int .i64 d.spread), vb_]), (blk b4 26 [rl, rs, (Value.int .i64 d.spread), rb]), (rndR false rl rs rb rlv d)] := by rw [show catR rsf764 0 13 = ([(rndR true (comp (vs712 1) 0) (comp (vs712 1) 1) (comp (vs712 1) 3) lv1_vs712 (movedD d ((m).tmod 500))), (blk b12_vs712 46 [(Value.int .i64 0), (Value.int .i64 0)])] : List Res) by (try simp only [catR, hr_0, hr_1, hr_2, hr_3, hr_4, hr_5, hr_6, hr_7, hr_8, hr_9, hr_10, hr_12, hrq]); (try rfl)] at hS762; exact hS762
        rw [hv_9] at hs_9
        have hA766 : Fr 258 [] [(235, (Value.tuple #[(Value.agg #[(Value.int .i64 a), (Value.int .i64 b)]), (Value.int .i64 c2)])), (27, (Value.int .i64 c2)), (26, (bptr b12_ 0)), (10, (bptr b39 0)), (4, (bptr b4 0)), (2, (Value.int .u8 (y : Int)))] a759 := hA761.add (slot_ev hs_9 rfl); clear hA761
        rw [hv_10] at hs_10
        have hA767 : Fr 258 [] [(245, (Value.agg #[(Value.int .i64 a), (Value.int .i64 b)])), (235, (Value.tuple #[(Value.agg #[(Value.int .i64 a), (Value.int .i64 b)]), (Value.int .i64 c2)])), (27, (Value.int .i64 c2)), (26, (bptr b12_ 0)), (10, (bptr b39 0)), (4, (bptr b4 0)), (2, (Value.int .u8 (y : Int)))] a759 := hA766.add (slot_ev hs_10 rfl); clear hA766
        rw [hv_12] at hs_12
        have hA768 : Fr 258 [] [(28, (bptr b12_vs712 0)), (245, (Value.agg #[(Value.int .i64 a), (Value.int .i64 b)])), (235, (Value.tuple #[(Value.agg #[(Value.int .i64 a), (Value.int .i64 b)]), (Value.int .i64 c2)])), (27, (Value.int .i64 c2)), (26, (bptr b12_ 0)), (10, (bptr b39 0)), (4, (bptr b4 0)), (2, (Value.int .u8 (y : Int)))] a759 := hA767.add (slot_ev hs_12 rfl); clear hA767
        clear hH763 hS762 hs_0 hs_1 hs_2 hs_3 hs_4 hs_5 hs_6 hs_7 hs_8 hs_9 hs_10 hs_12 hrq
        clear hr_0
        clear hv_0
        clear hr_1
        clear hv_1
        clear hr_2
        clear hv_2
        clear hr_3
        clear hv_3
        clear hr_4
        clear hv_4
        clear hr_5
        clear hv_5
        clear hr_6
        clear hv_6
        clear hr_7
        clear hv_7
        clear hr_8
        clear hv_8
        clear hr_9
        clear hv_9
        clear hr_10
        clear hv_10
        clear hr_12
        clear hv_12
        refine sts hA768 (op_store hS765 rfl ty_46 (hA768.ev rfl) (hA768.ev rfl) (i := 1) rfl (vs := [(Value.int .i64 a), (Value.int .i64 b)]) rfl rfl rfl (Nat.le_of_ble_eq_true rfl)) rfl rfl ?_
        intro _ w769 hS770 hA771; clear hA768
        have hS772 : Sep NoB w w769 [(rndR true (comp (vs712 1) 0) (comp (vs712 1) 1) (comp (vs712 1) 3) lv1_vs712 (movedD d ((m).tmod 500))), (blk b12_vs712 46 [(Value.int .i64 a), (Value.int .i64 b)]), (rndR true (comp (vs579 1) 0) (comp (vs579 1) 1) (comp (vs579 1) 3) lv1_ d), (blk b12_ 46 [(Value.int .i64 a), (Value.int .i64 b)]), (row u459 46 2 S2.length (pairs S2)), (row v452 3 1 ((chosenF d.tols.length x).length) (ints (chosenF d.tols.length x))), (rndR true vl438 vs439 vb440 lv441 (movedD d ((m).tmod 500))), (row u421 46 2 S1.length (pairs S1)), (row v414 3 1 ((chosenF d.tols.length x).length) (ints (chosenF d.tols.length x))), (rndR true vl400 vs401 vb402 lv403 d), (row v378 3 1 ((chosenF d.tols.length x).length) (ints (chosenF d.tols.length x))), (rndR true vl364 vs365 vb366 lv367 (movedD d ((m).tmod 500))), (row v342 3 1 ((chosenF d.tols.length x).length) (ints (chosenF d.tols.length x))), (rndR true vl328 vs329 vb330 lv331 d), (row v319 3 1 ((chosenF d.tols.length x).length) (ints (chosenF d.tols.length x))), (lstR lv_ (movedD d ((m).tmod 500)).rds), (row vb_ 62 2 d.tols.length (vpairs (d.tols.zip lv_))), (row vl_ 44 2 ((movedD d ((m).tmod 500)).lots.length) (pairs ((movedD d ((m).tmod 500)).lots))), (blk b39 26 [vl_, rs, (Value.int .i64 d.spread), vb_]), (blk b4 26 [rl, rs, (Value.int .i64 d.spread), rb]), (rndR false rl rs rb rlv d)] := hS770; clear hS770 hS765
        refine st hA771 (op_extract rfl (hA771.ev rfl) rfl) rfl rfl (by decide) fun a773 hA774 => ?_; clear hA771 a759
        refine st hA774 (op_assign rfl (hA774.ev rfl)) rfl rfl (by decide) fun a775 hA776 => ?_; clear hA774 a773
        refine wl_nil ?_
        refine then_n ?_
        refine c_seq ?_
        have hA777 := hA776.as [(29, (Value.int .i64 c2)), (28, (bptr b12_vs712 0)), (27, (Value.int .i64 c2)), (26, (bptr b12_ 0))] rfl; clear hA776
        refine c_region ?_
        refine st hA777 (op_move rfl (hA777.ev rfl)) rfl rfl (by decide) fun a778 hA779 => ?_; clear hA777 a775
        refine st hA779 (op_move rfl (hA779.ev rfl)) rfl rfl (by decide) fun a780 hA781 => ?_; clear hA779 a778
        refine st hA781 (op_eql rfl (hA781.ev rfl) (hA781.ev rfl)) rfl rfl (by decide) fun a782 hA783 => ?_; clear hA781 a780
        have hd784 : c2 = c2 := rfl
        rw [decide_eq_true hd784] at hA783
        refine st hA783 (op_move rfl (hA783.ev rfl)) rfl rfl (by decide) fun a785 hA786 => ?_; clear hA783 a782
        refine stg hA786 (op_loadA rfl ty_46 (hA786.ev rfl) (hS772.bk 3 rfl) (l := [(Value.int .i64 a), (Value.int .i64 b)]) rfl rfl) rfl rfl rfl rfl (by decide) fun a787 hA788 => ?_; clear hA786 a785
        refine stg hA788 (op_loadA rfl ty_46 (hA788.ev rfl) (hS772.bk 1 rfl) (l := [(Value.int .i64 a), (Value.int .i64 b)]) rfl rfl) rfl rfl rfl rfl (by decide) fun a789 hA790 => ?_; clear hA788 a787
        refine stg hA790 (op_eqlP tw_46 rfl (hA790.ev rfl) (hA790.ev rfl)) rfl rfl rfl rfl (by decide) fun a791 hA792 => ?_; clear hA790 a789
        have hd793 : (decide ((a : Int) = a) && decide ((b : Int) = b)) = true := by simp only [decide_true, Bool.and_self]
        rw [hd793] at hA792
        have hq794 := hd793; simp only [Bool.and_eq_true, Bool.and_eq_false_iff, decide_eq_true_eq, decide_eq_false_iff_not] at hq794
        refine st hA792 (op_pick_t rfl (hA792.ev rfl) (hA792.ev rfl)) rfl rfl (by decide) fun a795 hA796 => ?_; clear hA792 a791
        refine st hA796 (op_move rfl (hA796.ev rfl)) rfl rfl (by decide) fun a797 hA798 => ?_; clear hA796 a795
        refine stwg hA798 (op_call rfl en_18 ev0 (wakes_ok _)) rfl rfl rfl rfl (by decide) ?_
        rintro a799 _ w801 ⟨rfl, hE802⟩ hA800; have hS803 := hS772.step hE802; clear hE802 hA798 hS772 a797
        refine st hA800 (op_pick_t rfl (hA800.ev rfl) (hA800.ev rfl)) rfl rfl (by decide) fun a804 hA805 => ?_; clear hA800 a799
        refine st hA805 (op_assign rfl (hA805.ev rfl)) rfl rfl (by decide) fun a806 hA807 => ?_; clear hA805 a804
        refine wl_nil ?_
        refine then_n ?_
        refine c_ret ?_
        refine fin_run hA807 (.inl rfl) (run_results1 hA807 rfl (.tmp rfl)) ?_
        exact ⟨rfl, hS803.ext⟩
   ·skip
    rw [hb495] at hA494
    refine stg hA494 (op_move rfl (hA494.ev rfl)) rfl rfl rfl rfl (by decide) fun a808 hA809 => ?_; clear hA494 a493
    refine stg hA809 (op_move rfl (hA809.ev rfl)) rfl rfl rfl rfl (by decide) fun a810 hA811 => ?_; clear hA809 a808
    refine stg hA811 (op_neq rfl (hA811.ev rfl) (hA811.ev rfl)) rfl rfl rfl rfl (by decide) fun a812 hA813 => ?_; clear hA811 a810
    have hd814 : c = c := rfl
    rw [decide_eq_true hd814] at hA813
    refine st hA813 (op_pick_f rfl (hA813.ev rfl) (hA813.ev rfl)) rfl rfl (by decide) fun a815 hA816 => ?_; clear hA813 a812
    refine st hA816 (op_move rfl (hA816.ev rfl)) rfl rfl (by decide) fun a817 hA818 => ?_; clear hA816 a815
    refine stg hA818 (op_move rfl (hA818.ev rfl)) rfl rfl rfl rfl (by decide) fun a819 hA820 => ?_; clear hA818 a817
    refine stg hA820 (op_lenS rfl un_31 (hA820.ev rfl) (SlAt.of_row (hS458.ok_row 3 rfl))) rfl rfl rfl rfl (by decide) fun a821 hA822 => ?_; clear hA820 a819
    refine stg hA822 (op_move rfl (hA822.ev rfl)) rfl rfl rfl rfl (by decide) fun a823 hA824 => ?_; clear hA822 a821
    refine stg hA824 (op_lenS rfl un_31 (hA824.ev rfl) (SlAt.of_row (hS458.ok_row 0 rfl))) rfl rfl rfl rfl (by decide) fun a825 hA826 => ?_; clear hA824 a823
    refine stg hA826 (op_neq rfl (hA826.ev rfl) (hA826.ev rfl)) rfl rfl rfl rfl (by decide) fun a827 hA828 => ?_; clear hA826 a825
    have hd829 : (S1.length : Int) = (S2.length : Int) := (by omega)
    rw [decide_eq_true hd829] at hA828
    refine st hA828 (op_pick_f rfl (hA828.ev rfl) (hA828.ev rfl)) rfl rfl (by decide) fun a830 hA831 => ?_; clear hA828 a827
    refine wl_nil ?_
    refine then_n ?_
    refine c_false hA831 rfl ?_
    refine c_skip ?_
    refine then_n ?_
    refine c_seq ?_
    refine c_seq ?_
    have hA832 := hA831.as [(23, u459), (21, u421), (10, (bptr b39 0)), (9, (Value.int .i64 ((m).tmod 500))), (4, (bptr b4 0)), (2, (Value.int .u8 (y : Int)))] rfl; clear hA831
    refine c_region ?_
    refine st hA832 (op_assign rfl (evc _ _)) rfl rfl (by decide) fun a833 hA834 => ?_; clear hA832 a830
    refine wl_nil ?_
    refine then_n ?_
    refine c_block ?_
    have hA835 := hA834.as [(25, (Value.int .i64 0)), (23, u459), (21, u421), (10, (bptr b39 0)), (9, (Value.int .i64 ((m).tmod 500))), (4, (bptr b4 0)), (2, (Value.int .u8 (y : Int)))] rfl; clear hA834
    refine c_loop (G := Nat) (fun (k3 : Nat) a_ w_ => Fr 258 [] [(25, (Value.int .i64 (k3 : Int))), (23, u459), (21, u421), (10, (bptr b39 0)), (9, (Value.int .i64 ((m).tmod 500))), (4, (bptr b4 0)), (2, (Value.int .u8 (y : Int)))] a_ ∧ Sep NoB w w_ [(row u459 46 2 S2.length (pairs S2)), (row v452 3 1 ((chosenF d.tols.length x).length) (ints (chosenF d.tols.length x))), (rndR true vl438 vs439 vb440 lv441 (movedD d ((m).tmod 500))), (row u421 46 2 S1.length (pairs S1)), (row v414 3 1 ((chosenF d.tols.length x).length) (ints (chosenF d.tols.length x))), (rndR true vl400 vs401 vb402 lv403 d), (row v378 3 1 ((chosenF d.tols.length x).length) (ints (chosenF d.tols.length x))), (rndR true vl364 vs365 vb366 lv367 (movedD d ((m).tmod 500))), (row v342 3 1 ((chosenF d.tols.length x).length) (ints (chosenF d.tols.length x))), (rndR true vl328 vs329 vb330 lv331 d), (row v319 3 1 ((chosenF d.tols.length x).length) (ints (chosenF d.tols.length x))), (lstR lv_ (movedD d ((m).tmod 500)).rds), (row vb_ 62 2 d.tols.length (vpairs (d.tols.zip lv_))), (row vl_ 44 2 ((movedD d ((m).tmod 500)).lots.length) (pairs ((movedD d ((m).tmod 500)).lots))), (blk b39 26 [vl_, rs, (Value.int .i64 d.spread), vb_]), (blk b4 26 [rl, rs, (Value.int .i64 d.spread), rb]), (rndR false rl rs rb rlv d)] ∧ (k3 ≤ S1.length)) (fun k3 => S1.length - k3) 0 ⟨hA835.as _ rfl, hS458, by omega⟩ ?_
    clear hA835 hS458 a833
    rintro k3 a836 w838 ⟨hA837, hS839, hkk3⟩
    refine c_seq ?_
    refine c_seq ?_
    refine c_region ?_
    refine st hA837 (op_move rfl (hA837.ev rfl)) rfl rfl (by decide) fun a840 hA841 => ?_; clear hA837 a836
    refine st hA841 (op_move rfl (hA841.ev rfl)) rfl rfl (by decide) fun a842 hA843 => ?_; clear hA841 a840
    refine st hA843 (op_lenS rfl un_31 (hA843.ev rfl) (SlAt.of_row (hS839.ok_row 3 rfl))) rfl rfl (by decide) fun a844 hA845 => ?_; clear hA843 a842
    refine st hA845 (op_lss rfl (hA845.ev rfl) (hA845.ev rfl)) rfl rfl (by decide) fun a846 hA847 => ?_; clear hA845 a844
    refine wl_nil ?_
    refine then_n ?_
    by_cases hb848 : (k3 : Int) < (S1.length : Int)
    ·skip
     rw [decide_eq_true hb848] at hA847
     have hbk := hb k3 (by omega)
     refine c_true hA847 rfl ?_
     refine c_skip ?_
     refine then_n ?_
     refine c_seq ?_
     refine c_block ?_
     refine c_seq ?_
     have hA849 := hA847.as [(25, (Value.int .i64 (k3 : Int))), (23, u459), (21, u421), (10, (bptr b39 0)), (9, (Value.int .i64 ((m).tmod 500))), (4, (bptr b4 0)), (2, (Value.int .u8 (y : Int)))] rfl; clear hA847
     refine c_drawV mixed hA849 hS839 26 [[], [], [0, 1], [2], [3], [], [], [5, 6], [7], [8], [], [9, 10], [4, 11], [12], [13], [13], [13, 14, 15], [13, 16], [13, 17], [13], [13], [13, 19, 20], [13, 21], [13, 22], [13], [13, 23, 24]] [(fun (vs850 : Nat → Value) (v_ : Value) (rs_ : List Res) => v_ = u459 ∧ rs_ = []), (fun (vs850 : Nat → Value) (v_ : Value) (rs_ : List Res) => v_ = (Value.int .i64 (k3 : Int)) ∧ rs_ = []), (fun (vs850 : Nat → Value) (v_ : Value) (rs_ : List Res) => v_ = (eptr u459 (k3 * 2)) ∧ rs_ = []), (fun (vs850 : Nat → Value) (v_ : Value) (rs_ : List Res) => v_ = (eptr u459 (k3 * 2 + 0)) ∧ rs_ = []), (fun (vs850 : Nat → Value) (v_ : Value) (rs_ : List Res) => v_ = (Value.int .i64 ((S2.getD k3 (0, 0)).1)) ∧ rs_ = []), (fun (vs850 : Nat → Value) (v_ : Value) (rs_ : List Res) => v_ = u421 ∧ rs_ = []), (fun (vs850 : Nat → Value) (v_ : Value) (rs_ : List Res) => v_ = (Value.int .i64 (k3 : Int)) ∧ rs_ = []), (fun (vs850 : Nat → Value) (v_ : Value) (rs_ : List Res) => v_ = (eptr u421 (k3 * 2)) ∧ rs_ = []), (fun (vs850 : Nat → Value) (v_ : Value) (rs_ : List Res) => v_ = (eptr u421 (k3 * 2 + 0)) ∧ rs_ = []), (fun (vs850 : Nat → Value) (v_ : Value) (rs_ : List Res) => v_ = (Value.int .i64 ((S1.getD k3 (0, 0)).1)) ∧ rs_ = []), (fun (vs850 : Nat → Value) (v_ : Value) (rs_ : List Res) => v_ = (Value.int .i64 ((m).tmod 500)) ∧ rs_ = []), (fun (vs850 : Nat → Value) (v_ : Value) (rs_ : List Res) => v_ = (Value.int .i64 (((S1.getD k3 (0, 0)).1) + ((m).tmod 500))) ∧ rs_ = []), (fun (vs850 : Nat → Value) (v_ : Value) (rs_ : List Res) => v_ = (Value.bool (!true)) ∧ rs_ = []), (fun (vs850 : Nat → Value) (v_ : Value) (rs_ : List Res) => v_ = (Value.bool (!true)) ∧ rs_ = []), (fun (vs850 : Nat → Value) (v_ : Value) (rs_ : List Res) => v_ = u459 ∧ rs_ = []), (fun (vs850 : Nat → Value) (v_ : Value) (rs_ : List Res) => v_ = (Value.int .i64 (k3 : Int)) ∧ rs_ = []), (fun (vs850 : Nat → Value) (v_ : Value) (rs_ : List Res) => v_ = (eptr u459 (k3 * 2)) ∧ rs_ = []), (fun (vs850 : Nat → Value) (v_ : Value) (rs_ : List Res) => v_ = (eptr u459 (k3 * 2 + 1)) ∧ rs_ = []), (fun (vs850 : Nat → Value) (v_ : Value) (rs_ : List Res) => v_ = (Value.int .i64 ((S2.getD k3 (0, 0)).2)) ∧ rs_ = []), (fun (vs850 : Nat → Value) (v_ : Value) (rs_ : List Res) => v_ = u421 ∧ rs_ = []), (fun (vs850 : Nat → Value) (v_ : Value) (rs_ : List Res) => v_ = (Value.int .i64 (k3 : Int)) ∧ rs_ = []), (fun (vs850 : Nat → Value) (v_ : Value) (rs_ : List Res) => v_ = (eptr u421 (k3 * 2)) ∧ rs_ = []), (fun (vs850 : Nat → Value) (v_ : Value) (rs_ : List Res) => v_ = (eptr u421 (k3 * 2 + 1)) ∧ rs_ = []), (fun (vs850 : Nat → Value) (v_ : Value) (rs_ : List Res) => v_ = (Value.int .i64 ((S1.getD k3 (0, 0)).2)) ∧ rs_ = []), (fun (vs850 : Nat → Value) (v_ : Value) (rs_ : List Res) => v_ = (Value.int .i64 ((m).tmod 500)) ∧ rs_ = []), (fun (vs850 : Nat → Value) (v_ : Value) (rs_ : List Res) => v_ = (Value.int .i64 (((S1.getD k3 (0, 0)).2) + ((m).tmod 500))) ∧ rs_ = [])] (by decide +kernel) (by decide +kernel) rfl rfl ⟨(fun _ _ _ _ _ h_ => h_), (fun _ _ _ _ _ h_ => h_), (fun _ _ _ _ _ h_ => h_), (fun _ _ _ _ _ h_ => h_), (fun _ _ _ _ _ h_ => h_), (fun _ _ _ _ _ h_ => h_), (fun _ _ _ _ _ h_ => h_), (fun _ _ _ _ _ h_ => h_), (fun _ _ _ _ _ h_ => h_), (fun _ _ _ _ _ h_ => h_), (fun _ _ _ _ _ h_ => h_), (fun _ _ _ _ _ h_ => h_), (fun _ _ _ _ _ h_ => h_), (fun _ _ _ _ _ h_ => h_), (fun _ _ _ _ _ h_ => h_), (fun _ _ _ _ _ h_ => h_), (fun _ _ _ _ _ h_ => h_), (fun _ _ _ _ _ h_ => h_), (fun _ _ _ _ _ h_ => h_), (fun _ _ _ _ _ h_ => h_), (fun _ _ _ _ _ h_ => h_), (fun _ _ _ _ _ h_ => h_), (fun _ _ _ _ _ h_ => h_), (fun _ _ _ _ _ h_ => h_), (fun _ _ _ _ _ h_ => h_), (fun _ _ _ _ _ h_ => h_), trivial⟩ ?_ ?_
     ·skip
      refine ⟨fun a w vs850 hA hS hd => ?_, ?_⟩
      ·skip
       exact opG_of rfl (vv (op_move rfl (hA.ev rfl)) (And.intro rfl rfl))
      refine ⟨fun a w vs850 hA hS hd => ?_, ?_⟩
      ·skip
       exact opG_of rfl (vv (op_move rfl (hA.ev rfl)) (And.intro rfl rfl))
      refine ⟨fun a w vs850 hA hS hd => ?_, ?_⟩
      ·skip
       obtain ⟨e0, rs0, hy0, hp0⟩ := hd 0 (by decide)
       obtain ⟨hv0, hr0⟩ := hy0; subst hr0
       rw [hv0] at e0
       obtain ⟨e1, rs1, hy1, hp1⟩ := hd 1 (by decide)
       obtain ⟨hv1, hr1⟩ := hy1; subst hr1
       rw [hv1] at e1
       exact opG_of rfl (vv (op_indexS rfl un_31 ty_46 (tmp_ev (slot_ev e0 rfl)) (i := k3) (tmp_ev (slot_ev e1 rfl)) (SlAt.of_row (hS.ok_row 0 rfl)) (by decide) (by omega)) (And.intro rfl rfl))
      refine ⟨fun a w vs850 hA hS hd => ?_, ?_⟩
      ·skip
       obtain ⟨e2, rs2, hy2, hp2⟩ := hd 2 (by decide)
       obtain ⟨hv2, hr2⟩ := hy2; subst hr2
       rw [hv2] at e2
       exact opG_of rfl (vv (op_fieldS rfl fd_46_0 (tmp_ev (slot_ev e2 rfl)) (SlAt.of_row (hS.ok_row 0 rfl)) (by rw [((SlAt.of_row (hS.ok_row 0 rfl))).1]; omega)) (And.intro rfl rfl))
      refine ⟨fun a w vs850 hA hS hd => ?_, ?_⟩
      ·skip
       obtain ⟨e3, rs3, hy3, hp3⟩ := hd 3 (by decide)
       obtain ⟨hv3, hr3⟩ := hy3; subst hr3
       rw [hv3] at e3
       exact opG_of rfl (vv (op_load1E rfl ty_3 (tmp_ev (slot_ev e3 rfl)) (SlAt.of_row (hS.ok_row 0 rfl)) (pairs_at0 (by omega))) (And.intro rfl rfl))
      refine ⟨fun a w vs850 hA hS hd => ?_, ?_⟩
      ·skip
       exact opG_of rfl (vv (op_move rfl (hA.ev rfl)) (And.intro rfl rfl))
      refine ⟨fun a w vs850 hA hS hd => ?_, ?_⟩
      ·skip
       exact opG_of rfl (vv (op_move rfl (hA.ev rfl)) (And.intro rfl rfl))
      refine ⟨fun a w vs850 hA hS hd => ?_, ?_⟩
      ·skip
       obtain ⟨e5, rs5, hy5, hp5⟩ := hd 5 (by decide)
       obtain ⟨hv5, hr5⟩ := hy5; subst hr5
       rw [hv5] at e5
       obtain ⟨e6, rs6, hy6, hp6⟩ := hd 6 (by decide)
       obtain ⟨hv6, hr6⟩ := hy6; subst hr6
       rw [hv6] at e6
       exact opG_of rfl (vv (op_indexS rfl un_31 ty_46 (tmp_ev (slot_ev e5 rfl)) (i := k3) (tmp_ev (slot_ev e6 rfl)) (SlAt.of_row (hS.ok_row 3 rfl)) (by decide) (by omega)) (And.intro rfl rfl))
      refine ⟨fun a w vs850 hA hS hd => ?_, ?_⟩
      ·skip
       obtain ⟨e7, rs7, hy7, hp7⟩ := hd 7 (by decide)
       obtain ⟨hv7, hr7⟩ := hy7; subst hr7
       rw [hv7] at e7
       exact opG_of rfl (vv (op_fieldS rfl fd_46_0 (tmp_ev (slot_ev e7 rfl)) (SlAt.of_row (hS.ok_row 3 rfl)) (by rw [((SlAt.of_row (hS.ok_row 3 rfl))).1]; omega)) (And.intro rfl rfl))
      refine ⟨fun a w vs850 hA hS hd => ?_, ?_⟩
      ·skip
       obtain ⟨e8, rs8, hy8, hp8⟩ := hd 8 (by decide)
       obtain ⟨hv8, hr8⟩ := hy8; subst hr8
       rw [hv8] at e8
       exact opG_of rfl (vv (op_load1E rfl ty_3 (tmp_ev (slot_ev e8 rfl)) (SlAt.of_row (hS.ok_row 3 rfl)) (pairs_at0 (by omega))) (And.intro rfl rfl))
      refine ⟨fun a w vs850 hA hS hd => ?_, ?_⟩
      ·skip
       exact opG_of rfl (vv (op_move rfl (hA.ev rfl)) (And.intro rfl rfl))
      refine ⟨fun a w vs850 hA hS hd => ?_, ?_⟩
      ·skip
       obtain ⟨e9, rs9, hy9, hp9⟩ := hd 9 (by decide)
       obtain ⟨hv9, hr9⟩ := hy9; subst hr9
       rw [hv9] at e9
       obtain ⟨e10, rs10, hy10, hp10⟩ := hd 10 (by decide)
       obtain ⟨hv10, hr10⟩ := hy10; subst hr10
       rw [hv10] at e10
       exact opG_of rfl (vv (op_add rfl (tmp_ev (slot_ev e9 rfl)) (tmp_ev (slot_ev e10 rfl)) (by omega) (by omega)) (And.intro rfl rfl))
      refine ⟨fun a w vs850 hA hS hd => ?_, ?_⟩
      ·skip
       obtain ⟨e4, rs4, hy4, hp4⟩ := hd 4 (by decide)
       obtain ⟨hv4, hr4⟩ := hy4; subst hr4
       rw [hv4] at e4
       obtain ⟨e11, rs11, hy11, hp11⟩ := hd 11 (by decide)
       obtain ⟨hv11, hr11⟩ := hy11; subst hr11
       rw [hv11] at e11
       exact opG_of rfl (vv (op_neq rfl (tmp_ev (slot_ev e4 rfl)) (tmp_ev (slot_ev e11 rfl))) (And.intro (by show Value.bool _ = _; simp only [decide_eq_true (show ((S2.getD k3 (0, 0)).1) = (((S1.getD k3 (0, 0)).1) + ((m).tmod 500)) from (hb k3 (by omega)).2.1), decide_true, decide_false, Bool.not_true, Bool.not_false]) rfl))
      refine ⟨fun a w vs850 hA hS hd => ?_, ?_⟩
      ·skip
       obtain ⟨e12, rs12, hy12, hp12⟩ := hd 12 (by decide)
       obtain ⟨hv12, hr12⟩ := hy12; subst hr12
       rw [hv12] at e12
       exact opG_of rfl (vv (op_move rfl (tmp_ev (slot_ev e12 rfl))) (And.intro rfl rfl))
      refine ⟨fun a w vs850 hA hS hd => ?_, ?_⟩
      ·skip
       obtain ⟨e13, rs13, hy13, hp13⟩ := hd 13 (by decide)
       obtain ⟨hv13, hr13⟩ := hy13; subst hr13
       rw [hv13] at e13
       exact opG_yes rfl rfl (slot_ev e13 rfl) (vv (op_move rfl (hA.ev rfl)) (And.intro rfl rfl))
      refine ⟨fun a w vs850 hA hS hd => ?_, ?_⟩
      ·skip
       obtain ⟨e13, rs13, hy13, hp13⟩ := hd 13 (by decide)
       obtain ⟨hv13, hr13⟩ := hy13; subst hr13
       rw [hv13] at e13
       exact opG_yes rfl rfl (slot_ev e13 rfl) (vv (op_move rfl (hA.ev rfl)) (And.intro rfl rfl))
      refine ⟨fun a w vs850 hA hS hd => ?_, ?_⟩
      ·skip
       obtain ⟨e13, rs13, hy13, hp13⟩ := hd 13 (by decide)
       obtain ⟨hv13, hr13⟩ := hy13; subst hr13
       rw [hv13] at e13
       obtain ⟨e14, rs14, hy14, hp14⟩ := hd 14 (by decide)
       obtain ⟨hv14, hr14⟩ := hy14; subst hr14
       rw [hv14] at e14
       obtain ⟨e15, rs15, hy15, hp15⟩ := hd 15 (by decide)
       obtain ⟨hv15, hr15⟩ := hy15; subst hr15
       rw [hv15] at e15
       exact opG_yes rfl rfl (slot_ev e13 rfl) (vv (op_indexS rfl un_31 ty_46 (tmp_ev (slot_ev e14 rfl)) (i := k3) (tmp_ev (slot_ev e15 rfl)) (SlAt.of_row (hS.ok_row 0 rfl)) (by decide) (by omega)) (And.intro rfl rfl))
      refine ⟨fun a w vs850 hA hS hd => ?_, ?_⟩
      ·skip
       obtain ⟨e13, rs13, hy13, hp13⟩ := hd 13 (by decide)
       obtain ⟨hv13, hr13⟩ := hy13; subst hr13
       rw [hv13] at e13
       obtain ⟨e16, rs16, hy16, hp16⟩ := hd 16 (by decide)
       obtain ⟨hv16, hr16⟩ := hy16; subst hr16
       rw [hv16] at e16
       exact opG_yes rfl rfl (slot_ev e13 rfl) (vv (op_fieldS rfl fd_46_1 (tmp_ev (slot_ev e16 rfl)) (SlAt.of_row (hS.ok_row 0 rfl)) (by rw [((SlAt.of_row (hS.ok_row 0 rfl))).1]; omega)) (And.intro rfl rfl))
      refine ⟨fun a w vs850 hA hS hd => ?_, ?_⟩
      ·skip
       obtain ⟨e13, rs13, hy13, hp13⟩ := hd 13 (by decide)
       obtain ⟨hv13, hr13⟩ := hy13; subst hr13
       rw [hv13] at e13
       obtain ⟨e17, rs17, hy17, hp17⟩ := hd 17 (by decide)
       obtain ⟨hv17, hr17⟩ := hy17; subst hr17
       rw [hv17] at e17
       exact opG_yes rfl rfl (slot_ev e13 rfl) (vv (op_load1E rfl ty_3 (tmp_ev (slot_ev e17 rfl)) (SlAt.of_row (hS.ok_row 0 rfl)) (pairs_at1 (by omega))) (And.intro rfl rfl))
      refine ⟨fun a w vs850 hA hS hd => ?_, ?_⟩
      ·skip
       obtain ⟨e13, rs13, hy13, hp13⟩ := hd 13 (by decide)
       obtain ⟨hv13, hr13⟩ := hy13; subst hr13
       rw [hv13] at e13
       exact opG_yes rfl rfl (slot_ev e13 rfl) (vv (op_move rfl (hA.ev rfl)) (And.intro rfl rfl))
      refine ⟨fun a w vs850 hA hS hd => ?_, ?_⟩
      ·skip
       obtain ⟨e13, rs13, hy13, hp13⟩ := hd 13 (by decide)
       obtain ⟨hv13, hr13⟩ := hy13; subst hr13
       rw [hv13] at e13
       exact opG_yes rfl rfl (slot_ev e13 rfl) (vv (op_move rfl (hA.ev rfl)) (And.intro rfl rfl))
      refine ⟨fun a w vs850 hA hS hd => ?_, ?_⟩
      ·skip
       obtain ⟨e13, rs13, hy13, hp13⟩ := hd 13 (by decide)
       obtain ⟨hv13, hr13⟩ := hy13; subst hr13
       rw [hv13] at e13
       obtain ⟨e19, rs19, hy19, hp19⟩ := hd 19 (by decide)
       obtain ⟨hv19, hr19⟩ := hy19; subst hr19
       rw [hv19] at e19
       obtain ⟨e20, rs20, hy20, hp20⟩ := hd 20 (by decide)
       obtain ⟨hv20, hr20⟩ := hy20; subst hr20
       rw [hv20] at e20
       exact opG_yes rfl rfl (slot_ev e13 rfl) (vv (op_indexS rfl un_31 ty_46 (tmp_ev (slot_ev e19 rfl)) (i := k3) (tmp_ev (slot_ev e20 rfl)) (SlAt.of_row (hS.ok_row 3 rfl)) (by decide) (by omega)) (And.intro rfl rfl))
      refine ⟨fun a w vs850 hA hS hd => ?_, ?_⟩
      ·skip
       obtain ⟨e13, rs13, hy13, hp13⟩ := hd 13 (by decide)
       obtain ⟨hv13, hr13⟩ := hy13; subst hr13
       rw [hv13] at e13
       obtain ⟨e21, rs21, hy21, hp21⟩ := hd 21 (by decide)
       obtain ⟨hv21, hr21⟩ := hy21; subst hr21
       rw [hv21] at e21
       exact opG_yes rfl rfl (slot_ev e13 rfl) (vv (op_fieldS rfl fd_46_1 (tmp_ev (slot_ev e21 rfl)) (SlAt.of_row (hS.ok_row 3 rfl)) (by rw [((SlAt.of_row (hS.ok_row 3 rfl))).1]; omega)) (And.intro rfl rfl))
      refine ⟨fun a w vs850 hA hS hd => ?_, ?_⟩
      ·skip
       obtain ⟨e13, rs13, hy13, hp13⟩ := hd 13 (by decide)
       obtain ⟨hv13, hr13⟩ := hy13; subst hr13
       rw [hv13] at e13
       obtain ⟨e22, rs22, hy22, hp22⟩ := hd 22 (by decide)
       obtain ⟨hv22, hr22⟩ := hy22; subst hr22
       rw [hv22] at e22
       exact opG_yes rfl rfl (slot_ev e13 rfl) (vv (op_load1E rfl ty_3 (tmp_ev (slot_ev e22 rfl)) (SlAt.of_row (hS.ok_row 3 rfl)) (pairs_at1 (by omega))) (And.intro rfl rfl))
      refine ⟨fun a w vs850 hA hS hd => ?_, ?_⟩
      ·skip
       obtain ⟨e13, rs13, hy13, hp13⟩ := hd 13 (by decide)
       obtain ⟨hv13, hr13⟩ := hy13; subst hr13
       rw [hv13] at e13
       exact opG_yes rfl rfl (slot_ev e13 rfl) (vv (op_move rfl (hA.ev rfl)) (And.intro rfl rfl))
      refine ⟨fun a w vs850 hA hS hd => ?_, ?_⟩
      ·skip
       obtain ⟨e13, rs13, hy13, hp13⟩ := hd 13 (by decide)
       obtain ⟨hv13, hr13⟩ := hy13; subst hr13
       rw [hv13] at e13
       obtain ⟨e23, rs23, hy23, hp23⟩ := hd 23 (by decide)
       obtain ⟨hv23, hr23⟩ := hy23; subst hr23
       rw [hv23] at e23
       obtain ⟨e24, rs24, hy24, hp24⟩ := hd 24 (by decide)
       obtain ⟨hv24, hr24⟩ := hy24; subst hr24
       rw [hv24] at e24
       exact opG_yes rfl rfl (slot_ev e13 rfl) (vv (op_add rfl (tmp_ev (slot_ev e23 rfl)) (tmp_ev (slot_ev e24 rfl)) (by omega) (by omega)) (And.intro rfl rfl))
      trivial
     intro a851 w852 vs850 rsf856 hA853 hH855 hS854; clear hA849 hS839
     obtain ⟨hs_0, hy_0⟩ := hH855 0 (by decide)
     obtain ⟨hv_0, hr_0⟩ := hy_0
     obtain ⟨hs_1, hy_1⟩ := hH855 1 (by decide)
     obtain ⟨hv_1, hr_1⟩ := hy_1
     obtain ⟨hs_2, hy_2⟩ := hH855 2 (by decide)
     obtain ⟨hv_2, hr_2⟩ := hy_2
     obtain ⟨hs_3, hy_3⟩ := hH855 3 (by decide)
     obtain ⟨hv_3, hr_3⟩ := hy_3
     obtain ⟨hs_4, hy_4⟩ := hH855 4 (by decide)
     obtain ⟨hv_4, hr_4⟩ := hy_4
     obtain ⟨hs_5, hy_5⟩ := hH855 5 (by decide)
     obtain ⟨hv_5, hr_5⟩ := hy_5
     obtain ⟨hs_6, hy_6⟩ := hH855 6 (by decide)
     obtain ⟨hv_6, hr_6⟩ := hy_6
     obtain ⟨hs_7, hy_7⟩ := hH855 7 (by decide)
     obtain ⟨hv_7, hr_7⟩ := hy_7
     obtain ⟨hs_8, hy_8⟩ := hH855 8 (by decide)
     obtain ⟨hv_8, hr_8⟩ := hy_8
     obtain ⟨hs_9, hy_9⟩ := hH855 9 (by decide)
     obtain ⟨hv_9, hr_9⟩ := hy_9
     obtain ⟨hs_10, hy_10⟩ := hH855 10 (by decide)
     obtain ⟨hv_10, hr_10⟩ := hy_10
     obtain ⟨hs_11, hy_11⟩ := hH855 11 (by decide)
     obtain ⟨hv_11, hr_11⟩ := hy_11
     obtain ⟨hs_12, hy_12⟩ := hH855 12 (by decide)
     obtain ⟨hv_12, hr_12⟩ := hy_12
     obtain ⟨hs_13, hy_13⟩ := hH855 13 (by decide)
     obtain ⟨hv_13, hr_13⟩ := hy_13
     obtain ⟨hs_14, hy_14⟩ := hH855 14 (by decide)
     obtain ⟨hv_14, hr_14⟩ := hy_14
     obtain ⟨hs_15, hy_15⟩ := hH855 15 (by decide)
     obtain ⟨hv_15, hr_15⟩ := hy_15
     obtain ⟨hs_16, hy_16⟩ := hH855 16 (by decide)
     obtain ⟨hv_16, hr_16⟩ := hy_16
     obtain ⟨hs_17, hy_17⟩ := hH855 17 (by decide)
     obtain ⟨hv_17, hr_17⟩ := hy_17
     obtain ⟨hs_18, hy_18⟩ := hH855 18 (by decide)
     obtain ⟨hv_18, hr_18⟩ := hy_18
     obtain ⟨hs_19, hy_19⟩ := hH855 19 (by decide)
     obtain ⟨hv_19, hr_19⟩ := hy_19
     obtain ⟨hs_20, hy_20⟩ := hH855 20 (by decide)
     obtain ⟨hv_20, hr_20⟩ := hy_20
     obtain ⟨hs_21, hy_21⟩ := hH855 21 (by decide)
     obtain ⟨hv_21, hr_21⟩ := hy_21
     obtain ⟨hs_22, hy_22⟩ := hH855 22 (by decide)
     obtain ⟨hv_22, hr_22⟩ := hy_22
     obtain ⟨hs_23, hy_23⟩ := hH855 23 (by decide)
     obtain ⟨hv_23, hr_23⟩ := hy_23
     obtain ⟨hs_24, hy_24⟩ := hH855 24 (by decide)
     obtain ⟨hv_24, hr_24⟩ := hy_24
     obtain ⟨hs_25, hy_25⟩ := hH855 25 (by decide)
     obtain ⟨hv_25, hr_25⟩ := hy_25
     have hS857 : Sep NoB w w852 [(row u459 46 2 S2.length (pairs S2)), (row v452 3 1 ((chosenF d.tols.length x).length) (ints (chosenF d.tols.length x))), (rndR true vl438 vs439 vb440 lv441 (movedD d ((m).tmod 500))), (row u421 46 2 S1.length (pairs S1)), (row v414 3 1 ((chosenF d.tols.length x).length) (ints (chosenF d.tols.length x))), (rndR true vl400 vs401 vb402 lv403 d), (row v378 3 1 ((chosenF d.tols.length x).length) (ints (chosenF d.tols.length x))), (rndR true vl364 vs365 vb366 lv367 (movedD d ((m).tmod 500))), (row v342 3 1 ((chosenF d.tols.length x).length) (ints (chosenF d.tols.length x))), (rndR true vl328 vs329 vb330 lv331 d), (row v319 3 1 ((chosenF d.tols.length x).length) (ints (chosenF d.tols.length x))), (lstR lv_ (movedD d ((m).tmod 500)).rds), (row vb_ 62 2 d.tols.length (vpairs (d.tols.zip lv_))), (row vl_ 44 2 ((movedD d ((m).tmod 500)).lots.length) (pairs ((movedD d ((m).tmod 500)).lots))), (blk b39 26 [vl_, rs, (Value.int .i64 d.spread), vb_]), (blk b4 26 [rl, rs, (Value.int .i64 d.spread), rb]), (rndR false rl rs rb rlv d)] := by rw [show catR rsf856 0 26 = ([] : List Res) by (try simp only [catR, hr_0, hr_1, hr_2, hr_3, hr_4, hr_5, hr_6, hr_7, hr_8, hr_9, hr_10, hr_11, hr_12, hr_13, hr_14, hr_15, hr_16, hr_17, hr_18, hr_19, hr_20, hr_21, hr_22, hr_23, hr_24, hr_25]); (try rfl)] at hS854; exact hS854
     rw [hv_13] at hs_13
     have hA858 : Fr 258 [] [(203, (Value.bool (!true))), (25, (Value.int .i64 (k3 : Int))), (23, u459), (21, u421), (10, (bptr b39 0)), (9, (Value.int .i64 ((m).tmod 500))), (4, (bptr b4 0)), (2, (Value.int .u8 (y : Int)))] a851 := hA853.add (slot_ev hs_13 rfl); clear hA853
     rw [hv_18] at hs_18
     have hA859 : Fr 258 [] [(208, (Value.int .i64 ((S2.getD k3 (0, 0)).2))), (203, (Value.bool (!true))), (25, (Value.int .i64 (k3 : Int))), (23, u459), (21, u421), (10, (bptr b39 0)), (9, (Value.int .i64 ((m).tmod 500))), (4, (bptr b4 0)), (2, (Value.int .u8 (y : Int)))] a851 := hA858.add (slot_ev hs_18 rfl); clear hA858
     rw [hv_25] at hs_25
     have hA860 : Fr 258 [] [(215, (Value.int .i64 (((S1.getD k3 (0, 0)).2) + ((m).tmod 500)))), (208, (Value.int .i64 ((S2.getD k3 (0, 0)).2))), (203, (Value.bool (!true))), (25, (Value.int .i64 (k3 : Int))), (23, u459), (21, u421), (10, (bptr b39 0)), (9, (Value.int .i64 ((m).tmod 500))), (4, (bptr b4 0)), (2, (Value.int .u8 (y : Int)))] a851 := hA859.add (slot_ev hs_25 rfl); clear hA859
     clear hH855 hS854 hs_0 hs_1 hs_2 hs_3 hs_4 hs_5 hs_6 hs_7 hs_8 hs_9 hs_10 hs_11 hs_12 hs_13 hs_14 hs_15 hs_16 hs_17 hs_18 hs_19 hs_20 hs_21 hs_22 hs_23 hs_24 hs_25
     clear hr_0
     clear hv_0
     clear hr_1
     clear hv_1
     clear hr_2
     clear hv_2
     clear hr_3
     clear hv_3
     clear hr_4
     clear hv_4
     clear hr_5
     clear hv_5
     clear hr_6
     clear hv_6
     clear hr_7
     clear hv_7
     clear hr_8
     clear hv_8
     clear hr_9
     clear hv_9
     clear hr_10
     clear hv_10
     clear hr_11
     clear hv_11
     clear hr_12
     clear hv_12
     clear hr_13
     clear hv_13
     clear hr_14
     clear hv_14
     clear hr_15
     clear hv_15
     clear hr_16
     clear hv_16
     clear hr_17
     clear hv_17
     clear hr_18
     clear hv_18
     clear hr_19
     clear hv_19
     clear hr_20
     clear hv_20
     clear hr_21
     clear hv_21
     clear hr_22
     clear hv_22
     clear hr_23
     clear hv_23
     clear hr_24
     clear hv_24
     clear hr_25
     clear hv_25
     refine stg hA860 (op_neq rfl (hA860.ev rfl) (hA860.ev rfl)) rfl rfl rfl rfl (by decide) fun a861 hA862 => ?_; clear hA860 a851
     have hd863 : ((S2.getD k3 (0, 0)).2) = (((S1.getD k3 (0, 0)).2) + ((m).tmod 500)) := (hb k3 (by omega)).2.2
     rw [decide_eq_true hd863] at hA862
     refine st hA862 (op_pick_f rfl (hA862.ev rfl) (hA862.ev rfl)) rfl rfl (by decide) fun a864 hA865 => ?_; clear hA862 a861
     refine wl_nil ?_
     refine then_n ?_
     refine c_false hA865 rfl ?_
     refine c_skip ?_
     refine blk_n ?_
     refine then_n ?_
     refine c_region ?_
     refine st hA865 (op_move rfl (hA865.ev rfl)) rfl rfl (by decide) fun a866 hA867 => ?_; clear hA865 a864
     refine st hA867 (op_add rfl (hA867.ev rfl) (evc _ _) (by omega) (by omega)) rfl rfl (by decide) fun a868 hA869 => ?_; clear hA867 a866
     refine st hA869 (op_assign rfl (hA869.ev rfl)) rfl rfl (by decide) fun a870 hA871 => ?_; clear hA869 a868
     refine wl_nil ?_
     exact then_n ⟨k3 + 1, ⟨hA871.as _ rfl, hS857, by omega⟩, by omega⟩
    ·skip
     rw [decide_eq_false hb848] at hA847
     refine c_false hA847 rfl ?_
     refine c_exit ?_
     refine then_exit ?_
     refine then_exit ?_
     refine blk_hit ?_
     refine then_n ?_
     refine c_seq ?_
     refine c_seq ?_
     have hA872 := hA847.as [(10, (bptr b39 0)), (4, (bptr b4 0)), (2, (Value.int .u8 (y : Int)))] rfl; clear hA847
     refine c_region ?_
     refine st hA872 (op_field rfl fd_26_3 (hA872.ev rfl)) rfl rfl (by decide) fun a873 hA874 => ?_; clear hA872 a846
     refine st hA874 (op_load1 rfl ty_24 (hA874.ev rfl) (hS839.bk 15 rfl) rfl) rfl rfl (by decide) fun a875 hA876 => ?_; clear hA874 a873
     refine st hA876 (op_lenS rfl un_24 (hA876.ev rfl) (rnd_at (hS839.ok 16 _ rfl)).labs) rfl rfl (by decide) fun a877 hA878 => ?_; clear hA876 a875
     refine st hA878 (op_eql rfl (hA878.ev rfl) (evc _ _)) rfl rfl (by decide) fun a879 hA880 => ?_; clear hA878 a877
     refine wl_nil ?_
     refine then_n ?_
     by_cases hb881 : (d.tols.length : Int) = 0
     ·skip
      rw [decide_eq_true hb881] at hA880
      refine c_true hA880 rfl ?_
      refine c_seq ?_
      have hA882 := hA880.as [] rfl; clear hA880
      refine c_region ?_
      refine stw hA882 (op_call rfl en_18 ev0 (wakes_ok _)) rfl rfl (by decide) ?_
      rintro a883 _ w885 ⟨rfl, hE886⟩ hA884; have hS887 := hS839.step hE886; clear hE886 hA882 hS839 a879
      refine st hA884 (op_assign rfl (hA884.ev rfl)) rfl rfl (by decide) fun a888 hA889 => ?_; clear hA884 a883
      refine wl_nil ?_
      refine then_n ?_
      refine c_ret ?_
      refine then_ret ?_
      refine fin_run hA889 (.inl rfl) (run_results1 hA889 rfl (.tmp rfl)) ?_
      exact ⟨rfl, hS887.ext⟩
     ·skip
      rw [decide_eq_false hb881] at hA880
      refine c_false hA880 rfl ?_
      refine c_skip ?_
      refine then_n ?_
      refine c_seq ?_
      have hA890 := hA880.as [(10, (bptr b39 0)), (4, (bptr b4 0)), (2, (Value.int .u8 (y : Int)))] rfl; clear hA880
      refine c_drawF mixed hA890 hS839 13 11 rfl rfl [[], [0], [], [2], [], [4], [5], [3, 6], [1, 7], [8], [9], [9], []] [(fun (vs891 : Nat → Value) (v_ : Value) (rs_ : List Res) => v_ = (Value.agg #[rl, rs, (Value.int .i64 d.spread), rb]) ∧ rs_ = []), (fun (vs891 : Nat → Value) (v_ : Value) (rs_ : List Res) => ∃ (lv1_ : List Value), v_ = (Value.agg #[(comp v_ 0), (comp v_ 1), (Value.int .i64 d.spread), (comp v_ 3)]) ∧ rs_ = [(rndR true (comp v_ 0) (comp v_ 1) (comp v_ 3) lv1_ d)]), (fun (vs891 : Nat → Value) (v_ : Value) (rs_ : List Res) => v_ = (Value.int .u8 (y : Int)) ∧ rs_ = []), (fun (vs891 : Nat → Value) (v_ : Value) (rs_ : List Res) => v_ = (Value.int .i64 (y : Int)) ∧ rs_ = []), (fun (vs891 : Nat → Value) (v_ : Value) (rs_ : List Res) => v_ = (bptr b4 3) ∧ rs_ = []), (fun (vs891 : Nat → Value) (v_ : Value) (rs_ : List Res) => v_ = rb ∧ rs_ = []), (fun (vs891 : Nat → Value) (v_ : Value) (rs_ : List Res) => v_ = (Value.int .i64 (d.tols.length : Int)) ∧ rs_ = []), (fun (vs891 : Nat → Value) (v_ : Value) (rs_ : List Res) => v_ = (Value.int .i64 (((y : Int)).tmod (d.tols.length : Int))) ∧ rs_ = []), (fun (vs891 : Nat → Value) (v_ : Value) (rs_ : List Res) => v_ = (Value.tuple #[(Value.agg #[(Value.int .i64 a), (Value.int .i64 b)]), (Value.int .i64 c2)]) ∧ rs_ = []), (fun (vs891 : Nat → Value) (v_ : Value) (rs_ : List Res) => v_ = (Value.tuple #[(Value.agg #[(Value.int .i64 a), (Value.int .i64 b)]), (Value.int .i64 c2)]) ∧ rs_ = []), (fun (vs891 : Nat → Value) (v_ : Value) (rs_ : List Res) => v_ = (Value.agg #[(Value.int .i64 a), (Value.int .i64 b)]) ∧ rs_ = []), (fun (vs891 : Nat → Value) (v_ : Value) (rs_ : List Res) => v_ = (Value.int .i64 c2) ∧ rs_ = []), (fun (vs891 : Nat → Value) (v_ : Value) (rs_ : List Res) => ∃ (b12_ : Nat), v_ = (bptr b12_ 0) ∧ rs_ = [(blk b12_ 46 [(Value.int .i64 0), (Value.int .i64 0)])])] (by decide +kernel) (by decide +kernel) (by decide +kernel) rfl rfl ⟨(fun _ _ _ _ _ h_ => h_), (fun _ _ _ _ _ h_ => h_), (fun _ _ _ _ _ h_ => h_), (fun _ _ _ _ _ h_ => h_), (fun _ _ _ _ _ h_ => h_), (fun _ _ _ _ _ h_ => h_), (fun _ _ _ _ _ h_ => h_), (fun _ _ _ _ _ h_ => h_), (fun _ _ _ _ _ h_ => h_), (fun _ _ _ _ _ h_ => h_), (fun _ _ _ _ _ h_ => h_), (fun _ _ _ _ _ h_ => h_), (fun _ _ _ _ _ h_ => h_), trivial⟩ ?_ ?_ ?_
      ·skip
       refine ⟨fun a w vs891 hA hS hd => ?_, ?_⟩
       ·skip
        exact opG_of rfl (vv (op_loadA rfl ty_26 (hA.ev rfl) (hS.bk 15 rfl) (l := [rl, rs, (Value.int .i64 d.spread), rb]) rfl rfl) (And.intro rfl rfl))
       refine ⟨fun a w vs891 hA hS hd => ?_, ?_⟩
       ·skip
        obtain ⟨e0, rs0, hy0, hp0⟩ := hd 0 (by decide)
        obtain ⟨hv0, hr0⟩ := hy0; subst hr0
        rw [hv0] at e0
        exact opG_of rfl (vn (op_call rfl en_20 (ev1 (tmp_ev (slot_ev e0 rfl))) (Round_ok rl rs rb rlv d _ (rnd_at (hS.ok 16 _ rfl)) hth)) (fun v w' h => by obtain ⟨vl, vs, vb, lv, rfl, hT⟩ := h; exact ⟨_, ⟨lv, rfl, rfl⟩, hT, rfl⟩))
       refine ⟨fun a w vs891 hA hS hd => ?_, ?_⟩
       ·skip
        exact opG_of rfl (vv (op_move rfl (hA.ev rfl)) (And.intro rfl rfl))
       refine ⟨fun a w vs891 hA hS hd => ?_, ?_⟩
       ·skip
        obtain ⟨e2, rs2, hy2, hp2⟩ := hd 2 (by decide)
        obtain ⟨hv2, hr2⟩ := hy2; subst hr2
        rw [hv2] at e2
        exact opG_of rfl (vv (op_conv un_5 un_3 rfl (tmp_ev (slot_ev e2 rfl)) (v := (y : Int)) (wrap_i64 (by omega) (by omega))) (And.intro rfl rfl))
       refine ⟨fun a w vs891 hA hS hd => ?_, ?_⟩
       ·skip
        exact opG_of rfl (vv (op_field rfl fd_26_3 (hA.ev rfl)) (And.intro rfl rfl))
       refine ⟨fun a w vs891 hA hS hd => ?_, ?_⟩
       ·skip
        obtain ⟨e4, rs4, hy4, hp4⟩ := hd 4 (by decide)
        obtain ⟨hv4, hr4⟩ := hy4; subst hr4
        rw [hv4] at e4
        exact opG_of rfl (vv (op_load1 rfl ty_24 (tmp_ev (slot_ev e4 rfl)) (hS.bk 15 rfl) rfl) (And.intro rfl rfl))
       refine ⟨fun a w vs891 hA hS hd => ?_, ?_⟩
       ·skip
        obtain ⟨e5, rs5, hy5, hp5⟩ := hd 5 (by decide)
        obtain ⟨hv5, hr5⟩ := hy5; subst hr5
        rw [hv5] at e5
        exact opG_of rfl (vv (op_lenS rfl un_24 (tmp_ev (slot_ev e5 rfl)) (rnd_at (hS.ok 16 _ rfl)).labs) (And.intro rfl rfl))
       refine ⟨fun a w vs891 hA hS hd => ?_, ?_⟩
       ·skip
        obtain ⟨e3, rs3, hy3, hp3⟩ := hd 3 (by decide)
        obtain ⟨hv3, hr3⟩ := hy3; subst hr3
        rw [hv3] at e3
        obtain ⟨e6, rs6, hy6, hp6⟩ := hd 6 (by decide)
        obtain ⟨hv6, hr6⟩ := hy6; subst hr6
        rw [hv6] at e6
        exact opG_of rfl (vv (op_rem rfl (tmp_ev (slot_ev e3 rfl)) (tmp_ev (slot_ev e6 rfl)) (by omega)) (And.intro rfl rfl))
       refine ⟨fun a w vs891 hA hS hd => ?_, ?_⟩
       ·skip
        obtain ⟨e1, rs1, hy1, hp1⟩ := hd 1 (by decide)
        obtain ⟨lv1_, hv1, hr1⟩ := hy1; subst hr1
        rw [hv1] at e1
        have hp1_0 := hp1 _ (List.mem_of_getElem? (i := 0) rfl)
        obtain ⟨e7, rs7, hy7, hp7⟩ := hd 7 (by decide)
        obtain ⟨hv7, hr7⟩ := hy7; subst hr7
        rw [hv7] at e7
        exact opG_of rfl (vx (op_call rfl en_32 (ev2 (tmp_ev (slot_ev e1 rfl)) (tmp_ev (slot_ev e7 rfl))) (by have h := (shifts_fn (comp (vs891 1) 0) (comp (vs891 1) 1) (comp (vs891 1) 3) lv1_ d _ (rnd_at hp1_0) (((y : Int)).tmod (d.tols.length : Int))); rw [hz] at h; exact h)) (And.intro rfl rfl))
       refine ⟨fun a w vs891 hA hS hd => ?_, ?_⟩
       ·skip
        obtain ⟨e8, rs8, hy8, hp8⟩ := hd 8 (by decide)
        obtain ⟨hv8, hr8⟩ := hy8; subst hr8
        rw [hv8] at e8
        exact opG_of rfl (vv (op_move rfl (tmp_ev (slot_ev e8 rfl))) (And.intro rfl rfl))
       refine ⟨fun a w vs891 hA hS hd => ?_, ?_⟩
       ·skip
        obtain ⟨e9, rs9, hy9, hp9⟩ := hd 9 (by decide)
        obtain ⟨hv9, hr9⟩ := hy9; subst hr9
        rw [hv9] at e9
        exact opG_of rfl (vv (op_extract rfl (tmp_ev (slot_ev e9 rfl)) rfl) (And.intro rfl rfl))
       refine ⟨fun a w vs891 hA hS hd => ?_, ?_⟩
       ·skip
        obtain ⟨e9, rs9, hy9, hp9⟩ := hd 9 (by decide)
        obtain ⟨hv9, hr9⟩ := hy9; subst hr9
        rw [hv9] at e9
        exact opG_of rfl (vv (op_extract rfl (tmp_ev (slot_ev e9 rfl)) rfl) (And.intro rfl rfl))
       refine ⟨fun a w vs891 hA hS hd => ?_, ?_⟩
       ·skip
        exact opG_of rfl (valloc rfl ze_46 (cs := [(Value.int .i64 0), (Value.int .i64 0)]) rfl (fun b_ => ⟨b_, rfl, rfl⟩))
       trivial
      ·skip
       intro a892 w893 vs891 rsf897 hA894 hH896 hS895; clear hA890 hS839
       obtain ⟨hs_0, hy_0⟩ := hH896 0 (by decide)
       obtain ⟨hv_0, hr_0⟩ := hy_0
       obtain ⟨hs_1, hy_1⟩ := hH896 1 (by decide)
       obtain ⟨lv1_, hv_1, hr_1⟩ := hy_1
       obtain ⟨hs_2, hy_2⟩ := hH896 2 (by decide)
       obtain ⟨hv_2, hr_2⟩ := hy_2
       obtain ⟨hs_3, hy_3⟩ := hH896 3 (by decide)
       obtain ⟨hv_3, hr_3⟩ := hy_3
       obtain ⟨hs_4, hy_4⟩ := hH896 4 (by decide)
       obtain ⟨hv_4, hr_4⟩ := hy_4
       obtain ⟨hs_5, hy_5⟩ := hH896 5 (by decide)
       obtain ⟨hv_5, hr_5⟩ := hy_5
       obtain ⟨hs_6, hy_6⟩ := hH896 6 (by decide)
       obtain ⟨hv_6, hr_6⟩ := hy_6
       obtain ⟨hs_7, hy_7⟩ := hH896 7 (by decide)
       obtain ⟨hv_7, hr_7⟩ := hy_7
       obtain ⟨hs_8, hy_8⟩ := hH896 8 (by decide)
       obtain ⟨hv_8, hr_8⟩ := hy_8
       obtain ⟨hs_9, hy_9⟩ := hH896 9 (by decide)
       obtain ⟨hv_9, hr_9⟩ := hy_9
       obtain ⟨hs_10, hy_10⟩ := hH896 10 (by decide)
       obtain ⟨hv_10, hr_10⟩ := hy_10
       obtain ⟨hs_11, hy_11⟩ := hH896 11 (by decide)
       obtain ⟨hv_11, hr_11⟩ := hy_11
       obtain ⟨hs_12, hy_12⟩ := hH896 12 (by decide)
       obtain ⟨b12_, hv_12, hr_12⟩ := hy_12
       have hS898 : Sep NoB w w893 [(rndR true (comp (vs891 1) 0) (comp (vs891 1) 1) (comp (vs891 1) 3) lv1_ d), (blk b12_ 46 [(Value.int .i64 0), (Value.int .i64 0)]), (row u459 46 2 S2.length (pairs S2)), (row v452 3 1 ((chosenF d.tols.length x).length) (ints (chosenF d.tols.length x))), (rndR true vl438 vs439 vb440 lv441 (movedD d ((m).tmod 500))), (row u421 46 2 S1.length (pairs S1)), (row v414 3 1 ((chosenF d.tols.length x).length) (ints (chosenF d.tols.length x))), (rndR true vl400 vs401 vb402 lv403 d), (row v378 3 1 ((chosenF d.tols.length x).length) (ints (chosenF d.tols.length x))), (rndR true vl364 vs365 vb366 lv367 (movedD d ((m).tmod 500))), (row v342 3 1 ((chosenF d.tols.length x).length) (ints (chosenF d.tols.length x))), (rndR true vl328 vs329 vb330 lv331 d), (row v319 3 1 ((chosenF d.tols.length x).length) (ints (chosenF d.tols.length x))), (lstR lv_ (movedD d ((m).tmod 500)).rds), (row vb_ 62 2 d.tols.length (vpairs (d.tols.zip lv_))), (row vl_ 44 2 ((movedD d ((m).tmod 500)).lots.length) (pairs ((movedD d ((m).tmod 500)).lots))), (blk b39 26 [vl_, rs, (Value.int .i64 d.spread), vb_]), (blk b4 26 [rl, rs, (Value.int .i64 d.spread), rb]), (rndR false rl rs rb rlv d)] := by rw [show catR rsf897 0 13 = ([(rndR true (comp (vs891 1) 0) (comp (vs891 1) 1) (comp (vs891 1) 3) lv1_ d), (blk b12_ 46 [(Value.int .i64 0), (Value.int .i64 0)])] : List Res) by (try simp only [catR, hr_0, hr_1, hr_2, hr_3, hr_4, hr_5, hr_6, hr_7, hr_8, hr_9, hr_10, hr_11, hr_12]); (try rfl)] at hS895; exact hS895
       rw [hv_10] at hs_10
       have hA899 : Fr 258 [] [(233, (Value.agg #[(Value.int .i64 a), (Value.int .i64 b)])), (10, (bptr b39 0)), (4, (bptr b4 0)), (2, (Value.int .u8 (y : Int)))] a892 := hA894.add (slot_ev hs_10 rfl); clear hA894
       rw [hv_11] at hs_11
       have hA900 : Fr 258 [] [(234, (Value.int .i64 c2)), (233, (Value.agg #[(Value.int .i64 a), (Value.int .i64 b)])), (10, (bptr b39 0)), (4, (bptr b4 0)), (2, (Value.int .u8 (y : Int)))] a892 := hA899.add (slot_ev hs_11 rfl); clear hA899
       rw [hv_12] at hs_12
       have hA901 : Fr 258 [] [(26, (bptr b12_ 0)), (234, (Value.int .i64 c2)), (233, (Value.agg #[(Value.int .i64 a), (Value.int .i64 b)])), (10, (bptr b39 0)), (4, (bptr b4 0)), (2, (Value.int .u8 (y : Int)))] a892 := hA900.add (slot_ev hs_12 rfl); clear hA900
       clear hH896 hS895 hs_0 hs_1 hs_2 hs_3 hs_4 hs_5 hs_6 hs_7 hs_8 hs_9 hs_10 hs_11 hs_12
       clear hr_0
       clear hv_0
       clear hr_1
       clear hv_1
       clear hr_2
       clear hv_2
       clear hr_3
       clear hv_3
       clear hr_4
       clear hv_4
       clear hr_5
       clear hv_5
       clear hr_6
       clear hv_6
       clear hr_7
       clear hv_7
       clear hr_8
       clear hv_8
       clear hr_9
       clear hv_9
       clear hr_10
       clear hv_10
       clear hr_11
       clear hv_11
       clear hr_12
       clear hv_12
       refine sts hA901 (op_store hS898 rfl ty_46 (hA901.ev rfl) (hA901.ev rfl) (i := 1) rfl (vs := [(Value.int .i64 a), (Value.int .i64 b)]) rfl rfl rfl (Nat.le_of_ble_eq_true rfl)) rfl rfl ?_
       intro _ w902 hS903 hA904; clear hA901
       have hS905 : Sep NoB w w902 [(rndR true (comp (vs891 1) 0) (comp (vs891 1) 1) (comp (vs891 1) 3) lv1_ d), (blk b12_ 46 [(Value.int .i64 a), (Value.int .i64 b)]), (row u459 46 2 S2.length (pairs S2)), (row v452 3 1 ((chosenF d.tols.length x).length) (ints (chosenF d.tols.length x))), (rndR true vl438 vs439 vb440 lv441 (movedD d ((m).tmod 500))), (row u421 46 2 S1.length (pairs S1)), (row v414 3 1 ((chosenF d.tols.length x).length) (ints (chosenF d.tols.length x))), (rndR true vl400 vs401 vb402 lv403 d), (row v378 3 1 ((chosenF d.tols.length x).length) (ints (chosenF d.tols.length x))), (rndR true vl364 vs365 vb366 lv367 (movedD d ((m).tmod 500))), (row v342 3 1 ((chosenF d.tols.length x).length) (ints (chosenF d.tols.length x))), (rndR true vl328 vs329 vb330 lv331 d), (row v319 3 1 ((chosenF d.tols.length x).length) (ints (chosenF d.tols.length x))), (lstR lv_ (movedD d ((m).tmod 500)).rds), (row vb_ 62 2 d.tols.length (vpairs (d.tols.zip lv_))), (row vl_ 44 2 ((movedD d ((m).tmod 500)).lots.length) (pairs ((movedD d ((m).tmod 500)).lots))), (blk b39 26 [vl_, rs, (Value.int .i64 d.spread), vb_]), (blk b4 26 [rl, rs, (Value.int .i64 d.spread), rb]), (rndR false rl rs rb rlv d)] := hS903; clear hS903 hS898
       refine st hA904 (op_assign rfl (hA904.ev rfl)) rfl rfl (by decide) fun a906 hA907 => ?_; clear hA904 a892
       refine wl_nil ?_
       refine then_n ?_
       refine c_seq ?_
       have hA908 := hA907.as [(27, (Value.int .i64 c2)), (26, (bptr b12_ 0)), (10, (bptr b39 0)), (4, (bptr b4 0)), (2, (Value.int .u8 (y : Int)))] rfl; clear hA907
       refine c_drawF mixed hA908 hS905 13 11 rfl rfl [[], [0], [], [2], [], [4], [5], [3, 6], [1, 7], [8], [9], [9], []] [(fun (vs909 : Nat → Value) (v_ : Value) (rs_ : List Res) => v_ = (Value.agg #[vl_, rs, (Value.int .i64 d.spread), vb_]) ∧ rs_ = []), (fun (vs909 : Nat → Value) (v_ : Value) (rs_ : List Res) => ∃ (lv1_vs909 : List Value), v_ = (Value.agg #[(comp v_ 0), (comp v_ 1), (Value.int .i64 ((movedD d ((m).tmod 500)).spread)), (comp v_ 3)]) ∧ rs_ = [(rndR true (comp v_ 0) (comp v_ 1) (comp v_ 3) lv1_vs909 (movedD d ((m).tmod 500)))]), (fun (vs909 : Nat → Value) (v_ : Value) (rs_ : List Res) => v_ = (Value.int .u8 (y : Int)) ∧ rs_ = []), (fun (vs909 : Nat → Value) (v_ : Value) (rs_ : List Res) => v_ = (Value.int .i64 (y : Int)) ∧ rs_ = []), (fun (vs909 : Nat → Value) (v_ : Value) (rs_ : List Res) => v_ = (bptr b4 3) ∧ rs_ = []), (fun (vs909 : Nat → Value) (v_ : Value) (rs_ : List Res) => v_ = rb ∧ rs_ = []), (fun (vs909 : Nat → Value) (v_ : Value) (rs_ : List Res) => v_ = (Value.int .i64 (d.tols.length : Int)) ∧ rs_ = []), (fun (vs909 : Nat → Value) (v_ : Value) (rs_ : List Res) => v_ = (Value.int .i64 (((y : Int)).tmod (d.tols.length : Int))) ∧ rs_ = []), (fun (vs909 : Nat → Value) (v_ : Value) (rs_ : List Res) => v_ = (Value.tuple #[(Value.agg #[(Value.int .i64 a), (Value.int .i64 b)]), (Value.int .i64 c2)]) ∧ rs_ = []), (fun (vs909 : Nat → Value) (v_ : Value) (rs_ : List Res) => v_ = (Value.tuple #[(Value.agg #[(Value.int .i64 a), (Value.int .i64 b)]), (Value.int .i64 c2)]) ∧ rs_ = []), (fun (vs909 : Nat → Value) (v_ : Value) (rs_ : List Res) => v_ = (Value.agg #[(Value.int .i64 a), (Value.int .i64 b)]) ∧ rs_ = []), (fun (vs909 : Nat → Value) (v_ : Value) (rs_ : List Res) => v_ = (Value.int .i64 c2) ∧ rs_ = []), (fun (vs909 : Nat → Value) (v_ : Value) (rs_ : List Res) => ∃ (b12_vs909 : Nat), v_ = (bptr b12_vs909 0) ∧ rs_ = [(blk b12_vs909 46 [(Value.int .i64 0), (Value.int .i64 0)])])] (by decide +kernel) (by decide +kernel) (by decide +kernel) rfl rfl ⟨(fun _ _ _ _ _ h_ => h_), (fun _ _ _ _ _ h_ => h_), (fun _ _ _ _ _ h_ => h_), (fun _ _ _ _ _ h_ => h_), (fun _ _ _ _ _ h_ => h_), (fun _ _ _ _ _ h_ => h_), (fun _ _ _ _ _ h_ => h_), (fun _ _ _ _ _ h_ => h_), (fun _ _ _ _ _ h_ => h_), (fun _ _ _ _ _ h_ => h_), (fun _ _ _ _ _ h_ => h_), (fun _ _ _ _ _ h_ => h_), (fun _ _ _ _ _ h_ => h_), trivial⟩ ?_ ?_ ?_
       ·skip
        refine ⟨fun a w vs909 hA hS hd => ?_, ?_⟩
        ·skip
         exact opG_of rfl (vv (op_loadA rfl ty_26 (hA.ev rfl) (hS.bk 16 rfl) (l := [vl_, rs, (Value.int .i64 d.spread), vb_]) rfl rfl) (And.intro rfl rfl))
        refine ⟨fun a w vs909 hA hS hd => ?_, ?_⟩
        ·skip
         obtain ⟨e0, rs0, hy0, hp0⟩ := hd 0 (by decide)
         obtain ⟨hv0, hr0⟩ := hy0; subst hr0
         rw [hv0] at e0
         exact opG_of rfl (vn (op_call rfl en_20 (ev1 (tmp_ev (slot_ev e0 rfl))) (Round_ok vl_ rs vb_ lv_ (movedD d ((m).tmod 500)) _ (show RoundAt _ vl_ rs vb_ lv_ (movedD d ((m).tmod 500)) from ⟨SlAt.of_row (hS.ok_row 15 rfl), (rnd_at (hS.ok 18 _ rfl)).samples, SlAt.of_row (hS.ok_row 14 rfl), (hS.lst_at 13 rfl).2, hll.trans hrl9, hrl9⟩) (moved_thin hV))) (fun v w' h => by obtain ⟨vl, vs, vb, lv, rfl, hT⟩ := h; exact ⟨_, ⟨lv, rfl, rfl⟩, hT, rfl⟩))
        refine ⟨fun a w vs909 hA hS hd => ?_, ?_⟩
        ·skip
         exact opG_of rfl (vv (op_move rfl (hA.ev rfl)) (And.intro rfl rfl))
        refine ⟨fun a w vs909 hA hS hd => ?_, ?_⟩
        ·skip
         obtain ⟨e2, rs2, hy2, hp2⟩ := hd 2 (by decide)
         obtain ⟨hv2, hr2⟩ := hy2; subst hr2
         rw [hv2] at e2
         exact opG_of rfl (vv (op_conv un_5 un_3 rfl (tmp_ev (slot_ev e2 rfl)) (v := (y : Int)) (wrap_i64 (by omega) (by omega))) (And.intro rfl rfl))
        refine ⟨fun a w vs909 hA hS hd => ?_, ?_⟩
        ·skip
         exact opG_of rfl (vv (op_field rfl fd_26_3 (hA.ev rfl)) (And.intro rfl rfl))
        refine ⟨fun a w vs909 hA hS hd => ?_, ?_⟩
        ·skip
         obtain ⟨e4, rs4, hy4, hp4⟩ := hd 4 (by decide)
         obtain ⟨hv4, hr4⟩ := hy4; subst hr4
         rw [hv4] at e4
         exact opG_of rfl (vv (op_load1 rfl ty_24 (tmp_ev (slot_ev e4 rfl)) (hS.bk 17 rfl) rfl) (And.intro rfl rfl))
        refine ⟨fun a w vs909 hA hS hd => ?_, ?_⟩
        ·skip
         obtain ⟨e5, rs5, hy5, hp5⟩ := hd 5 (by decide)
         obtain ⟨hv5, hr5⟩ := hy5; subst hr5
         rw [hv5] at e5
         exact opG_of rfl (vv (op_lenS rfl un_24 (tmp_ev (slot_ev e5 rfl)) (rnd_at (hS.ok 18 _ rfl)).labs) (And.intro rfl rfl))
        refine ⟨fun a w vs909 hA hS hd => ?_, ?_⟩
        ·skip
         obtain ⟨e3, rs3, hy3, hp3⟩ := hd 3 (by decide)
         obtain ⟨hv3, hr3⟩ := hy3; subst hr3
         rw [hv3] at e3
         obtain ⟨e6, rs6, hy6, hp6⟩ := hd 6 (by decide)
         obtain ⟨hv6, hr6⟩ := hy6; subst hr6
         rw [hv6] at e6
         exact opG_of rfl (vv (op_rem rfl (tmp_ev (slot_ev e3 rfl)) (tmp_ev (slot_ev e6 rfl)) (by omega)) (And.intro rfl rfl))
        refine ⟨fun a w vs909 hA hS hd => ?_, ?_⟩
        ·skip
         obtain ⟨e1, rs1, hy1, hp1⟩ := hd 1 (by decide)
         obtain ⟨lv1_vs909, hv1, hr1⟩ := hy1; subst hr1
         rw [hv1] at e1
         have hp1_0 := hp1 _ (List.mem_of_getElem? (i := 0) rfl)
         obtain ⟨e7, rs7, hy7, hp7⟩ := hd 7 (by decide)
         obtain ⟨hv7, hr7⟩ := hy7; subst hr7
         rw [hv7] at e7
         exact opG_of rfl (vx (op_call rfl en_32 (ev2 (tmp_ev (slot_ev e1 rfl)) (tmp_ev (slot_ev e7 rfl))) (by have h := (shifts_fn (comp (vs909 1) 0) (comp (vs909 1) 1) (comp (vs909 1) 3) lv1_vs909 (movedD d ((m).tmod 500)) _ (rnd_at hp1_0) (((y : Int)).tmod (d.tols.length : Int))); rw [hzM] at h; exact h)) (And.intro rfl rfl))
        refine ⟨fun a w vs909 hA hS hd => ?_, ?_⟩
        ·skip
         obtain ⟨e8, rs8, hy8, hp8⟩ := hd 8 (by decide)
         obtain ⟨hv8, hr8⟩ := hy8; subst hr8
         rw [hv8] at e8
         exact opG_of rfl (vv (op_move rfl (tmp_ev (slot_ev e8 rfl))) (And.intro rfl rfl))
        refine ⟨fun a w vs909 hA hS hd => ?_, ?_⟩
        ·skip
         obtain ⟨e9, rs9, hy9, hp9⟩ := hd 9 (by decide)
         obtain ⟨hv9, hr9⟩ := hy9; subst hr9
         rw [hv9] at e9
         exact opG_of rfl (vv (op_extract rfl (tmp_ev (slot_ev e9 rfl)) rfl) (And.intro rfl rfl))
        refine ⟨fun a w vs909 hA hS hd => ?_, ?_⟩
        ·skip
         obtain ⟨e9, rs9, hy9, hp9⟩ := hd 9 (by decide)
         obtain ⟨hv9, hr9⟩ := hy9; subst hr9
         rw [hv9] at e9
         exact opG_of rfl (vv (op_extract rfl (tmp_ev (slot_ev e9 rfl)) rfl) (And.intro rfl rfl))
        refine ⟨fun a w vs909 hA hS hd => ?_, ?_⟩
        ·skip
         exact opG_of rfl (valloc rfl ze_46 (cs := [(Value.int .i64 0), (Value.int .i64 0)]) rfl (fun b_ => ⟨b_, rfl, rfl⟩))
        trivial
       ·skip
        intro a910 w911 vs909 rsf915 hA912 hH914 hS913; clear hA908 hS905
        obtain ⟨hs_0, hy_0⟩ := hH914 0 (by decide)
        obtain ⟨hv_0, hr_0⟩ := hy_0
        obtain ⟨hs_1, hy_1⟩ := hH914 1 (by decide)
        obtain ⟨lv1_vs909, hv_1, hr_1⟩ := hy_1
        obtain ⟨hs_2, hy_2⟩ := hH914 2 (by decide)
        obtain ⟨hv_2, hr_2⟩ := hy_2
        obtain ⟨hs_3, hy_3⟩ := hH914 3 (by decide)
        obtain ⟨hv_3, hr_3⟩ := hy_3
        obtain ⟨hs_4, hy_4⟩ := hH914 4 (by decide)
        obtain ⟨hv_4, hr_4⟩ := hy_4
        obtain ⟨hs_5, hy_5⟩ := hH914 5 (by decide)
        obtain ⟨hv_5, hr_5⟩ := hy_5
        obtain ⟨hs_6, hy_6⟩ := hH914 6 (by decide)
        obtain ⟨hv_6, hr_6⟩ := hy_6
        obtain ⟨hs_7, hy_7⟩ := hH914 7 (by decide)
        obtain ⟨hv_7, hr_7⟩ := hy_7
        obtain ⟨hs_8, hy_8⟩ := hH914 8 (by decide)
        obtain ⟨hv_8, hr_8⟩ := hy_8
        obtain ⟨hs_9, hy_9⟩ := hH914 9 (by decide)
        obtain ⟨hv_9, hr_9⟩ := hy_9
        obtain ⟨hs_10, hy_10⟩ := hH914 10 (by decide)
        obtain ⟨hv_10, hr_10⟩ := hy_10
        obtain ⟨hs_11, hy_11⟩ := hH914 11 (by decide)
        obtain ⟨hv_11, hr_11⟩ := hy_11
        obtain ⟨hs_12, hy_12⟩ := hH914 12 (by decide)
        obtain ⟨b12_vs909, hv_12, hr_12⟩ := hy_12
        have hS916 : Sep NoB w w911 [(rndR true (comp (vs909 1) 0) (comp (vs909 1) 1) (comp (vs909 1) 3) lv1_vs909 (movedD d ((m).tmod 500))), (blk b12_vs909 46 [(Value.int .i64 0), (Value.int .i64 0)]), (rndR true (comp (vs891 1) 0) (comp (vs891 1) 1) (comp (vs891 1) 3) lv1_ d), (blk b12_ 46 [(Value.int .i64 a), (Value.int .i64 b)]), (row u459 46 2 S2.length (pairs S2)), (row v452 3 1 ((chosenF d.tols.length x).length) (ints (chosenF d.tols.length x))), (rndR true vl438 vs439 vb440 lv441 (movedD d ((m).tmod 500))), (row u421 46 2 S1.length (pairs S1)), (row v414 3 1 ((chosenF d.tols.length x).length) (ints (chosenF d.tols.length x))), (rndR true vl400 vs401 vb402 lv403 d), (row v378 3 1 ((chosenF d.tols.length x).length) (ints (chosenF d.tols.length x))), (rndR true vl364 vs365 vb366 lv367 (movedD d ((m).tmod 500))), (row v342 3 1 ((chosenF d.tols.length x).length) (ints (chosenF d.tols.length x))), (rndR true vl328 vs329 vb330 lv331 d), (row v319 3 1 ((chosenF d.tols.length x).length) (ints (chosenF d.tols.length x))), (lstR lv_ (movedD d ((m).tmod 500)).rds), (row vb_ 62 2 d.tols.length (vpairs (d.tols.zip lv_))), (row vl_ 44 2 ((movedD d ((m).tmod 500)).lots.length) (pairs ((movedD d ((m).tmod 500)).lots))), (blk b39 26 [vl_, rs, (Value.int .i64 d.spread), vb_]), (blk b4 26 [rl, rs, (Value.int .i64 d.spread), rb]), (rndR false rl rs rb rlv d)] := by rw [show catR rsf915 0 13 = ([(rndR true (comp (vs909 1) 0) (comp (vs909 1) 1) (comp (vs909 1) 3) lv1_vs909 (movedD d ((m).tmod 500))), (blk b12_vs909 46 [(Value.int .i64 0), (Value.int .i64 0)])] : List Res) by (try simp only [catR, hr_0, hr_1, hr_2, hr_3, hr_4, hr_5, hr_6, hr_7, hr_8, hr_9, hr_10, hr_11, hr_12]); (try rfl)] at hS913; exact hS913
        rw [hv_10] at hs_10
        have hA917 : Fr 258 [] [(245, (Value.agg #[(Value.int .i64 a), (Value.int .i64 b)])), (27, (Value.int .i64 c2)), (26, (bptr b12_ 0)), (10, (bptr b39 0)), (4, (bptr b4 0)), (2, (Value.int .u8 (y : Int)))] a910 := hA912.add (slot_ev hs_10 rfl); clear hA912
        rw [hv_11] at hs_11
        have hA918 : Fr 258 [] [(246, (Value.int .i64 c2)), (245, (Value.agg #[(Value.int .i64 a), (Value.int .i64 b)])), (27, (Value.int .i64 c2)), (26, (bptr b12_ 0)), (10, (bptr b39 0)), (4, (bptr b4 0)), (2, (Value.int .u8 (y : Int)))] a910 := hA917.add (slot_ev hs_11 rfl); clear hA917
        rw [hv_12] at hs_12
        have hA919 : Fr 258 [] [(28, (bptr b12_vs909 0)), (246, (Value.int .i64 c2)), (245, (Value.agg #[(Value.int .i64 a), (Value.int .i64 b)])), (27, (Value.int .i64 c2)), (26, (bptr b12_ 0)), (10, (bptr b39 0)), (4, (bptr b4 0)), (2, (Value.int .u8 (y : Int)))] a910 := hA918.add (slot_ev hs_12 rfl); clear hA918
        clear hH914 hS913 hs_0 hs_1 hs_2 hs_3 hs_4 hs_5 hs_6 hs_7 hs_8 hs_9 hs_10 hs_11 hs_12
        clear hr_0
        clear hv_0
        clear hr_1
        clear hv_1
        clear hr_2
        clear hv_2
        clear hr_3
        clear hv_3
        clear hr_4
        clear hv_4
        clear hr_5
        clear hv_5
        clear hr_6
        clear hv_6
        clear hr_7
        clear hv_7
        clear hr_8
        clear hv_8
        clear hr_9
        clear hv_9
        clear hr_10
        clear hv_10
        clear hr_11
        clear hv_11
        clear hr_12
        clear hv_12
        refine sts hA919 (op_store hS916 rfl ty_46 (hA919.ev rfl) (hA919.ev rfl) (i := 1) rfl (vs := [(Value.int .i64 a), (Value.int .i64 b)]) rfl rfl rfl (Nat.le_of_ble_eq_true rfl)) rfl rfl ?_
        intro _ w920 hS921 hA922; clear hA919
        have hS923 : Sep NoB w w920 [(rndR true (comp (vs909 1) 0) (comp (vs909 1) 1) (comp (vs909 1) 3) lv1_vs909 (movedD d ((m).tmod 500))), (blk b12_vs909 46 [(Value.int .i64 a), (Value.int .i64 b)]), (rndR true (comp (vs891 1) 0) (comp (vs891 1) 1) (comp (vs891 1) 3) lv1_ d), (blk b12_ 46 [(Value.int .i64 a), (Value.int .i64 b)]), (row u459 46 2 S2.length (pairs S2)), (row v452 3 1 ((chosenF d.tols.length x).length) (ints (chosenF d.tols.length x))), (rndR true vl438 vs439 vb440 lv441 (movedD d ((m).tmod 500))), (row u421 46 2 S1.length (pairs S1)), (row v414 3 1 ((chosenF d.tols.length x).length) (ints (chosenF d.tols.length x))), (rndR true vl400 vs401 vb402 lv403 d), (row v378 3 1 ((chosenF d.tols.length x).length) (ints (chosenF d.tols.length x))), (rndR true vl364 vs365 vb366 lv367 (movedD d ((m).tmod 500))), (row v342 3 1 ((chosenF d.tols.length x).length) (ints (chosenF d.tols.length x))), (rndR true vl328 vs329 vb330 lv331 d), (row v319 3 1 ((chosenF d.tols.length x).length) (ints (chosenF d.tols.length x))), (lstR lv_ (movedD d ((m).tmod 500)).rds), (row vb_ 62 2 d.tols.length (vpairs (d.tols.zip lv_))), (row vl_ 44 2 ((movedD d ((m).tmod 500)).lots.length) (pairs ((movedD d ((m).tmod 500)).lots))), (blk b39 26 [vl_, rs, (Value.int .i64 d.spread), vb_]), (blk b4 26 [rl, rs, (Value.int .i64 d.spread), rb]), (rndR false rl rs rb rlv d)] := hS921; clear hS921 hS916
        refine st hA922 (op_assign rfl (hA922.ev rfl)) rfl rfl (by decide) fun a924 hA925 => ?_; clear hA922 a910
        refine wl_nil ?_
        refine then_n ?_
        refine c_seq ?_
        refine c_region ?_
        refine st hA925 (op_move rfl (hA925.ev rfl)) rfl rfl (by decide) fun a926 hA927 => ?_; clear hA925 a924
        refine st hA927 (op_move rfl (hA927.ev rfl)) rfl rfl (by decide) fun a928 hA929 => ?_; clear hA927 a926
        refine st hA929 (op_eql rfl (hA929.ev rfl) (hA929.ev rfl)) rfl rfl (by decide) fun a930 hA931 => ?_; clear hA929 a928
        have hd932 : c2 = c2 := rfl
        rw [decide_eq_true hd932] at hA931
        refine st hA931 (op_move rfl (hA931.ev rfl)) rfl rfl (by decide) fun a933 hA934 => ?_; clear hA931 a930
        refine stg hA934 (op_loadA rfl ty_46 (hA934.ev rfl) (hS923.bk 3 rfl) (l := [(Value.int .i64 a), (Value.int .i64 b)]) rfl rfl) rfl rfl rfl rfl (by decide) fun a935 hA936 => ?_; clear hA934 a933
        refine stg hA936 (op_loadA rfl ty_46 (hA936.ev rfl) (hS923.bk 1 rfl) (l := [(Value.int .i64 a), (Value.int .i64 b)]) rfl rfl) rfl rfl rfl rfl (by decide) fun a937 hA938 => ?_; clear hA936 a935
        refine stg hA938 (op_eqlP tw_46 rfl (hA938.ev rfl) (hA938.ev rfl)) rfl rfl rfl rfl (by decide) fun a939 hA940 => ?_; clear hA938 a937
        have hd941 : (decide ((a : Int) = a) && decide ((b : Int) = b)) = true := by simp only [decide_true, Bool.and_self]
        rw [hd941] at hA940
        have hq942 := hd941; simp only [Bool.and_eq_true, Bool.and_eq_false_iff, decide_eq_true_eq, decide_eq_false_iff_not] at hq942
        refine st hA940 (op_pick_t rfl (hA940.ev rfl) (hA940.ev rfl)) rfl rfl (by decide) fun a943 hA944 => ?_; clear hA940 a939
        refine st hA944 (op_move rfl (hA944.ev rfl)) rfl rfl (by decide) fun a945 hA946 => ?_; clear hA944 a943
        refine stwg hA946 (op_call rfl en_18 ev0 (wakes_ok _)) rfl rfl rfl rfl (by decide) ?_
        rintro a947 _ w949 ⟨rfl, hE950⟩ hA948; have hS951 := hS923.step hE950; clear hE950 hA946 hS923 a945
        refine st hA948 (op_pick_t rfl (hA948.ev rfl) (hA948.ev rfl)) rfl rfl (by decide) fun a952 hA953 => ?_; clear hA948 a947
        refine st hA953 (op_assign rfl (hA953.ev rfl)) rfl rfl (by decide) fun a954 hA955 => ?_; clear hA953 a952
        refine wl_nil ?_
        refine then_n ?_
        refine c_ret ?_
        refine fin_run hA955 (.inl rfl) (run_results1 hA955 rfl (.tmp rfl)) ?_
        exact ⟨rfl, hS951.ext⟩
       ·skip
        intro a956 w957 vs909 rsf961 hA958 hH960 hrq hS959; clear hA908 hS905
        obtain ⟨hs_0, hy_0⟩ := hH960 0 (by decide) (by decide)
        obtain ⟨hv_0, hr_0⟩ := hy_0
        obtain ⟨hs_1, hy_1⟩ := hH960 1 (by decide) (by decide)
        obtain ⟨lv1_vs909, hv_1, hr_1⟩ := hy_1
        obtain ⟨hs_2, hy_2⟩ := hH960 2 (by decide) (by decide)
        obtain ⟨hv_2, hr_2⟩ := hy_2
        obtain ⟨hs_3, hy_3⟩ := hH960 3 (by decide) (by decide)
        obtain ⟨hv_3, hr_3⟩ := hy_3
        obtain ⟨hs_4, hy_4⟩ := hH960 4 (by decide) (by decide)
        obtain ⟨hv_4, hr_4⟩ := hy_4
        obtain ⟨hs_5, hy_5⟩ := hH960 5 (by decide) (by decide)
        obtain ⟨hv_5, hr_5⟩ := hy_5
        obtain ⟨hs_6, hy_6⟩ := hH960 6 (by decide) (by decide)
        obtain ⟨hv_6, hr_6⟩ := hy_6
        obtain ⟨hs_7, hy_7⟩ := hH960 7 (by decide) (by decide)
        obtain ⟨hv_7, hr_7⟩ := hy_7
        obtain ⟨hs_8, hy_8⟩ := hH960 8 (by decide) (by decide)
        obtain ⟨hv_8, hr_8⟩ := hy_8
        obtain ⟨hs_9, hy_9⟩ := hH960 9 (by decide) (by decide)
        obtain ⟨hv_9, hr_9⟩ := hy_9
        obtain ⟨hs_10, hy_10⟩ := hH960 10 (by decide) (by decide)
        obtain ⟨hv_10, hr_10⟩ := hy_10
        obtain ⟨hs_12, hy_12⟩ := hH960 12 (by decide) (by decide)
        obtain ⟨b12_vs909, hv_12, hr_12⟩ := hy_12
        have hS962 : Sep NoB w w957 [(rndR true (comp (vs909 1) 0) (comp (vs909 1) 1) (comp (vs909 1) 3) lv1_vs909 (movedD d ((m).tmod 500))), (blk b12_vs909 46 [(Value.int .i64 0), (Value.int .i64 0)]), (rndR true (comp (vs891 1) 0) (comp (vs891 1) 1) (comp (vs891 1) 3) lv1_ d), (blk b12_ 46 [(Value.int .i64 a), (Value.int .i64 b)]), (row u459 46 2 S2.length (pairs S2)), (row v452 3 1 ((chosenF d.tols.length x).length) (ints (chosenF d.tols.length x))), (rndR true vl438 vs439 vb440 lv441 (movedD d ((m).tmod 500))), (row u421 46 2 S1.length (pairs S1)), (row v414 3 1 ((chosenF d.tols.length x).length) (ints (chosenF d.tols.length x))), (rndR true vl400 vs401 vb402 lv403 d), (row v378 3 1 ((chosenF d.tols.length x).length) (ints (chosenF d.tols.length x))), (rndR true vl364 vs365 vb366 lv367 (movedD d ((m).tmod 500))), (row v342 3 1 ((chosenF d.tols.length x).length) (ints (chosenF d.tols.length x))), (rndR true vl328 vs329 vb330 lv331 d), (row v319 3 1 ((chosenF d.tols.length x).length) (ints (chosenF d.tols.length x))), (lstR lv_ (movedD d ((m).tmod 500)).rds), (row vb_ 62 2 d.tols.length (vpairs (d.tols.zip lv_))), (row vl_ 44 2 ((movedD d ((m).tmod 500)).lots.length) (pairs ((movedD d ((m).tmod 500)).lots))), (blk b39 26 [vl_, rs, (Value.int .i64 d.spread), vb_]), (blk b4 26 [rl, rs, (Value.int .i64 d.spread), rb]), (rndR false rl rs rb rlv d)] := by rw [show catR rsf961 0 13 = ([(rndR true (comp (vs909 1) 0) (comp (vs909 1) 1) (comp (vs909 1) 3) lv1_vs909 (movedD d ((m).tmod 500))), (blk b12_vs909 46 [(Value.int .i64 0), (Value.int .i64 0)])] : List Res) by (try simp only [catR, hr_0, hr_1, hr_2, hr_3, hr_4, hr_5, hr_6, hr_7, hr_8, hr_9, hr_10, hr_12, hrq]); (try rfl)] at hS959; exact hS959
        rw [hv_9] at hs_9
        have hA963 : Fr 258 [] [(235, (Value.tuple #[(Value.agg #[(Value.int .i64 a), (Value.int .i64 b)]), (Value.int .i64 c2)])), (27, (Value.int .i64 c2)), (26, (bptr b12_ 0)), (10, (bptr b39 0)), (4, (bptr b4 0)), (2, (Value.int .u8 (y : Int)))] a956 := hA958.add (slot_ev hs_9 rfl); clear hA958
        rw [hv_10] at hs_10
        have hA964 : Fr 258 [] [(245, (Value.agg #[(Value.int .i64 a), (Value.int .i64 b)])), (235, (Value.tuple #[(Value.agg #[(Value.int .i64 a), (Value.int .i64 b)]), (Value.int .i64 c2)])), (27, (Value.int .i64 c2)), (26, (bptr b12_ 0)), (10, (bptr b39 0)), (4, (bptr b4 0)), (2, (Value.int .u8 (y : Int)))] a956 := hA963.add (slot_ev hs_10 rfl); clear hA963
        rw [hv_12] at hs_12
        have hA965 : Fr 258 [] [(28, (bptr b12_vs909 0)), (245, (Value.agg #[(Value.int .i64 a), (Value.int .i64 b)])), (235, (Value.tuple #[(Value.agg #[(Value.int .i64 a), (Value.int .i64 b)]), (Value.int .i64 c2)])), (27, (Value.int .i64 c2)), (26, (bptr b12_ 0)), (10, (bptr b39 0)), (4, (bptr b4 0)), (2, (Value.int .u8 (y : Int)))] a956 := hA964.add (slot_ev hs_12 rfl); clear hA964
        clear hH960 hS959 hs_0 hs_1 hs_2 hs_3 hs_4 hs_5 hs_6 hs_7 hs_8 hs_9 hs_10 hs_12 hrq
        clear hr_0
        clear hv_0
        clear hr_1
        clear hv_1
        clear hr_2
        clear hv_2
        clear hr_3
        clear hv_3
        clear hr_4
        clear hv_4
        clear hr_5
        clear hv_5
        clear hr_6
        clear hv_6
        clear hr_7
        clear hv_7
        clear hr_8
        clear hv_8
        clear hr_9
        clear hv_9
        clear hr_10
        clear hv_10
        clear hr_12
        clear hv_12
        refine sts hA965 (op_store hS962 rfl ty_46 (hA965.ev rfl) (hA965.ev rfl) (i := 1) rfl (vs := [(Value.int .i64 a), (Value.int .i64 b)]) rfl rfl rfl (Nat.le_of_ble_eq_true rfl)) rfl rfl ?_
        intro _ w966 hS967 hA968; clear hA965
        have hS969 : Sep NoB w w966 [(rndR true (comp (vs909 1) 0) (comp (vs909 1) 1) (comp (vs909 1) 3) lv1_vs909 (movedD d ((m).tmod 500))), (blk b12_vs909 46 [(Value.int .i64 a), (Value.int .i64 b)]), (rndR true (comp (vs891 1) 0) (comp (vs891 1) 1) (comp (vs891 1) 3) lv1_ d), (blk b12_ 46 [(Value.int .i64 a), (Value.int .i64 b)]), (row u459 46 2 S2.length (pairs S2)), (row v452 3 1 ((chosenF d.tols.length x).length) (ints (chosenF d.tols.length x))), (rndR true vl438 vs439 vb440 lv441 (movedD d ((m).tmod 500))), (row u421 46 2 S1.length (pairs S1)), (row v414 3 1 ((chosenF d.tols.length x).length) (ints (chosenF d.tols.length x))), (rndR true vl400 vs401 vb402 lv403 d), (row v378 3 1 ((chosenF d.tols.length x).length) (ints (chosenF d.tols.length x))), (rndR true vl364 vs365 vb366 lv367 (movedD d ((m).tmod 500))), (row v342 3 1 ((chosenF d.tols.length x).length) (ints (chosenF d.tols.length x))), (rndR true vl328 vs329 vb330 lv331 d), (row v319 3 1 ((chosenF d.tols.length x).length) (ints (chosenF d.tols.length x))), (lstR lv_ (movedD d ((m).tmod 500)).rds), (row vb_ 62 2 d.tols.length (vpairs (d.tols.zip lv_))), (row vl_ 44 2 ((movedD d ((m).tmod 500)).lots.length) (pairs ((movedD d ((m).tmod 500)).lots))), (blk b39 26 [vl_, rs, (Value.int .i64 d.spread), vb_]), (blk b4 26 [rl, rs, (Value.int .i64 d.spread), rb]), (rndR false rl rs rb rlv d)] := hS967; clear hS967 hS962
        refine st hA968 (op_extract rfl (hA968.ev rfl) rfl) rfl rfl (by decide) fun a970 hA971 => ?_; clear hA968 a956
        refine st hA971 (op_assign rfl (hA971.ev rfl)) rfl rfl (by decide) fun a972 hA973 => ?_; clear hA971 a970
        refine wl_nil ?_
        refine then_n ?_
        refine c_seq ?_
        have hA974 := hA973.as [(29, (Value.int .i64 c2)), (28, (bptr b12_vs909 0)), (27, (Value.int .i64 c2)), (26, (bptr b12_ 0))] rfl; clear hA973
        refine c_region ?_
        refine st hA974 (op_move rfl (hA974.ev rfl)) rfl rfl (by decide) fun a975 hA976 => ?_; clear hA974 a972
        refine st hA976 (op_move rfl (hA976.ev rfl)) rfl rfl (by decide) fun a977 hA978 => ?_; clear hA976 a975
        refine st hA978 (op_eql rfl (hA978.ev rfl) (hA978.ev rfl)) rfl rfl (by decide) fun a979 hA980 => ?_; clear hA978 a977
        have hd981 : c2 = c2 := rfl
        rw [decide_eq_true hd981] at hA980
        refine st hA980 (op_move rfl (hA980.ev rfl)) rfl rfl (by decide) fun a982 hA983 => ?_; clear hA980 a979
        refine stg hA983 (op_loadA rfl ty_46 (hA983.ev rfl) (hS969.bk 3 rfl) (l := [(Value.int .i64 a), (Value.int .i64 b)]) rfl rfl) rfl rfl rfl rfl (by decide) fun a984 hA985 => ?_; clear hA983 a982
        refine stg hA985 (op_loadA rfl ty_46 (hA985.ev rfl) (hS969.bk 1 rfl) (l := [(Value.int .i64 a), (Value.int .i64 b)]) rfl rfl) rfl rfl rfl rfl (by decide) fun a986 hA987 => ?_; clear hA985 a984
        refine stg hA987 (op_eqlP tw_46 rfl (hA987.ev rfl) (hA987.ev rfl)) rfl rfl rfl rfl (by decide) fun a988 hA989 => ?_; clear hA987 a986
        have hd990 : (decide ((a : Int) = a) && decide ((b : Int) = b)) = true := by simp only [decide_true, Bool.and_self]
        rw [hd990] at hA989
        have hq991 := hd990; simp only [Bool.and_eq_true, Bool.and_eq_false_iff, decide_eq_true_eq, decide_eq_false_iff_not] at hq991
        refine st hA989 (op_pick_t rfl (hA989.ev rfl) (hA989.ev rfl)) rfl rfl (by decide) fun a992 hA993 => ?_; clear hA989 a988
        refine st hA993 (op_move rfl (hA993.ev rfl)) rfl rfl (by decide) fun a994 hA995 => ?_; clear hA993 a992
        refine stwg hA995 (op_call rfl en_18 ev0 (wakes_ok _)) rfl rfl rfl rfl (by decide) ?_
        rintro a996 _ w998 ⟨rfl, hE999⟩ hA997; have hS1000 := hS969.step hE999; clear hE999 hA995 hS969 a994
        refine st hA997 (op_pick_t rfl (hA997.ev rfl) (hA997.ev rfl)) rfl rfl (by decide) fun a1001 hA1002 => ?_; clear hA997 a996
        refine st hA1002 (op_assign rfl (hA1002.ev rfl)) rfl rfl (by decide) fun a1003 hA1004 => ?_; clear hA1002 a1001
        refine wl_nil ?_
        refine then_n ?_
        refine c_ret ?_
        refine fin_run hA1004 (.inl rfl) (run_results1 hA1004 rfl (.tmp rfl)) ?_
        exact ⟨rfl, hS1000.ext⟩
      ·skip
       intro a1005 w1006 vs891 rsf1010 hA1007 hH1009 hrq hS1008; clear hA890 hS839
       obtain ⟨hs_0, hy_0⟩ := hH1009 0 (by decide) (by decide)
       obtain ⟨hv_0, hr_0⟩ := hy_0
       obtain ⟨hs_1, hy_1⟩ := hH1009 1 (by decide) (by decide)
       obtain ⟨lv1_, hv_1, hr_1⟩ := hy_1
       obtain ⟨hs_2, hy_2⟩ := hH1009 2 (by decide) (by decide)
       obtain ⟨hv_2, hr_2⟩ := hy_2
       obtain ⟨hs_3, hy_3⟩ := hH1009 3 (by decide) (by decide)
       obtain ⟨hv_3, hr_3⟩ := hy_3
       obtain ⟨hs_4, hy_4⟩ := hH1009 4 (by decide) (by decide)
       obtain ⟨hv_4, hr_4⟩ := hy_4
       obtain ⟨hs_5, hy_5⟩ := hH1009 5 (by decide) (by decide)
       obtain ⟨hv_5, hr_5⟩ := hy_5
       obtain ⟨hs_6, hy_6⟩ := hH1009 6 (by decide) (by decide)
       obtain ⟨hv_6, hr_6⟩ := hy_6
       obtain ⟨hs_7, hy_7⟩ := hH1009 7 (by decide) (by decide)
       obtain ⟨hv_7, hr_7⟩ := hy_7
       obtain ⟨hs_8, hy_8⟩ := hH1009 8 (by decide) (by decide)
       obtain ⟨hv_8, hr_8⟩ := hy_8
       obtain ⟨hs_9, hy_9⟩ := hH1009 9 (by decide) (by decide)
       obtain ⟨hv_9, hr_9⟩ := hy_9
       obtain ⟨hs_10, hy_10⟩ := hH1009 10 (by decide) (by decide)
       obtain ⟨hv_10, hr_10⟩ := hy_10
       obtain ⟨hs_12, hy_12⟩ := hH1009 12 (by decide) (by decide)
       obtain ⟨b12_, hv_12, hr_12⟩ := hy_12
       have hS1011 : Sep NoB w w1006 [(rndR true (comp (vs891 1) 0) (comp (vs891 1) 1) (comp (vs891 1) 3) lv1_ d), (blk b12_ 46 [(Value.int .i64 0), (Value.int .i64 0)]), (row u459 46 2 S2.length (pairs S2)), (row v452 3 1 ((chosenF d.tols.length x).length) (ints (chosenF d.tols.length x))), (rndR true vl438 vs439 vb440 lv441 (movedD d ((m).tmod 500))), (row u421 46 2 S1.length (pairs S1)), (row v414 3 1 ((chosenF d.tols.length x).length) (ints (chosenF d.tols.length x))), (rndR true vl400 vs401 vb402 lv403 d), (row v378 3 1 ((chosenF d.tols.length x).length) (ints (chosenF d.tols.length x))), (rndR true vl364 vs365 vb366 lv367 (movedD d ((m).tmod 500))), (row v342 3 1 ((chosenF d.tols.length x).length) (ints (chosenF d.tols.length x))), (rndR true vl328 vs329 vb330 lv331 d), (row v319 3 1 ((chosenF d.tols.length x).length) (ints (chosenF d.tols.length x))), (lstR lv_ (movedD d ((m).tmod 500)).rds), (row vb_ 62 2 d.tols.length (vpairs (d.tols.zip lv_))), (row vl_ 44 2 ((movedD d ((m).tmod 500)).lots.length) (pairs ((movedD d ((m).tmod 500)).lots))), (blk b39 26 [vl_, rs, (Value.int .i64 d.spread), vb_]), (blk b4 26 [rl, rs, (Value.int .i64 d.spread), rb]), (rndR false rl rs rb rlv d)] := by rw [show catR rsf1010 0 13 = ([(rndR true (comp (vs891 1) 0) (comp (vs891 1) 1) (comp (vs891 1) 3) lv1_ d), (blk b12_ 46 [(Value.int .i64 0), (Value.int .i64 0)])] : List Res) by (try simp only [catR, hr_0, hr_1, hr_2, hr_3, hr_4, hr_5, hr_6, hr_7, hr_8, hr_9, hr_10, hr_12, hrq]); (try rfl)] at hS1008; exact hS1008
       rw [hv_9] at hs_9
       have hA1012 : Fr 258 [] [(223, (Value.tuple #[(Value.agg #[(Value.int .i64 a), (Value.int .i64 b)]), (Value.int .i64 c2)])), (10, (bptr b39 0)), (4, (bptr b4 0)), (2, (Value.int .u8 (y : Int)))] a1005 := hA1007.add (slot_ev hs_9 rfl); clear hA1007
       rw [hv_10] at hs_10
       have hA1013 : Fr 258 [] [(233, (Value.agg #[(Value.int .i64 a), (Value.int .i64 b)])), (223, (Value.tuple #[(Value.agg #[(Value.int .i64 a), (Value.int .i64 b)]), (Value.int .i64 c2)])), (10, (bptr b39 0)), (4, (bptr b4 0)), (2, (Value.int .u8 (y : Int)))] a1005 := hA1012.add (slot_ev hs_10 rfl); clear hA1012
       rw [hv_12] at hs_12
       have hA1014 : Fr 258 [] [(26, (bptr b12_ 0)), (233, (Value.agg #[(Value.int .i64 a), (Value.int .i64 b)])), (223, (Value.tuple #[(Value.agg #[(Value.int .i64 a), (Value.int .i64 b)]), (Value.int .i64 c2)])), (10, (bptr b39 0)), (4, (bptr b4 0)), (2, (Value.int .u8 (y : Int)))] a1005 := hA1013.add (slot_ev hs_12 rfl); clear hA1013
       clear hH1009 hS1008 hs_0 hs_1 hs_2 hs_3 hs_4 hs_5 hs_6 hs_7 hs_8 hs_9 hs_10 hs_12 hrq
       clear hr_0
       clear hv_0
       clear hr_1
       clear hv_1
       clear hr_2
       clear hv_2
       clear hr_3
       clear hv_3
       clear hr_4
       clear hv_4
       clear hr_5
       clear hv_5
       clear hr_6
       clear hv_6
       clear hr_7
       clear hv_7
       clear hr_8
       clear hv_8
       clear hr_9
       clear hv_9
       clear hr_10
       clear hv_10
       clear hr_12
       clear hv_12
       refine sts hA1014 (op_store hS1011 rfl ty_46 (hA1014.ev rfl) (hA1014.ev rfl) (i := 1) rfl (vs := [(Value.int .i64 a), (Value.int .i64 b)]) rfl rfl rfl (Nat.le_of_ble_eq_true rfl)) rfl rfl ?_
       intro _ w1015 hS1016 hA1017; clear hA1014
       have hS1018 : Sep NoB w w1015 [(rndR true (comp (vs891 1) 0) (comp (vs891 1) 1) (comp (vs891 1) 3) lv1_ d), (blk b12_ 46 [(Value.int .i64 a), (Value.int .i64 b)]), (row u459 46 2 S2.length (pairs S2)), (row v452 3 1 ((chosenF d.tols.length x).length) (ints (chosenF d.tols.length x))), (rndR true vl438 vs439 vb440 lv441 (movedD d ((m).tmod 500))), (row u421 46 2 S1.length (pairs S1)), (row v414 3 1 ((chosenF d.tols.length x).length) (ints (chosenF d.tols.length x))), (rndR true vl400 vs401 vb402 lv403 d), (row v378 3 1 ((chosenF d.tols.length x).length) (ints (chosenF d.tols.length x))), (rndR true vl364 vs365 vb366 lv367 (movedD d ((m).tmod 500))), (row v342 3 1 ((chosenF d.tols.length x).length) (ints (chosenF d.tols.length x))), (rndR true vl328 vs329 vb330 lv331 d), (row v319 3 1 ((chosenF d.tols.length x).length) (ints (chosenF d.tols.length x))), (lstR lv_ (movedD d ((m).tmod 500)).rds), (row vb_ 62 2 d.tols.length (vpairs (d.tols.zip lv_))), (row vl_ 44 2 ((movedD d ((m).tmod 500)).lots.length) (pairs ((movedD d ((m).tmod 500)).lots))), (blk b39 26 [vl_, rs, (Value.int .i64 d.spread), vb_]), (blk b4 26 [rl, rs, (Value.int .i64 d.spread), rb]), (rndR false rl rs rb rlv d)] := hS1016; clear hS1016 hS1011
       refine st hA1017 (op_extract rfl (hA1017.ev rfl) rfl) rfl rfl (by decide) fun a1019 hA1020 => ?_; clear hA1017 a1005
       refine st hA1020 (op_assign rfl (hA1020.ev rfl)) rfl rfl (by decide) fun a1021 hA1022 => ?_; clear hA1020 a1019
       refine wl_nil ?_
       refine then_n ?_
       refine c_seq ?_
       have hA1023 := hA1022.as [(27, (Value.int .i64 c2)), (26, (bptr b12_ 0)), (10, (bptr b39 0)), (4, (bptr b4 0)), (2, (Value.int .u8 (y : Int)))] rfl; clear hA1022
       refine c_drawF mixed hA1023 hS1018 13 11 rfl rfl [[], [0], [], [2], [], [4], [5], [3, 6], [1, 7], [8], [9], [9], []] [(fun (vs1024 : Nat → Value) (v_ : Value) (rs_ : List Res) => v_ = (Value.agg #[vl_, rs, (Value.int .i64 d.spread), vb_]) ∧ rs_ = []), (fun (vs1024 : Nat → Value) (v_ : Value) (rs_ : List Res) => ∃ (lv1_vs1024 : List Value), v_ = (Value.agg #[(comp v_ 0), (comp v_ 1), (Value.int .i64 ((movedD d ((m).tmod 500)).spread)), (comp v_ 3)]) ∧ rs_ = [(rndR true (comp v_ 0) (comp v_ 1) (comp v_ 3) lv1_vs1024 (movedD d ((m).tmod 500)))]), (fun (vs1024 : Nat → Value) (v_ : Value) (rs_ : List Res) => v_ = (Value.int .u8 (y : Int)) ∧ rs_ = []), (fun (vs1024 : Nat → Value) (v_ : Value) (rs_ : List Res) => v_ = (Value.int .i64 (y : Int)) ∧ rs_ = []), (fun (vs1024 : Nat → Value) (v_ : Value) (rs_ : List Res) => v_ = (bptr b4 3) ∧ rs_ = []), (fun (vs1024 : Nat → Value) (v_ : Value) (rs_ : List Res) => v_ = rb ∧ rs_ = []), (fun (vs1024 : Nat → Value) (v_ : Value) (rs_ : List Res) => v_ = (Value.int .i64 (d.tols.length : Int)) ∧ rs_ = []), (fun (vs1024 : Nat → Value) (v_ : Value) (rs_ : List Res) => v_ = (Value.int .i64 (((y : Int)).tmod (d.tols.length : Int))) ∧ rs_ = []), (fun (vs1024 : Nat → Value) (v_ : Value) (rs_ : List Res) => v_ = (Value.tuple #[(Value.agg #[(Value.int .i64 a), (Value.int .i64 b)]), (Value.int .i64 c2)]) ∧ rs_ = []), (fun (vs1024 : Nat → Value) (v_ : Value) (rs_ : List Res) => v_ = (Value.tuple #[(Value.agg #[(Value.int .i64 a), (Value.int .i64 b)]), (Value.int .i64 c2)]) ∧ rs_ = []), (fun (vs1024 : Nat → Value) (v_ : Value) (rs_ : List Res) => v_ = (Value.agg #[(Value.int .i64 a), (Value.int .i64 b)]) ∧ rs_ = []), (fun (vs1024 : Nat → Value) (v_ : Value) (rs_ : List Res) => v_ = (Value.int .i64 c2) ∧ rs_ = []), (fun (vs1024 : Nat → Value) (v_ : Value) (rs_ : List Res) => ∃ (b12_vs1024 : Nat), v_ = (bptr b12_vs1024 0) ∧ rs_ = [(blk b12_vs1024 46 [(Value.int .i64 0), (Value.int .i64 0)])])] (by decide +kernel) (by decide +kernel) (by decide +kernel) rfl rfl ⟨(fun _ _ _ _ _ h_ => h_), (fun _ _ _ _ _ h_ => h_), (fun _ _ _ _ _ h_ => h_), (fun _ _ _ _ _ h_ => h_), (fun _ _ _ _ _ h_ => h_), (fun _ _ _ _ _ h_ => h_), (fun _ _ _ _ _ h_ => h_), (fun _ _ _ _ _ h_ => h_), (fun _ _ _ _ _ h_ => h_), (fun _ _ _ _ _ h_ => h_), (fun _ _ _ _ _ h_ => h_), (fun _ _ _ _ _ h_ => h_), (fun _ _ _ _ _ h_ => h_), trivial⟩ ?_ ?_ ?_
       ·skip
        refine ⟨fun a w vs1024 hA hS hd => ?_, ?_⟩
        ·skip
         exact opG_of rfl (vv (op_loadA rfl ty_26 (hA.ev rfl) (hS.bk 16 rfl) (l := [vl_, rs, (Value.int .i64 d.spread), vb_]) rfl rfl) (And.intro rfl rfl))
        refine ⟨fun a w vs1024 hA hS hd => ?_, ?_⟩
        ·skip
         obtain ⟨e0, rs0, hy0, hp0⟩ := hd 0 (by decide)
         obtain ⟨hv0, hr0⟩ := hy0; subst hr0
         rw [hv0] at e0
         exact opG_of rfl (vn (op_call rfl en_20 (ev1 (tmp_ev (slot_ev e0 rfl))) (Round_ok vl_ rs vb_ lv_ (movedD d ((m).tmod 500)) _ (show RoundAt _ vl_ rs vb_ lv_ (movedD d ((m).tmod 500)) from ⟨SlAt.of_row (hS.ok_row 15 rfl), (rnd_at (hS.ok 18 _ rfl)).samples, SlAt.of_row (hS.ok_row 14 rfl), (hS.lst_at 13 rfl).2, hll.trans hrl9, hrl9⟩) (moved_thin hV))) (fun v w' h => by obtain ⟨vl, vs, vb, lv, rfl, hT⟩ := h; exact ⟨_, ⟨lv, rfl, rfl⟩, hT, rfl⟩))
        refine ⟨fun a w vs1024 hA hS hd => ?_, ?_⟩
        ·skip
         exact opG_of rfl (vv (op_move rfl (hA.ev rfl)) (And.intro rfl rfl))
        refine ⟨fun a w vs1024 hA hS hd => ?_, ?_⟩
        ·skip
         obtain ⟨e2, rs2, hy2, hp2⟩ := hd 2 (by decide)
         obtain ⟨hv2, hr2⟩ := hy2; subst hr2
         rw [hv2] at e2
         exact opG_of rfl (vv (op_conv un_5 un_3 rfl (tmp_ev (slot_ev e2 rfl)) (v := (y : Int)) (wrap_i64 (by omega) (by omega))) (And.intro rfl rfl))
        refine ⟨fun a w vs1024 hA hS hd => ?_, ?_⟩
        ·skip
         exact opG_of rfl (vv (op_field rfl fd_26_3 (hA.ev rfl)) (And.intro rfl rfl))
        refine ⟨fun a w vs1024 hA hS hd => ?_, ?_⟩
        ·skip
         obtain ⟨e4, rs4, hy4, hp4⟩ := hd 4 (by decide)
         obtain ⟨hv4, hr4⟩ := hy4; subst hr4
         rw [hv4] at e4
         exact opG_of rfl (vv (op_load1 rfl ty_24 (tmp_ev (slot_ev e4 rfl)) (hS.bk 17 rfl) rfl) (And.intro rfl rfl))
        refine ⟨fun a w vs1024 hA hS hd => ?_, ?_⟩
        ·skip
         obtain ⟨e5, rs5, hy5, hp5⟩ := hd 5 (by decide)
         obtain ⟨hv5, hr5⟩ := hy5; subst hr5
         rw [hv5] at e5
         exact opG_of rfl (vv (op_lenS rfl un_24 (tmp_ev (slot_ev e5 rfl)) (rnd_at (hS.ok 18 _ rfl)).labs) (And.intro rfl rfl))
        refine ⟨fun a w vs1024 hA hS hd => ?_, ?_⟩
        ·skip
         obtain ⟨e3, rs3, hy3, hp3⟩ := hd 3 (by decide)
         obtain ⟨hv3, hr3⟩ := hy3; subst hr3
         rw [hv3] at e3
         obtain ⟨e6, rs6, hy6, hp6⟩ := hd 6 (by decide)
         obtain ⟨hv6, hr6⟩ := hy6; subst hr6
         rw [hv6] at e6
         exact opG_of rfl (vv (op_rem rfl (tmp_ev (slot_ev e3 rfl)) (tmp_ev (slot_ev e6 rfl)) (by omega)) (And.intro rfl rfl))
        refine ⟨fun a w vs1024 hA hS hd => ?_, ?_⟩
        ·skip
         obtain ⟨e1, rs1, hy1, hp1⟩ := hd 1 (by decide)
         obtain ⟨lv1_vs1024, hv1, hr1⟩ := hy1; subst hr1
         rw [hv1] at e1
         have hp1_0 := hp1 _ (List.mem_of_getElem? (i := 0) rfl)
         obtain ⟨e7, rs7, hy7, hp7⟩ := hd 7 (by decide)
         obtain ⟨hv7, hr7⟩ := hy7; subst hr7
         rw [hv7] at e7
         exact opG_of rfl (vx (op_call rfl en_32 (ev2 (tmp_ev (slot_ev e1 rfl)) (tmp_ev (slot_ev e7 rfl))) (by have h := (shifts_fn (comp (vs1024 1) 0) (comp (vs1024 1) 1) (comp (vs1024 1) 3) lv1_vs1024 (movedD d ((m).tmod 500)) _ (rnd_at hp1_0) (((y : Int)).tmod (d.tols.length : Int))); rw [hzM] at h; exact h)) (And.intro rfl rfl))
        refine ⟨fun a w vs1024 hA hS hd => ?_, ?_⟩
        ·skip
         obtain ⟨e8, rs8, hy8, hp8⟩ := hd 8 (by decide)
         obtain ⟨hv8, hr8⟩ := hy8; subst hr8
         rw [hv8] at e8
         exact opG_of rfl (vv (op_move rfl (tmp_ev (slot_ev e8 rfl))) (And.intro rfl rfl))
        refine ⟨fun a w vs1024 hA hS hd => ?_, ?_⟩
        ·skip
         obtain ⟨e9, rs9, hy9, hp9⟩ := hd 9 (by decide)
         obtain ⟨hv9, hr9⟩ := hy9; subst hr9
         rw [hv9] at e9
         exact opG_of rfl (vv (op_extract rfl (tmp_ev (slot_ev e9 rfl)) rfl) (And.intro rfl rfl))
        refine ⟨fun a w vs1024 hA hS hd => ?_, ?_⟩
        ·skip
         obtain ⟨e9, rs9, hy9, hp9⟩ := hd 9 (by decide)
         obtain ⟨hv9, hr9⟩ := hy9; subst hr9
         rw [hv9] at e9
         exact opG_of rfl (vv (op_extract rfl (tmp_ev (slot_ev e9 rfl)) rfl) (And.intro rfl rfl))
        refine ⟨fun a w vs1024 hA hS hd => ?_, ?_⟩
        ·skip
         exact opG_of rfl (valloc rfl ze_46 (cs := [(Value.int .i64 0), (Value.int .i64 0)]) rfl (fun b_ => ⟨b_, rfl, rfl⟩))
        trivial
       ·skip
        intro a1025 w1026 vs1024 rsf1030 hA1027 hH1029 hS1028; clear hA1023 hS1018
        obtain ⟨hs_0, hy_0⟩ := hH1029 0 (by decide)
        obtain ⟨hv_0, hr_0⟩ := hy_0
        obtain ⟨hs_1, hy_1⟩ := hH1029 1 (by decide)
        obtain ⟨lv1_vs1024, hv_1, hr_1⟩ := hy_1
        obtain ⟨hs_2, hy_2⟩ := hH1029 2 (by decide)
        obtain ⟨hv_2, hr_2⟩ := hy_2
        obtain ⟨hs_3, hy_3⟩ := hH1029 3 (by decide)
        obtain ⟨hv_3, hr_3⟩ := hy_3
        obtain ⟨hs_4, hy_4⟩ := hH1029 4 (by decide)
        obtain ⟨hv_4, hr_4⟩ := hy_4
        obtain ⟨hs_5, hy_5⟩ := hH1029 5 (by decide)
        obtain ⟨hv_5, hr_5⟩ := hy_5
        obtain ⟨hs_6, hy_6⟩ := hH1029 6 (by decide)
        obtain ⟨hv_6, hr_6⟩ := hy_6
        obtain ⟨hs_7, hy_7⟩ := hH1029 7 (by decide)
        obtain ⟨hv_7, hr_7⟩ := hy_7
        obtain ⟨hs_8, hy_8⟩ := hH1029 8 (by decide)
        obtain ⟨hv_8, hr_8⟩ := hy_8
        obtain ⟨hs_9, hy_9⟩ := hH1029 9 (by decide)
        obtain ⟨hv_9, hr_9⟩ := hy_9
        obtain ⟨hs_10, hy_10⟩ := hH1029 10 (by decide)
        obtain ⟨hv_10, hr_10⟩ := hy_10
        obtain ⟨hs_11, hy_11⟩ := hH1029 11 (by decide)
        obtain ⟨hv_11, hr_11⟩ := hy_11
        obtain ⟨hs_12, hy_12⟩ := hH1029 12 (by decide)
        obtain ⟨b12_vs1024, hv_12, hr_12⟩ := hy_12
        have hS1031 : Sep NoB w w1026 [(rndR true (comp (vs1024 1) 0) (comp (vs1024 1) 1) (comp (vs1024 1) 3) lv1_vs1024 (movedD d ((m).tmod 500))), (blk b12_vs1024 46 [(Value.int .i64 0), (Value.int .i64 0)]), (rndR true (comp (vs891 1) 0) (comp (vs891 1) 1) (comp (vs891 1) 3) lv1_ d), (blk b12_ 46 [(Value.int .i64 a), (Value.int .i64 b)]), (row u459 46 2 S2.length (pairs S2)), (row v452 3 1 ((chosenF d.tols.length x).length) (ints (chosenF d.tols.length x))), (rndR true vl438 vs439 vb440 lv441 (movedD d ((m).tmod 500))), (row u421 46 2 S1.length (pairs S1)), (row v414 3 1 ((chosenF d.tols.length x).length) (ints (chosenF d.tols.length x))), (rndR true vl400 vs401 vb402 lv403 d), (row v378 3 1 ((chosenF d.tols.length x).length) (ints (chosenF d.tols.length x))), (rndR true vl364 vs365 vb366 lv367 (movedD d ((m).tmod 500))), (row v342 3 1 ((chosenF d.tols.length x).length) (ints (chosenF d.tols.length x))), (rndR true vl328 vs329 vb330 lv331 d), (row v319 3 1 ((chosenF d.tols.length x).length) (ints (chosenF d.tols.length x))), (lstR lv_ (movedD d ((m).tmod 500)).rds), (row vb_ 62 2 d.tols.length (vpairs (d.tols.zip lv_))), (row vl_ 44 2 ((movedD d ((m).tmod 500)).lots.length) (pairs ((movedD d ((m).tmod 500)).lots))), (blk b39 26 [vl_, rs, (Value.int .i64 d.spread), vb_]), (blk b4 26 [rl, rs, (Value.int .i64 d.spread), rb]), (rndR false rl rs rb rlv d)] := by rw [show catR rsf1030 0 13 = ([(rndR true (comp (vs1024 1) 0) (comp (vs1024 1) 1) (comp (vs1024 1) 3) lv1_vs1024 (movedD d ((m).tmod 500))), (blk b12_vs1024 46 [(Value.int .i64 0), (Value.int .i64 0)])] : List Res) by (try simp only [catR, hr_0, hr_1, hr_2, hr_3, hr_4, hr_5, hr_6, hr_7, hr_8, hr_9, hr_10, hr_11, hr_12]); (try rfl)] at hS1028; exact hS1028
        rw [hv_10] at hs_10
        have hA1032 : Fr 258 [] [(245, (Value.agg #[(Value.int .i64 a), (Value.int .i64 b)])), (27, (Value.int .i64 c2)), (26, (bptr b12_ 0)), (10, (bptr b39 0)), (4, (bptr b4 0)), (2, (Value.int .u8 (y : Int)))] a1025 := hA1027.add (slot_ev hs_10 rfl); clear hA1027
        rw [hv_11] at hs_11
        have hA1033 : Fr 258 [] [(246, (Value.int .i64 c2)), (245, (Value.agg #[(Value.int .i64 a), (Value.int .i64 b)])), (27, (Value.int .i64 c2)), (26, (bptr b12_ 0)), (10, (bptr b39 0)), (4, (bptr b4 0)), (2, (Value.int .u8 (y : Int)))] a1025 := hA1032.add (slot_ev hs_11 rfl); clear hA1032
        rw [hv_12] at hs_12
        have hA1034 : Fr 258 [] [(28, (bptr b12_vs1024 0)), (246, (Value.int .i64 c2)), (245, (Value.agg #[(Value.int .i64 a), (Value.int .i64 b)])), (27, (Value.int .i64 c2)), (26, (bptr b12_ 0)), (10, (bptr b39 0)), (4, (bptr b4 0)), (2, (Value.int .u8 (y : Int)))] a1025 := hA1033.add (slot_ev hs_12 rfl); clear hA1033
        clear hH1029 hS1028 hs_0 hs_1 hs_2 hs_3 hs_4 hs_5 hs_6 hs_7 hs_8 hs_9 hs_10 hs_11 hs_12
        clear hr_0
        clear hv_0
        clear hr_1
        clear hv_1
        clear hr_2
        clear hv_2
        clear hr_3
        clear hv_3
        clear hr_4
        clear hv_4
        clear hr_5
        clear hv_5
        clear hr_6
        clear hv_6
        clear hr_7
        clear hv_7
        clear hr_8
        clear hv_8
        clear hr_9
        clear hv_9
        clear hr_10
        clear hv_10
        clear hr_11
        clear hv_11
        clear hr_12
        clear hv_12
        refine sts hA1034 (op_store hS1031 rfl ty_46 (hA1034.ev rfl) (hA1034.ev rfl) (i := 1) rfl (vs := [(Value.int .i64 a), (Value.int .i64 b)]) rfl rfl rfl (Nat.le_of_ble_eq_true rfl)) rfl rfl ?_
        intro _ w1035 hS1036 hA1037; clear hA1034
        have hS1038 : Sep NoB w w1035 [(rndR true (comp (vs1024 1) 0) (comp (vs1024 1) 1) (comp (vs1024 1) 3) lv1_vs1024 (movedD d ((m).tmod 500))), (blk b12_vs1024 46 [(Value.int .i64 a), (Value.int .i64 b)]), (rndR true (comp (vs891 1) 0) (comp (vs891 1) 1) (comp (vs891 1) 3) lv1_ d), (blk b12_ 46 [(Value.int .i64 a), (Value.int .i64 b)]), (row u459 46 2 S2.length (pairs S2)), (row v452 3 1 ((chosenF d.tols.length x).length) (ints (chosenF d.tols.length x))), (rndR true vl438 vs439 vb440 lv441 (movedD d ((m).tmod 500))), (row u421 46 2 S1.length (pairs S1)), (row v414 3 1 ((chosenF d.tols.length x).length) (ints (chosenF d.tols.length x))), (rndR true vl400 vs401 vb402 lv403 d), (row v378 3 1 ((chosenF d.tols.length x).length) (ints (chosenF d.tols.length x))), (rndR true vl364 vs365 vb366 lv367 (movedD d ((m).tmod 500))), (row v342 3 1 ((chosenF d.tols.length x).length) (ints (chosenF d.tols.length x))), (rndR true vl328 vs329 vb330 lv331 d), (row v319 3 1 ((chosenF d.tols.length x).length) (ints (chosenF d.tols.length x))), (lstR lv_ (movedD d ((m).tmod 500)).rds), (row vb_ 62 2 d.tols.length (vpairs (d.tols.zip lv_))), (row vl_ 44 2 ((movedD d ((m).tmod 500)).lots.length) (pairs ((movedD d ((m).tmod 500)).lots))), (blk b39 26 [vl_, rs, (Value.int .i64 d.spread), vb_]), (blk b4 26 [rl, rs, (Value.int .i64 d.spread), rb]), (rndR false rl rs rb rlv d)] := hS1036; clear hS1036 hS1031
        refine st hA1037 (op_assign rfl (hA1037.ev rfl)) rfl rfl (by decide) fun a1039 hA1040 => ?_; clear hA1037 a1025
        refine wl_nil ?_
        refine then_n ?_
        refine c_seq ?_
        refine c_region ?_
        refine st hA1040 (op_move rfl (hA1040.ev rfl)) rfl rfl (by decide) fun a1041 hA1042 => ?_; clear hA1040 a1039
        refine st hA1042 (op_move rfl (hA1042.ev rfl)) rfl rfl (by decide) fun a1043 hA1044 => ?_; clear hA1042 a1041
        refine st hA1044 (op_eql rfl (hA1044.ev rfl) (hA1044.ev rfl)) rfl rfl (by decide) fun a1045 hA1046 => ?_; clear hA1044 a1043
        have hd1047 : c2 = c2 := rfl
        rw [decide_eq_true hd1047] at hA1046
        refine st hA1046 (op_move rfl (hA1046.ev rfl)) rfl rfl (by decide) fun a1048 hA1049 => ?_; clear hA1046 a1045
        refine stg hA1049 (op_loadA rfl ty_46 (hA1049.ev rfl) (hS1038.bk 3 rfl) (l := [(Value.int .i64 a), (Value.int .i64 b)]) rfl rfl) rfl rfl rfl rfl (by decide) fun a1050 hA1051 => ?_; clear hA1049 a1048
        refine stg hA1051 (op_loadA rfl ty_46 (hA1051.ev rfl) (hS1038.bk 1 rfl) (l := [(Value.int .i64 a), (Value.int .i64 b)]) rfl rfl) rfl rfl rfl rfl (by decide) fun a1052 hA1053 => ?_; clear hA1051 a1050
        refine stg hA1053 (op_eqlP tw_46 rfl (hA1053.ev rfl) (hA1053.ev rfl)) rfl rfl rfl rfl (by decide) fun a1054 hA1055 => ?_; clear hA1053 a1052
        have hd1056 : (decide ((a : Int) = a) && decide ((b : Int) = b)) = true := by simp only [decide_true, Bool.and_self]
        rw [hd1056] at hA1055
        have hq1057 := hd1056; simp only [Bool.and_eq_true, Bool.and_eq_false_iff, decide_eq_true_eq, decide_eq_false_iff_not] at hq1057
        refine st hA1055 (op_pick_t rfl (hA1055.ev rfl) (hA1055.ev rfl)) rfl rfl (by decide) fun a1058 hA1059 => ?_; clear hA1055 a1054
        refine st hA1059 (op_move rfl (hA1059.ev rfl)) rfl rfl (by decide) fun a1060 hA1061 => ?_; clear hA1059 a1058
        refine stwg hA1061 (op_call rfl en_18 ev0 (wakes_ok _)) rfl rfl rfl rfl (by decide) ?_
        rintro a1062 _ w1064 ⟨rfl, hE1065⟩ hA1063; have hS1066 := hS1038.step hE1065; clear hE1065 hA1061 hS1038 a1060
        refine st hA1063 (op_pick_t rfl (hA1063.ev rfl) (hA1063.ev rfl)) rfl rfl (by decide) fun a1067 hA1068 => ?_; clear hA1063 a1062
        refine st hA1068 (op_assign rfl (hA1068.ev rfl)) rfl rfl (by decide) fun a1069 hA1070 => ?_; clear hA1068 a1067
        refine wl_nil ?_
        refine then_n ?_
        refine c_ret ?_
        refine fin_run hA1070 (.inl rfl) (run_results1 hA1070 rfl (.tmp rfl)) ?_
        exact ⟨rfl, hS1066.ext⟩
       ·skip
        intro a1071 w1072 vs1024 rsf1076 hA1073 hH1075 hrq hS1074; clear hA1023 hS1018
        obtain ⟨hs_0, hy_0⟩ := hH1075 0 (by decide) (by decide)
        obtain ⟨hv_0, hr_0⟩ := hy_0
        obtain ⟨hs_1, hy_1⟩ := hH1075 1 (by decide) (by decide)
        obtain ⟨lv1_vs1024, hv_1, hr_1⟩ := hy_1
        obtain ⟨hs_2, hy_2⟩ := hH1075 2 (by decide) (by decide)
        obtain ⟨hv_2, hr_2⟩ := hy_2
        obtain ⟨hs_3, hy_3⟩ := hH1075 3 (by decide) (by decide)
        obtain ⟨hv_3, hr_3⟩ := hy_3
        obtain ⟨hs_4, hy_4⟩ := hH1075 4 (by decide) (by decide)
        obtain ⟨hv_4, hr_4⟩ := hy_4
        obtain ⟨hs_5, hy_5⟩ := hH1075 5 (by decide) (by decide)
        obtain ⟨hv_5, hr_5⟩ := hy_5
        obtain ⟨hs_6, hy_6⟩ := hH1075 6 (by decide) (by decide)
        obtain ⟨hv_6, hr_6⟩ := hy_6
        obtain ⟨hs_7, hy_7⟩ := hH1075 7 (by decide) (by decide)
        obtain ⟨hv_7, hr_7⟩ := hy_7
        obtain ⟨hs_8, hy_8⟩ := hH1075 8 (by decide) (by decide)
        obtain ⟨hv_8, hr_8⟩ := hy_8
        obtain ⟨hs_9, hy_9⟩ := hH1075 9 (by decide) (by decide)
        obtain ⟨hv_9, hr_9⟩ := hy_9
        obtain ⟨hs_10, hy_10⟩ := hH1075 10 (by decide) (by decide)
        obtain ⟨hv_10, hr_10⟩ := hy_10
        obtain ⟨hs_12, hy_12⟩ := hH1075 12 (by decide) (by decide)
        obtain ⟨b12_vs1024, hv_12, hr_12⟩ := hy_12
        have hS1077 : Sep NoB w w1072 [(rndR true (comp (vs1024 1) 0) (comp (vs1024 1) 1) (comp (vs1024 1) 3) lv1_vs1024 (movedD d ((m).tmod 500))), (blk b12_vs1024 46 [(Value.int .i64 0), (Value.int .i64 0)]), (rndR true (comp (vs891 1) 0) (comp (vs891 1) 1) (comp (vs891 1) 3) lv1_ d), (blk b12_ 46 [(Value.int .i64 a), (Value.int .i64 b)]), (row u459 46 2 S2.length (pairs S2)), (row v452 3 1 ((chosenF d.tols.length x).length) (ints (chosenF d.tols.length x))), (rndR true vl438 vs439 vb440 lv441 (movedD d ((m).tmod 500))), (row u421 46 2 S1.length (pairs S1)), (row v414 3 1 ((chosenF d.tols.length x).length) (ints (chosenF d.tols.length x))), (rndR true vl400 vs401 vb402 lv403 d), (row v378 3 1 ((chosenF d.tols.length x).length) (ints (chosenF d.tols.length x))), (rndR true vl364 vs365 vb366 lv367 (movedD d ((m).tmod 500))), (row v342 3 1 ((chosenF d.tols.length x).length) (ints (chosenF d.tols.length x))), (rndR true vl328 vs329 vb330 lv331 d), (row v319 3 1 ((chosenF d.tols.length x).length) (ints (chosenF d.tols.length x))), (lstR lv_ (movedD d ((m).tmod 500)).rds), (row vb_ 62 2 d.tols.length (vpairs (d.tols.zip lv_))), (row vl_ 44 2 ((movedD d ((m).tmod 500)).lots.length) (pairs ((movedD d ((m).tmod 500)).lots))), (blk b39 26 [vl_, rs, (Value.int .i64 d.spread), vb_]), (blk b4 26 [rl, rs, (Value.int .i64 d.spread), rb]), (rndR false rl rs rb rlv d)] := by rw [show catR rsf1076 0 13 = ([(rndR true (comp (vs1024 1) 0) (comp (vs1024 1) 1) (comp (vs1024 1) 3) lv1_vs1024 (movedD d ((m).tmod 500))), (blk b12_vs1024 46 [(Value.int .i64 0), (Value.int .i64 0)])] : List Res) by (try simp only [catR, hr_0, hr_1, hr_2, hr_3, hr_4, hr_5, hr_6, hr_7, hr_8, hr_9, hr_10, hr_12, hrq]); (try rfl)] at hS1074; exact hS1074
        rw [hv_9] at hs_9
        have hA1078 : Fr 258 [] [(235, (Value.tuple #[(Value.agg #[(Value.int .i64 a), (Value.int .i64 b)]), (Value.int .i64 c2)])), (27, (Value.int .i64 c2)), (26, (bptr b12_ 0)), (10, (bptr b39 0)), (4, (bptr b4 0)), (2, (Value.int .u8 (y : Int)))] a1071 := hA1073.add (slot_ev hs_9 rfl); clear hA1073
        rw [hv_10] at hs_10
        have hA1079 : Fr 258 [] [(245, (Value.agg #[(Value.int .i64 a), (Value.int .i64 b)])), (235, (Value.tuple #[(Value.agg #[(Value.int .i64 a), (Value.int .i64 b)]), (Value.int .i64 c2)])), (27, (Value.int .i64 c2)), (26, (bptr b12_ 0)), (10, (bptr b39 0)), (4, (bptr b4 0)), (2, (Value.int .u8 (y : Int)))] a1071 := hA1078.add (slot_ev hs_10 rfl); clear hA1078
        rw [hv_12] at hs_12
        have hA1080 : Fr 258 [] [(28, (bptr b12_vs1024 0)), (245, (Value.agg #[(Value.int .i64 a), (Value.int .i64 b)])), (235, (Value.tuple #[(Value.agg #[(Value.int .i64 a), (Value.int .i64 b)]), (Value.int .i64 c2)])), (27, (Value.int .i64 c2)), (26, (bptr b12_ 0)), (10, (bptr b39 0)), (4, (bptr b4 0)), (2, (Value.int .u8 (y : Int)))] a1071 := hA1079.add (slot_ev hs_12 rfl); clear hA1079
        clear hH1075 hS1074 hs_0 hs_1 hs_2 hs_3 hs_4 hs_5 hs_6 hs_7 hs_8 hs_9 hs_10 hs_12 hrq
        clear hr_0
        clear hv_0
        clear hr_1
        clear hv_1
        clear hr_2
        clear hv_2
        clear hr_3
        clear hv_3
        clear hr_4
        clear hv_4
        clear hr_5
        clear hv_5
        clear hr_6
        clear hv_6
        clear hr_7
        clear hv_7
        clear hr_8
        clear hv_8
        clear hr_9
        clear hv_9
        clear hr_10
        clear hv_10
        clear hr_12
        clear hv_12
        refine sts hA1080 (op_store hS1077 rfl ty_46 (hA1080.ev rfl) (hA1080.ev rfl) (i := 1) rfl (vs := [(Value.int .i64 a), (Value.int .i64 b)]) rfl rfl rfl (Nat.le_of_ble_eq_true rfl)) rfl rfl ?_
        intro _ w1081 hS1082 hA1083; clear hA1080
        have hS1084 : Sep NoB w w1081 [(rndR true (comp (vs1024 1) 0) (comp (vs1024 1) 1) (comp (vs1024 1) 3) lv1_vs1024 (movedD d ((m).tmod 500))), (blk b12_vs1024 46 [(Value.int .i64 a), (Value.int .i64 b)]), (rndR true (comp (vs891 1) 0) (comp (vs891 1) 1) (comp (vs891 1) 3) lv1_ d), (blk b12_ 46 [(Value.int .i64 a), (Value.int .i64 b)]), (row u459 46 2 S2.length (pairs S2)), (row v452 3 1 ((chosenF d.tols.length x).length) (ints (chosenF d.tols.length x))), (rndR true vl438 vs439 vb440 lv441 (movedD d ((m).tmod 500))), (row u421 46 2 S1.length (pairs S1)), (row v414 3 1 ((chosenF d.tols.length x).length) (ints (chosenF d.tols.length x))), (rndR true vl400 vs401 vb402 lv403 d), (row v378 3 1 ((chosenF d.tols.length x).length) (ints (chosenF d.tols.length x))), (rndR true vl364 vs365 vb366 lv367 (movedD d ((m).tmod 500))), (row v342 3 1 ((chosenF d.tols.length x).length) (ints (chosenF d.tols.length x))), (rndR true vl328 vs329 vb330 lv331 d), (row v319 3 1 ((chosenF d.tols.length x).length) (ints (chosenF d.tols.length x))), (lstR lv_ (movedD d ((m).tmod 500)).rds), (row vb_ 62 2 d.tols.length (vpairs (d.tols.zip lv_))), (row vl_ 44 2 ((movedD d ((m).tmod 500)).lots.length) (pairs ((movedD d ((m).tmod 500)).lots))), (blk b39 26 [vl_, rs, (Value.int .i64 d.spread), vb_]), (blk b4 26 [rl, rs, (Value.int .i64 d.spread), rb]), (rndR false rl rs rb rlv d)] := hS1082; clear hS1082 hS1077
        refine st hA1083 (op_extract rfl (hA1083.ev rfl) rfl) rfl rfl (by decide) fun a1085 hA1086 => ?_; clear hA1083 a1071
        refine st hA1086 (op_assign rfl (hA1086.ev rfl)) rfl rfl (by decide) fun a1087 hA1088 => ?_; clear hA1086 a1085
        refine wl_nil ?_
        refine then_n ?_
        refine c_seq ?_
        have hA1089 := hA1088.as [(29, (Value.int .i64 c2)), (28, (bptr b12_vs1024 0)), (27, (Value.int .i64 c2)), (26, (bptr b12_ 0))] rfl; clear hA1088
        refine c_region ?_
        refine st hA1089 (op_move rfl (hA1089.ev rfl)) rfl rfl (by decide) fun a1090 hA1091 => ?_; clear hA1089 a1087
        refine st hA1091 (op_move rfl (hA1091.ev rfl)) rfl rfl (by decide) fun a1092 hA1093 => ?_; clear hA1091 a1090
        refine st hA1093 (op_eql rfl (hA1093.ev rfl) (hA1093.ev rfl)) rfl rfl (by decide) fun a1094 hA1095 => ?_; clear hA1093 a1092
        have hd1096 : c2 = c2 := rfl
        rw [decide_eq_true hd1096] at hA1095
        refine st hA1095 (op_move rfl (hA1095.ev rfl)) rfl rfl (by decide) fun a1097 hA1098 => ?_; clear hA1095 a1094
        refine stg hA1098 (op_loadA rfl ty_46 (hA1098.ev rfl) (hS1084.bk 3 rfl) (l := [(Value.int .i64 a), (Value.int .i64 b)]) rfl rfl) rfl rfl rfl rfl (by decide) fun a1099 hA1100 => ?_; clear hA1098 a1097
        refine stg hA1100 (op_loadA rfl ty_46 (hA1100.ev rfl) (hS1084.bk 1 rfl) (l := [(Value.int .i64 a), (Value.int .i64 b)]) rfl rfl) rfl rfl rfl rfl (by decide) fun a1101 hA1102 => ?_; clear hA1100 a1099
        refine stg hA1102 (op_eqlP tw_46 rfl (hA1102.ev rfl) (hA1102.ev rfl)) rfl rfl rfl rfl (by decide) fun a1103 hA1104 => ?_; clear hA1102 a1101
        have hd1105 : (decide ((a : Int) = a) && decide ((b : Int) = b)) = true := by simp only [decide_true, Bool.and_self]
        rw [hd1105] at hA1104
        have hq1106 := hd1105; simp only [Bool.and_eq_true, Bool.and_eq_false_iff, decide_eq_true_eq, decide_eq_false_iff_not] at hq1106
        refine st hA1104 (op_pick_t rfl (hA1104.ev rfl) (hA1104.ev rfl)) rfl rfl (by decide) fun a1107 hA1108 => ?_; clear hA1104 a1103
        refine st hA1108 (op_move rfl (hA1108.ev rfl)) rfl rfl (by decide) fun a1109 hA1110 => ?_; clear hA1108 a1107
        refine stwg hA1110 (op_call rfl en_18 ev0 (wakes_ok _)) rfl rfl rfl rfl (by decide) ?_
        rintro a1111 _ w1113 ⟨rfl, hE1114⟩ hA1112; have hS1115 := hS1084.step hE1114; clear hE1114 hA1110 hS1084 a1109
        refine st hA1112 (op_pick_t rfl (hA1112.ev rfl) (hA1112.ev rfl)) rfl rfl (by decide) fun a1116 hA1117 => ?_; clear hA1112 a1111
        refine st hA1117 (op_assign rfl (hA1117.ev rfl)) rfl rfl (by decide) fun a1118 hA1119 => ?_; clear hA1117 a1116
        refine wl_nil ?_
        refine then_n ?_
        refine c_ret ?_
        refine fin_run hA1119 (.inl rfl) (run_results1 hA1119 rfl (.tmp rfl)) ?_
        exact ⟨rfl, hS1115.ext⟩

theorem RoundMoved_ok (rl rs rb : Value) (rlv : List Value) (d : RD) (w : World) (hR : RoundAt w rl rs rb rlv d) (n1 : Int) (h1 : 0 ≤ n1 ∧ n1 ≤ 255) (n2 : Int) (h2 : 0 ≤ n2 ∧ n2 ≤ 255) (m : Int) (hm : 0 ≤ m ∧ m ≤ 65535) : Calls Try.prog 12 #[.agg #[rl, rs, .int .i64 d.spread, rb], .int .u8 n1, .int .u8 n2, .int .u16 m] w (Ret fun v w' => v = .bool true ∧ Ext NoB w w') := by
 obtain ⟨x, rfl⟩ : ∃ x : Nat, n1 = (x : Int) := ⟨n1.toNat, by omega⟩
 obtain ⟨y, rfl⟩ : ∃ y : Nat, n2 = (y : Int) := ⟨n2.toNat, by omega⟩
 rcases Bool.eq_false_or_eq_true (readyB d) with hf | hf
 ·by_cases hcM : checkR (movedD d (m.tmod 500)) = 0
  ·have hc := (ready_of hf).2
   have hV := valid_of hc
   have hM := valid_of hcM
   have hn := (tmod_nn hm.1 (show (0 : Int) < 500 by decide)).1
   have hns := hV.ns
   have hex : explB (movedD d (m.tmod 500)) (offB d.tols.length x) = explB d (offB d.tols.length x) := moved_ok hV hM hn
   have heM : explainsF (movedD d (m.tmod 500)) (chosenF d.tols.length x) = (explB d (offB d.tols.length x), 0) := (chosen_explains hcM x).trans (by rw [← hex]; rfl)
   have hz := moved_shifts hc hcM hn ((y : Int).tmod (d.tols.length : Int))
   obtain ⟨⟨⟨a, b⟩, c2⟩, e2⟩ : ∃ r, shiftsR d ((y : Int).tmod (d.tols.length : Int)) = r := ⟨_, rfl⟩
   rcases Bool.eq_false_or_eq_true (explB d (offB d.tols.length x)) with hx | hx
   ·refine RoundMoved_c rl rs rb rlv d w hR x (by omega) y (by omega) m hm hf hcM _ (chosen_explains hc x) heM _ _ 0 (spansR_yes hc (chosen_rise _ _) hx) (spansR_yes hcM (chosen_rise _ _) (hex.trans hx)) ?_ ?_ (fun k hk => ?_) a b c2 e2 (hz.trans e2)
    ·exact (spansF_len (d := movedD d (m.tmod 500)) (hex.trans hx)).trans (spansF_len hx).symm
    ·exact Nat.le_trans (Nat.le_of_eq (spansF_len hx)) hns
    ·have hk : k < d.samples.length := Nat.lt_of_lt_of_eq hk (spansF_len hx)
     exact ⟨span_bd hV hx hk, moved_span hV hM hn hx hk⟩
   ·exact RoundMoved_c rl rs rb rlv d w hR x (by omega) y (by omega) m hm hf hcM _ (chosen_explains hc x) heM [] [] 9 (spansR_fail hc (chosen_rise _ _) hx) (spansR_fail hcM (chosen_rise _ _) (hex.trans hx)) rfl (by simp) (fun k hk => absurd hk (Nat.not_lt_zero _)) a b c2 e2 (hz.trans e2)
  ·exact RoundMoved_b rl rs rb rlv d w hR x (by omega) y (by omega) m hm hf hcM
 ·exact RoundMoved_a rl rs rb rlv d w hR x (by omega) y (by omega) m hm hf

end Go.Proofs.Ytfhmigoddaaljaa
