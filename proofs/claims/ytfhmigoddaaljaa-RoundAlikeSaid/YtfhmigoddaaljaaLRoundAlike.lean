/-
  Walks through the functions of the seat, printed by a program of ours (gowalk), a theorem a function: what the call returns and what it leaves in memory.
-/
import Derived.Test.YtfhmigoddaaljaaFi
import Derived.Test.YtfhmigoddaaljaaPlain
set_option linter.unusedSimpArgs false
set_option linter.unusedVariables false
namespace Go.Proofs.Ytfhmigoddaaljaa
open Go.RowKit Go.Shelf Go.Eng
set_option maxHeartbeats 4000000 in
theorem RoundAlike_a (rl rs rb : Value) (rlv : List Value) (d : RD) (w : World) (hR : RoundAt w rl rs rb rlv d) (wv : Value) (ws : List Int) (hws : SlAt w wv 1 ws.length (ws.map (Value.int .u16))) (hww : ∀ x ∈ ws, 0 ≤ x ∧ x ≤ 65535) (x : Nat) (hxb : x < 256) (sh : Int) (hsb : -32768 ≤ sh ∧ sh ≤ 32767) (hf : readyB d = false) :
  Calls Try.prog 11 #[(Value.agg #[rl, rs, (Value.int .i64 d.spread), rb]), wv, (Value.int .u8 (x : Int)), (Value.int .i16 sh)] w (Ret fun v w' => v = .bool true ∧ Ext NoB w w') := by
 refine calls_enter Try.func11 rfl fun a0 hA0 => ?_
 replace hA0 : Fr 132 [] [(0, (Value.agg #[rl, rs, (Value.int .i64 d.spread), rb])), (1, wv), (2, (Value.int .u8 (x : Int))), (3, (Value.int .i16 sh))] a0 := hA0
 have hS0 : Sep NoB w w [(sl wv 1 ws.length (ws.map (Value.int .u16))), (rndR false rl rs rb rlv d)] := sep_ro ⟨rfl, hws, rfl, hR, trivial⟩
 refine c_seq ?_
 refine c_region ?_
 refine stw hA0 (op_box hS0 rfl (hA0.ev rfl) (cs := [rl, rs, (Value.int .i64 d.spread), rb]) rfl) rfl rfl (by decide) ?_
 rintro a1 _ w3 ⟨b4, rfl, hS5⟩ hA2; clear hA0 hS0 a0
 refine st hA2 (op_assign rfl (evc _ _)) rfl rfl (by decide) fun a6 hA7 => ?_; clear hA2 a1
 refine wl_nil ?_
 refine then_n ?_
 refine c_seq ?_
 refine c_seq ?_
 refine c_region ?_
 refine st hA7 (op_loadA rfl ty_26 (hA7.ev rfl) (hS5.bk 0 rfl) (l := [rl, rs, (Value.int .i64 d.spread), rb]) rfl rfl) rfl rfl (by decide) fun a8 hA9 => ?_; clear hA7 a6
 refine stw hA9 (op_call rfl en_35 (ev1 (hA9.ev rfl)) (ready_ok rl rs rb rlv d _ (rnd_at (hS5.ok 2 _ rfl)))) rfl rfl (by decide) ?_
 rintro a10 _ w12 ⟨rfl, hE13⟩ hA11; have hS14 := hS5.step hE13; clear hE13 hA9 hS5 a8
 rw [hf] at hA11
 refine st hA11 (op_not rfl (hA11.ev rfl)) rfl rfl (by decide) fun a15 hA16 => ?_; clear hA11 a10
 refine st hA16 (op_move rfl (hA16.ev rfl)) rfl rfl (by decide) fun a17 hA18 => ?_; clear hA16 a15
 refine skp hA18 rfl rfl rfl rfl rfl (by decide) fun a19 hA20 => ?_; clear hA18 a17
 refine skp hA20 rfl rfl rfl rfl rfl (by decide) fun a21 hA22 => ?_; clear hA20 a19
 refine skp hA22 rfl rfl rfl rfl rfl (by decide) fun a23 hA24 => ?_; clear hA22 a21
 refine skp hA24 rfl rfl rfl rfl rfl (by decide) fun a25 hA26 => ?_; clear hA24 a23
 refine st hA26 (op_pick_t rfl (hA26.ev rfl) (evc _ _)) rfl rfl (by decide) fun a27 hA28 => ?_; clear hA26 a25
 refine wl_nil ?_
 refine then_n ?_
 refine c_true hA28 rfl ?_
 refine c_seq ?_
 have hA29 := hA28.as [] rfl; clear hA28
 refine c_region ?_
 refine stw hA29 (op_call rfl en_18 ev0 (wakes_ok _)) rfl rfl (by decide) ?_
 rintro a30 _ w32 ⟨rfl, hE33⟩ hA31; have hS34 := hS14.step hE33; clear hE33 hA29 hS14 a27
 refine st hA31 (op_assign rfl (hA31.ev rfl)) rfl rfl (by decide) fun a35 hA36 => ?_; clear hA31 a30
 refine wl_nil ?_
 refine then_n ?_
 refine c_ret ?_
 refine then_ret ?_
 refine fin_run hA36 (.inl rfl) (run_results1 hA36 rfl (.tmp rfl)) ?_
 exact ⟨rfl, hS34.ext⟩

set_option maxHeartbeats 4000000 in
theorem RoundAlike_b (rl rs rb : Value) (rlv : List Value) (d : RD) (w : World) (hR : RoundAt w rl rs rb rlv d) (wv : Value) (ws : List Int) (hws : SlAt w wv 1 ws.length (ws.map (Value.int .u16))) (hww : ∀ x ∈ ws, 0 ≤ x ∧ x ≤ 65535) (x : Nat) (hxb : x < 256) (sh : Int) (hsb : -32768 ≤ sh ∧ sh ≤ 32767) (hf : readyB d = true) (hn0 : d.tols.length = 0) :
  Calls Try.prog 11 #[(Value.agg #[rl, rs, (Value.int .i64 d.spread), rb]), wv, (Value.int .u8 (x : Int)), (Value.int .i16 sh)] w (Ret fun v w' => v = .bool true ∧ Ext NoB w w') := by
 refine calls_enter Try.func11 rfl fun a0 hA0 => ?_
 replace hA0 : Fr 132 [] [(0, (Value.agg #[rl, rs, (Value.int .i64 d.spread), rb])), (1, wv), (2, (Value.int .u8 (x : Int))), (3, (Value.int .i16 sh))] a0 := hA0
 have hS0 : Sep NoB w w [(sl wv 1 ws.length (ws.map (Value.int .u16))), (rndR false rl rs rb rlv d)] := sep_ro ⟨rfl, hws, rfl, hR, trivial⟩
 refine c_seq ?_
 refine c_region ?_
 refine stw hA0 (op_box hS0 rfl (hA0.ev rfl) (cs := [rl, rs, (Value.int .i64 d.spread), rb]) rfl) rfl rfl (by decide) ?_
 rintro a1 _ w3 ⟨b4, rfl, hS5⟩ hA2; clear hA0 hS0 a0
 refine st hA2 (op_assign rfl (evc _ _)) rfl rfl (by decide) fun a6 hA7 => ?_; clear hA2 a1
 refine wl_nil ?_
 refine then_n ?_
 refine c_seq ?_
 refine c_seq ?_
 refine c_region ?_
 refine st hA7 (op_loadA rfl ty_26 (hA7.ev rfl) (hS5.bk 0 rfl) (l := [rl, rs, (Value.int .i64 d.spread), rb]) rfl rfl) rfl rfl (by decide) fun a8 hA9 => ?_; clear hA7 a6
 refine stw hA9 (op_call rfl en_35 (ev1 (hA9.ev rfl)) (ready_ok rl rs rb rlv d _ (rnd_at (hS5.ok 2 _ rfl)))) rfl rfl (by decide) ?_
 rintro a10 _ w12 ⟨rfl, hE13⟩ hA11; have hS14 := hS5.step hE13; clear hE13 hA9 hS5 a8
 rw [hf] at hA11
 refine st hA11 (op_not rfl (hA11.ev rfl)) rfl rfl (by decide) fun a15 hA16 => ?_; clear hA11 a10
 refine st hA16 (op_move rfl (hA16.ev rfl)) rfl rfl (by decide) fun a17 hA18 => ?_; clear hA16 a15
 refine stg hA18 (op_field rfl fd_26_3 (hA18.ev rfl)) rfl rfl rfl rfl (by decide) fun a19 hA20 => ?_; clear hA18 a17
 refine stg hA20 (op_load1 rfl ty_24 (hA20.ev rfl) (hS14.bk 0 rfl) rfl) rfl rfl rfl rfl (by decide) fun a21 hA22 => ?_; clear hA20 a19
 refine stg hA22 (op_lenS rfl un_24 (hA22.ev rfl) (rnd_at (hS14.ok 2 _ rfl)).labs) rfl rfl rfl rfl (by decide) fun a23 hA24 => ?_; clear hA22 a21
 refine stg hA24 (op_eql rfl (hA24.ev rfl) (evc _ _)) rfl rfl rfl rfl (by decide) fun a25 hA26 => ?_; clear hA24 a23
 have hd27 : (d.tols.length : Int) = 0 := (by omega)
 rw [decide_eq_true hd27] at hA26
 refine st hA26 (op_pick_f rfl (hA26.ev rfl) (hA26.ev rfl)) rfl rfl (by decide) fun a28 hA29 => ?_; clear hA26 a25
 refine wl_nil ?_
 refine then_n ?_
 refine c_true hA29 rfl ?_
 refine c_seq ?_
 have hA30 := hA29.as [] rfl; clear hA29
 refine c_region ?_
 refine stw hA30 (op_call rfl en_18 ev0 (wakes_ok _)) rfl rfl (by decide) ?_
 rintro a31 _ w33 ⟨rfl, hE34⟩ hA32; have hS35 := hS14.step hE34; clear hE34 hA30 hS14 a28
 refine st hA32 (op_assign rfl (hA32.ev rfl)) rfl rfl (by decide) fun a36 hA37 => ?_; clear hA32 a31
 refine wl_nil ?_
 refine then_n ?_
 refine c_ret ?_
 refine then_ret ?_
 refine fin_run hA37 (.inl rfl) (run_results1 hA37 rfl (.tmp rfl)) ?_
 exact ⟨rfl, hS35.ext⟩

set_option maxHeartbeats 4000000 in
theorem RoundAlike_c (rl rs rb : Value) (rlv : List Value) (d : RD) (w : World) (hR : RoundAt w rl rs rb rlv d) (wv : Value) (ws : List Int) (hws : SlAt w wv 1 ws.length (ws.map (Value.int .u16))) (hww : ∀ x ∈ ws, 0 ≤ x ∧ x ≤ 65535) (x : Nat) (hxb : x < 256) (sh : Int) (hsb : -32768 ≤ sh ∧ sh ≤ 32767) (hf : readyB d = true) (hn0 : 0 < d.tols.length) (k : Nat) (hk : (x : Int).tmod (d.tols.length : Int) = (k : Int)) (hkb : k < d.tols.length) (lo hi : Int) (hs0 : shiftsR (madeD d ws (trueF d ws d.samples.length) (1 * 2 ^ k) (sh.tmod 1000)) (k : Int) = ((lo, hi), 0)) (hs1 : lo ≤ sh.tmod 1000) (hs2 : sh.tmod 1000 ≤ hi) (he : explB d off0 = false) (hx : explB d (off0.set k true) = false) (h2 : shiftsR d (k : Int) = ((0, 0), 9)) :
  Calls Try.prog 11 #[(Value.agg #[rl, rs, (Value.int .i64 d.spread), rb]), wv, (Value.int .u8 (x : Int)), (Value.int .i16 sh)] w (Ret fun v w' => v = .bool true ∧ Ext NoB w w') := by
 refine calls_enter Try.func11 rfl fun a0 hA0 => ?_
 replace hA0 : Fr 132 [] [(0, (Value.agg #[rl, rs, (Value.int .i64 d.spread), rb])), (1, wv), (2, (Value.int .u8 (x : Int))), (3, (Value.int .i16 sh))] a0 := hA0
 have hth := thin_of (ready_of hf).1; have hc := (ready_of hf).2; have hV := valid_of hc; have hnb := hV.nb; have hns := hV.ns; have hnl := hV.nl; have htm := tmod_bd sh 1000 (by decide); have hkn : ((x : Int).tmod (d.tols.length : Int)).toNat = k := (by omega); have hpw : (2 : Nat) ^ k ≤ 32 := Nat.le_trans (Nat.pow_le_pow_right (n := 2) (Nat.le_of_ble_eq_true rfl) (show k ≤ 5 by omega)) (Nat.le_of_ble_eq_true rfl)
 have hS0 : Sep NoB w w [(sl wv 1 ws.length (ws.map (Value.int .u16))), (rndR false rl rs rb rlv d)] := sep_ro ⟨rfl, hws, rfl, hR, trivial⟩
 refine c_seq ?_
 refine c_region ?_
 refine stw hA0 (op_box hS0 rfl (hA0.ev rfl) (cs := [rl, rs, (Value.int .i64 d.spread), rb]) rfl) rfl rfl (by decide) ?_
 rintro a1 _ w3 ⟨b4, rfl, hS5⟩ hA2; clear hA0 hS0 a0
 refine st hA2 (op_assign rfl (evc _ _)) rfl rfl (by decide) fun a6 hA7 => ?_; clear hA2 a1
 refine wl_nil ?_
 refine then_n ?_
 refine c_seq ?_
 refine c_seq ?_
 refine c_region ?_
 refine st hA7 (op_loadA rfl ty_26 (hA7.ev rfl) (hS5.bk 0 rfl) (l := [rl, rs, (Value.int .i64 d.spread), rb]) rfl rfl) rfl rfl (by decide) fun a8 hA9 => ?_; clear hA7 a6
 refine stw hA9 (op_call rfl en_35 (ev1 (hA9.ev rfl)) (ready_ok rl rs rb rlv d _ (rnd_at (hS5.ok 2 _ rfl)))) rfl rfl (by decide) ?_
 rintro a10 _ w12 ⟨rfl, hE13⟩ hA11; have hS14 := hS5.step hE13; clear hE13 hA9 hS5 a8
 rw [hf] at hA11
 refine st hA11 (op_not rfl (hA11.ev rfl)) rfl rfl (by decide) fun a15 hA16 => ?_; clear hA11 a10
 refine st hA16 (op_move rfl (hA16.ev rfl)) rfl rfl (by decide) fun a17 hA18 => ?_; clear hA16 a15
 refine stg hA18 (op_field rfl fd_26_3 (hA18.ev rfl)) rfl rfl rfl rfl (by decide) fun a19 hA20 => ?_; clear hA18 a17
 refine stg hA20 (op_load1 rfl ty_24 (hA20.ev rfl) (hS14.bk 0 rfl) rfl) rfl rfl rfl rfl (by decide) fun a21 hA22 => ?_; clear hA20 a19
 refine stg hA22 (op_lenS rfl un_24 (hA22.ev rfl) (rnd_at (hS14.ok 2 _ rfl)).labs) rfl rfl rfl rfl (by decide) fun a23 hA24 => ?_; clear hA22 a21
 refine stg hA24 (op_eql rfl (hA24.ev rfl) (evc _ _)) rfl rfl rfl rfl (by decide) fun a25 hA26 => ?_; clear hA24 a23
 have hd27 : ¬ ((d.tols.length : Int) = 0) := (by omega)
 rw [decide_eq_false hd27] at hA26
 refine st hA26 (op_pick_f rfl (hA26.ev rfl) (hA26.ev rfl)) rfl rfl (by decide) fun a28 hA29 => ?_; clear hA26 a25
 refine wl_nil ?_
 refine then_n ?_
 refine c_false hA29 rfl ?_
 refine c_skip ?_
 refine then_n ?_
 refine c_seq ?_
 have hA30 := hA29.as [(4, (bptr b4 0)), (1, wv), (2, (Value.int .u8 (x : Int))), (3, (Value.int .i16 sh))] rfl; clear hA29
 refine c_region ?_
 refine st hA30 (op_move rfl (hA30.ev rfl)) rfl rfl (by decide) fun a31 hA32 => ?_; clear hA30 a28
 refine st hA32 (op_conv un_5 un_3 rfl (hA32.ev rfl) (v := (x : Int)) (wrap_i64 (by omega) (by omega))) rfl rfl (by decide) fun a33 hA34 => ?_; clear hA32 a31
 refine st hA34 (op_field rfl fd_26_3 (hA34.ev rfl)) rfl rfl (by decide) fun a35 hA36 => ?_; clear hA34 a33
 refine st hA36 (op_load1 rfl ty_24 (hA36.ev rfl) (hS14.bk 0 rfl) rfl) rfl rfl (by decide) fun a37 hA38 => ?_; clear hA36 a35
 refine st hA38 (op_lenS rfl un_24 (hA38.ev rfl) (rnd_at (hS14.ok 2 _ rfl)).labs) rfl rfl (by decide) fun a39 hA40 => ?_; clear hA38 a37
 refine st hA40 (op_rem rfl (hA40.ev rfl) (hA40.ev rfl) (by omega)) rfl rfl (by decide) fun a41 hA42 => ?_; clear hA40 a39
 refine st hA42 (op_move rfl (hA42.ev rfl)) rfl rfl (by decide) fun a43 hA44 => ?_; clear hA42 a41
 refine st hA44 (op_conv un_69 un_3 rfl (hA44.ev rfl) (v := sh) (wrap_i64 (by omega) (by omega))) rfl rfl (by decide) fun a45 hA46 => ?_; clear hA44 a43
 refine st hA46 (op_rem rfl (hA46.ev rfl) (evc _ _) (by omega)) rfl rfl (by decide) fun a47 hA48 => ?_; clear hA46 a45
 refine st hA48 (op_assign rfl (hA48.ev rfl)) rfl rfl (by decide) fun a49 hA50 => ?_; clear hA48 a47
 refine st hA50 (op_assign rfl (hA50.ev rfl)) rfl rfl (by decide) fun a51 hA52 => ?_; clear hA50 a49
 refine wl_nil ?_
 refine then_n ?_
 refine c_seq ?_
 have hA53 := hA52.as [(10, (Value.int .i64 ((sh).tmod 1000))), (9, (Value.int .i64 (((x : Int)).tmod (d.tols.length : Int)))), (4, (bptr b4 0)), (1, wv)] rfl; clear hA52
 refine c_region ?_
 refine st hA53 (op_loadA rfl ty_26 (hA53.ev rfl) (hS14.bk 0 rfl) (l := [rl, rs, (Value.int .i64 d.spread), rb]) rfl rfl) rfl rfl (by decide) fun a54 hA55 => ?_; clear hA53 a51
 refine st hA55 (op_move rfl (hA55.ev rfl)) rfl rfl (by decide) fun a56 hA57 => ?_; clear hA55 a54
 refine st hA57 (op_move rfl (hA57.ev rfl)) rfl rfl (by decide) fun a58 hA59 => ?_; clear hA57 a56
 refine st hA59 (op_conv un_3 un_71 rfl (hA59.ev rfl) (v := ((x : Int)).tmod (d.tols.length : Int)) (wrap_u64 (by omega) (by omega))) rfl rfl (by decide) fun a60 hA61 => ?_; clear hA59 a58
 refine st hA61 (op_shl8 rfl (m := 1) (show _ = Value.int .u8 ((1 : Nat) : Int) from (evc _ _)) (k := (((x : Int)).tmod (d.tols.length : Int)).toNat) ((hA61.ev rfl).trans (int_nat (by omega))) (by rw [hkn]; omega) (by omega)) rfl rfl (by decide) fun a62 hA63 => ?_; clear hA61 a60
 refine st hA63 (op_move rfl (hA63.ev rfl)) rfl rfl (by decide) fun a64 hA65 => ?_; clear hA63 a62
 refine stw hA65 (op_call rfl en_37 (ev4 (hA65.ev rfl) (hA65.ev rfl) (hA65.ev rfl) (hA65.ev rfl)) (Read_ok rl rs rb rlv d _ (rnd_at (hS14.ok 2 _ rfl)) _ ws (hS14.sk 1 rfl) hww (1 * 2 ^ (((x : Int)).tmod (d.tols.length : Int)).toNat : Nat) ((sh).tmod 1000) hV (by omega))) rfl rfl (by decide) ?_
 rintro a66 _ w68 ⟨vb69, lv70, rfl, hT71⟩ hA67; have hS72 := hS14.callS hT71 rfl; clear hT71 hA65 hS14 a64
 have hll_lv70 := hS72.lst_len 1 rfl; have hrl_lv70 : (madeD d ws (trueF d ws d.samples.length) (1 * 2 ^ (((x : Int)).tmod (d.tols.length : Int)).toNat : Nat) ((sh).tmod 1000)).rds.length = d.tols.length := by simp [madeD]
 refine stw hA67 (op_alloc hS72 rfl ze_26 (cs := [(Value.slice none 0 0), (Value.slice none 0 0), (Value.int .i64 0), (Value.slice none 0 0)]) rfl) rfl rfl (by decide) ?_
 rintro a73 _ w75 ⟨b76, rfl, hS77⟩ hA74; clear hA67 hS72 a66
 refine sts hA74 (op_store hS77 rfl ty_26 (hA74.ev rfl) (hA74.ev rfl) (i := 0) rfl (vs := [rl, rs, (Value.int .i64 d.spread), vb69]) rfl rfl (all_c (SlAt.one (rnd_at (hS77.ok 5 _ rfl)).lots) (all_c (SlAt.one (rnd_at (hS77.ok 5 _ rfl)).samples) (all_c rfl (all_c (SlAt.one (SlAt.of_row (hS77.ok_row 1 rfl))) all_n)))) (Nat.le_of_ble_eq_true rfl)) rfl rfl ?_
 intro _ w78 hS79 hA80; clear hA74
 have hS81 : Sep NoB w w78 [(blk b76 26 [rl, rs, (Value.int .i64 d.spread), vb69]), (row vb69 62 2 d.tols.length (vpairs (d.tols.zip lv70))), (lstR lv70 (madeD d ws (trueF d ws d.samples.length) (1 * 2 ^ (((x : Int)).tmod (d.tols.length : Int)).toNat : Nat) ((sh).tmod 1000)).rds), (blk b4 26 [rl, rs, (Value.int .i64 d.spread), rb]), (sl wv 1 ws.length (ws.map (Value.int .u16))), (rndR false rl rs rb rlv d)] := hS79; clear hS79 hS77
 refine wl_nil ?_
 refine then_n ?_
 refine c_seq ?_
 have hA82 := hA80.as [(11, (bptr b76 0)), (10, (Value.int .i64 ((sh).tmod 1000))), (9, (Value.int .i64 (((x : Int)).tmod (d.tols.length : Int)))), (4, (bptr b4 0))] rfl; clear hA80
 refine c_region ?_
 refine st hA82 (op_loadA rfl ty_26 (hA82.ev rfl) (hS81.bk 0 rfl) (l := [rl, rs, (Value.int .i64 d.spread), vb69]) rfl rfl) rfl rfl (by decide) fun a83 hA84 => ?_; clear hA82 a73
 refine stw hA84 (op_call rfl en_20 (ev1 (hA84.ev rfl)) (Round_ok rl rs vb69 lv70 (madeD d ws (trueF d ws d.samples.length) (1 * 2 ^ (((x : Int)).tmod (d.tols.length : Int)).toNat : Nat) ((sh).tmod 1000)) _ (show RoundAt _ rl rs vb69 lv70 (madeD d ws (trueF d ws d.samples.length) (1 * 2 ^ (((x : Int)).tmod (d.tols.length : Int)).toNat : Nat) ((sh).tmod 1000)) from ⟨(rnd_at (hS81.ok 5 _ rfl)).lots, (rnd_at (hS81.ok 5 _ rfl)).samples, SlAt.of_row (hS81.ok_row 1 rfl), (hS81.lst_at 2 rfl).2, hll_lv70.trans hrl_lv70, hrl_lv70⟩) (made_thin hV))) rfl rfl (by decide) ?_
 rintro a85 _ w87 ⟨vl88, vs89, vb90, lv91, rfl, hT92⟩ hA86; have hS93 := hS81.callS hT92 rfl; clear hT92 hA84 hS81 a83
 refine st hA86 (op_move rfl (hA86.ev rfl)) rfl rfl (by decide) fun a94 hA95 => ?_; clear hA86 a85
 refine stw hA95 (op_call rfl en_32 (ev2 (hA95.ev rfl) (hA95.ev rfl)) (by have h := (shifts_fn vl88 vs89 vb90 lv91 (madeD d ws (trueF d ws d.samples.length) (1 * 2 ^ (((x : Int)).tmod (d.tols.length : Int)).toNat : Nat) ((sh).tmod 1000)) _ (rnd_at (hS93.ok 0 _ rfl)) (((x : Int)).tmod (d.tols.length : Int))); rw [(show shiftsR (madeD d ws (trueF d ws d.samples.length) (1 * 2 ^ (((x : Int)).tmod (d.tols.length : Int)).toNat : Nat) ((sh).tmod 1000)) (((x : Int)).tmod (d.tols.length : Int)) = ((lo, hi), 0) by rw [hkn, hk]; exact hs0)] at h; exact h)) rfl rfl (by decide) ?_
 rintro a96 _ w98 ⟨rfl, hE99⟩ hA97; have hS100 := hS93.step hE99; clear hE99 hA95 hS93 a94
 refine st hA97 (op_move rfl (hA97.ev rfl)) rfl rfl (by decide) fun a101 hA102 => ?_; clear hA97 a96
 refine st hA102 (op_extract rfl (hA102.ev rfl) rfl) rfl rfl (by decide) fun a103 hA104 => ?_; clear hA102 a101
 refine st hA104 (op_extract rfl (hA104.ev rfl) rfl) rfl rfl (by decide) fun a105 hA106 => ?_; clear hA104 a103
 refine stw hA106 (op_alloc hS100 rfl ze_46 (cs := [(Value.int .i64 0), (Value.int .i64 0)]) rfl) rfl rfl (by decide) ?_
 rintro a107 _ w109 ⟨b110, rfl, hS111⟩ hA108; clear hA106 hS100 a105
 refine sts hA108 (op_store hS111 rfl ty_46 (hA108.ev rfl) (hA108.ev rfl) (i := 0) rfl (vs := [(Value.int .i64 lo), (Value.int .i64 hi)]) rfl rfl rfl (Nat.le_of_ble_eq_true rfl)) rfl rfl ?_
 intro _ w112 hS113 hA114; clear hA108
 have hS115 : Sep NoB w w112 [(blk b110 46 [(Value.int .i64 lo), (Value.int .i64 hi)]), (rndR true vl88 vs89 vb90 lv91 (madeD d ws (trueF d ws d.samples.length) (1 * 2 ^ (((x : Int)).tmod (d.tols.length : Int)).toNat : Nat) ((sh).tmod 1000))), (blk b76 26 [rl, rs, (Value.int .i64 d.spread), vb69]), (row vb69 62 2 d.tols.length (vpairs (d.tols.zip lv70))), (lstR lv70 (madeD d ws (trueF d ws d.samples.length) (1 * 2 ^ (((x : Int)).tmod (d.tols.length : Int)).toNat : Nat) ((sh).tmod 1000)).rds), (blk b4 26 [rl, rs, (Value.int .i64 d.spread), rb]), (sl wv 1 ws.length (ws.map (Value.int .u16))), (rndR false rl rs rb rlv d)] := hS113; clear hS113 hS111
 refine st hA114 (op_assign rfl (hA114.ev rfl)) rfl rfl (by decide) fun a116 hA117 => ?_; clear hA114 a107
 refine wl_nil ?_
 refine then_n ?_
 refine c_seq ?_
 refine c_seq ?_
 have hA118 := hA117.as [(13, (Value.int .i64 0)), (12, (bptr b110 0)), (10, (Value.int .i64 ((sh).tmod 1000))), (9, (Value.int .i64 (((x : Int)).tmod (d.tols.length : Int)))), (4, (bptr b4 0))] rfl; clear hA117
 refine c_region ?_
 refine st hA118 (op_move rfl (hA118.ev rfl)) rfl rfl (by decide) fun a119 hA120 => ?_; clear hA118 a116
 refine st hA120 (op_neq rfl (hA120.ev rfl) (evc _ _)) rfl rfl (by decide) fun a121 hA122 => ?_; clear hA120 a119
 refine st hA122 (op_move rfl (hA122.ev rfl)) rfl rfl (by decide) fun a123 hA124 => ?_; clear hA122 a121
 refine stg hA124 (op_move rfl (hA124.ev rfl)) rfl rfl rfl rfl (by decide) fun a125 hA126 => ?_; clear hA124 a123
 refine stg hA126 (op_field rfl fd_46_0 (hA126.ev rfl)) rfl rfl rfl rfl (by decide) fun a127 hA128 => ?_; clear hA126 a125
 refine stg hA128 (op_load1 rfl ty_3 (hA128.ev rfl) (hS115.bk 0 rfl) rfl) rfl rfl rfl rfl (by decide) fun a129 hA130 => ?_; clear hA128 a127
 refine stg hA130 (op_lss rfl (hA130.ev rfl) (hA130.ev rfl)) rfl rfl rfl rfl (by decide) fun a131 hA132 => ?_; clear hA130 a129
 have hd133 : ¬ (((sh).tmod 1000) < lo) := (by omega)
 rw [decide_eq_false hd133] at hA132
 refine st hA132 (op_pick_f rfl (hA132.ev rfl) (hA132.ev rfl)) rfl rfl (by decide) fun a134 hA135 => ?_; clear hA132 a131
 refine st hA135 (op_move rfl (hA135.ev rfl)) rfl rfl (by decide) fun a136 hA137 => ?_; clear hA135 a134
 refine stg hA137 (op_move rfl (hA137.ev rfl)) rfl rfl rfl rfl (by decide) fun a138 hA139 => ?_; clear hA137 a136
 refine stg hA139 (op_field rfl fd_46_1 (hA139.ev rfl)) rfl rfl rfl rfl (by decide) fun a140 hA141 => ?_; clear hA139 a138
 refine stg hA141 (op_load1 rfl ty_3 (hA141.ev rfl) (hS115.bk 0 rfl) rfl) rfl rfl rfl rfl (by decide) fun a142 hA143 => ?_; clear hA141 a140
 refine stg hA143 (op_gtr rfl (hA143.ev rfl) (hA143.ev rfl)) rfl rfl rfl rfl (by decide) fun a144 hA145 => ?_; clear hA143 a142
 have hd146 : ¬ (hi < ((sh).tmod 1000)) := (by omega)
 rw [decide_eq_false hd146] at hA145
 refine st hA145 (op_pick_f rfl (hA145.ev rfl) (hA145.ev rfl)) rfl rfl (by decide) fun a147 hA148 => ?_; clear hA145 a144
 refine wl_nil ?_
 refine then_n ?_
 refine c_false hA148 rfl ?_
 refine c_skip ?_
 refine then_n ?_
 refine c_seq ?_
 have hA149 := hA148.as [(9, (Value.int .i64 (((x : Int)).tmod (d.tols.length : Int)))), (4, (bptr b4 0))] rfl; clear hA148
 refine c_region ?_
 refine st hA149 (op_loadA rfl ty_26 (hA149.ev rfl) (hS115.bk 5 rfl) (l := [rl, rs, (Value.int .i64 d.spread), rb]) rfl rfl) rfl rfl (by decide) fun a150 hA151 => ?_; clear hA149 a147
 refine stw hA151 (op_call rfl en_20 (ev1 (hA151.ev rfl)) (Round_ok rl rs rb rlv d _ (rnd_at (hS115.ok 7 _ rfl)) hth)) rfl rfl (by decide) ?_
 rintro a152 _ w154 ⟨vl155, vs156, vb157, lv158, rfl, hT159⟩ hA153; have hS160 := hS115.callS hT159 rfl; clear hT159 hA151 hS115 a150
 refine stw hA153 (op_call rfl en_21 (ev2 (hA153.ev rfl) (evc _ _)) (by have h := (explains_ok vl155 vs156 vb157 lv158 d _ (rnd_at (hS160.ok 0 _ rfl)) _ ([]) (slAt_nil _ 1) (Nat.le_of_ble_eq_true rfl)); rw [((explains_nil hc).trans (by rw [he]))] at h; exact h)) rfl rfl (by decide) ?_
 rintro a161 _ w163 ⟨rfl, hE164⟩ hA162; have hS165 := hS160.step hE164; clear hE164 hA153 hS160 a152
 refine st hA162 (op_move rfl (hA162.ev rfl)) rfl rfl (by decide) fun a166 hA167 => ?_; clear hA162 a161
 refine st hA167 (op_extract rfl (hA167.ev rfl) rfl) rfl rfl (by decide) fun a168 hA169 => ?_; clear hA167 a166
 refine st hA169 (op_extract rfl (hA169.ev rfl) rfl) rfl rfl (by decide) fun a170 hA171 => ?_; clear hA169 a168
 refine st hA171 (op_assign rfl (hA171.ev rfl)) rfl rfl (by decide) fun a172 hA173 => ?_; clear hA171 a170
 refine st hA173 (op_assign rfl (hA173.ev rfl)) rfl rfl (by decide) fun a174 hA175 => ?_; clear hA173 a172
 refine wl_nil ?_
 refine then_n ?_
 refine c_seq ?_
 have hA176 := hA175.as [(15, (Value.int .i64 0)), (14, (Value.bool false)), (9, (Value.int .i64 (((x : Int)).tmod (d.tols.length : Int)))), (4, (bptr b4 0))] rfl; clear hA175
 refine c_region ?_
 refine st hA176 (op_loadA rfl ty_26 (hA176.ev rfl) (hS165.bk 6 rfl) (l := [rl, rs, (Value.int .i64 d.spread), rb]) rfl rfl) rfl rfl (by decide) fun a177 hA178 => ?_; clear hA176 a174
 refine stw hA178 (op_call rfl en_20 (ev1 (hA178.ev rfl)) (Round_ok rl rs rb rlv d _ (rnd_at (hS165.ok 8 _ rfl)) hth)) rfl rfl (by decide) ?_
 rintro a179 _ w181 ⟨vl182, vs183, vb184, lv185, rfl, hT186⟩ hA180; have hS187 := hS165.callS hT186 rfl; clear hT186 hA178 hS165 a177
 refine st hA180 (op_move rfl (hA180.ev rfl)) rfl rfl (by decide) fun a188 hA189 => ?_; clear hA180 a179
 refine stw hA189 (op_buildSlice hS187 rfl (pv1 (hA189.ev rfl)) un_23 ty_3 ze_3 (by decide) (cs := [(Value.int .i64 (((x : Int)).tmod (d.tols.length : Int)))]) (bs_3_1_0i _)) rfl rfl (by decide) ?_
 rintro a190 _ w192 ⟨b193, rfl, hS194⟩ hA191; clear hA189 hS187 a188
 refine stw hA191 (op_call rfl en_21 (ev2 (hA191.ev rfl) (hA191.ev rfl)) (by have h := (explains_ok vl182 vs183 vb184 lv185 d _ (rnd_at (hS194.ok 1 _ rfl)) _ ([((x : Int)).tmod (d.tols.length : Int)]) (SlAt.of_blk (hS194.bk 0 rfl) rfl (Nat.le_of_ble_eq_true rfl)) (Nat.le_of_ble_eq_true rfl)); rw [(show explainsF d [((x : Int)).tmod (d.tols.length : Int)] = (false, 0) by rw [hk]; exact (explainsF_yes hc (rise_one (by simp only [Bool.and_eq_true, decide_eq_true_eq]; omega))).trans (by rw [off_one, Int.toNat_natCast, hx]))] at h; exact h)) rfl rfl (by decide) ?_
 rintro a195 _ w197 ⟨rfl, hE198⟩ hA196; have hS199 := hS194.step hE198; clear hE198 hA191 hS194 a190
 refine st hA196 (op_move rfl (hA196.ev rfl)) rfl rfl (by decide) fun a200 hA201 => ?_; clear hA196 a195
 refine st hA201 (op_extract rfl (hA201.ev rfl) rfl) rfl rfl (by decide) fun a202 hA203 => ?_; clear hA201 a200
 refine st hA203 (op_extract rfl (hA203.ev rfl) rfl) rfl rfl (by decide) fun a204 hA205 => ?_; clear hA203 a202
 refine st hA205 (op_assign rfl (hA205.ev rfl)) rfl rfl (by decide) fun a206 hA207 => ?_; clear hA205 a204
 refine st hA207 (op_assign rfl (hA207.ev rfl)) rfl rfl (by decide) fun a208 hA209 => ?_; clear hA207 a206
 refine wl_nil ?_
 refine then_n ?_
 refine c_seq ?_
 have hA210 := hA209.as [(17, (Value.int .i64 0)), (16, (Value.bool false)), (15, (Value.int .i64 0)), (14, (Value.bool false)), (9, (Value.int .i64 (((x : Int)).tmod (d.tols.length : Int)))), (4, (bptr b4 0))] rfl; clear hA209
 refine c_region ?_
 refine st hA210 (op_loadA rfl ty_26 (hA210.ev rfl) (hS199.bk 8 rfl) (l := [rl, rs, (Value.int .i64 d.spread), rb]) rfl rfl) rfl rfl (by decide) fun a211 hA212 => ?_; clear hA210 a208
 refine stw hA212 (op_call rfl en_20 (ev1 (hA212.ev rfl)) (Round_ok rl rs rb rlv d _ (rnd_at (hS199.ok 10 _ rfl)) hth)) rfl rfl (by decide) ?_
 rintro a213 _ w215 ⟨vl216, vs217, vb218, lv219, rfl, hT220⟩ hA214; have hS221 := hS199.callS hT220 rfl; clear hT220 hA212 hS199 a211
 refine st hA214 (op_move rfl (hA214.ev rfl)) rfl rfl (by decide) fun a222 hA223 => ?_; clear hA214 a213
 refine stw hA223 (op_call rfl en_32 (ev2 (hA223.ev rfl) (hA223.ev rfl)) (by have h := (shifts_fn vl216 vs217 vb218 lv219 d _ (rnd_at (hS221.ok 0 _ rfl)) (((x : Int)).tmod (d.tols.length : Int))); rw [(show shiftsR d (((x : Int)).tmod (d.tols.length : Int)) = ((0, 0), 9) by rw [hk]; exact h2)] at h; exact h)) rfl rfl (by decide) ?_
 rintro a224 _ w226 ⟨rfl, hE227⟩ hA225; have hS228 := hS221.step hE227; clear hE227 hA223 hS221 a222
 refine st hA225 (op_move rfl (hA225.ev rfl)) rfl rfl (by decide) fun a229 hA230 => ?_; clear hA225 a224
 refine st hA230 (op_extract rfl (hA230.ev rfl) rfl) rfl rfl (by decide) fun a231 hA232 => ?_; clear hA230 a229
 refine st hA232 (op_extract rfl (hA232.ev rfl) rfl) rfl rfl (by decide) fun a233 hA234 => ?_; clear hA232 a231
 refine stw hA234 (op_alloc hS228 rfl ze_46 (cs := [(Value.int .i64 0), (Value.int .i64 0)]) rfl) rfl rfl (by decide) ?_
 rintro a235 _ w237 ⟨b238, rfl, hS239⟩ hA236; clear hA234 hS228 a233
 refine sts hA236 (op_store hS239 rfl ty_46 (hA236.ev rfl) (hA236.ev rfl) (i := 0) rfl (vs := [(Value.int .i64 0), (Value.int .i64 0)]) rfl rfl rfl (Nat.le_of_ble_eq_true rfl)) rfl rfl ?_
 intro _ w240 hS241 hA242; clear hA236
 have hS243 : Sep NoB w w240 [(blk b238 46 [(Value.int .i64 0), (Value.int .i64 0)]), (rndR true vl216 vs217 vb218 lv219 d), (blk b193 3 [(Value.int .i64 (((x : Int)).tmod (d.tols.length : Int)))]), (rndR true vl182 vs183 vb184 lv185 d), (rndR true vl155 vs156 vb157 lv158 d), (blk b110 46 [(Value.int .i64 lo), (Value.int .i64 hi)]), (rndR true vl88 vs89 vb90 lv91 (madeD d ws (trueF d ws d.samples.length) (1 * 2 ^ (((x : Int)).tmod (d.tols.length : Int)).toNat : Nat) ((sh).tmod 1000))), (blk b76 26 [rl, rs, (Value.int .i64 d.spread), vb69]), (row vb69 62 2 d.tols.length (vpairs (d.tols.zip lv70))), (lstR lv70 (madeD d ws (trueF d ws d.samples.length) (1 * 2 ^ (((x : Int)).tmod (d.tols.length : Int)).toNat : Nat) ((sh).tmod 1000)).rds), (blk b4 26 [rl, rs, (Value.int .i64 d.spread), rb]), (sl wv 1 ws.length (ws.map (Value.int .u16))), (rndR false rl rs rb rlv d)] := hS241; clear hS241 hS239
 refine st hA242 (op_assign rfl (hA242.ev rfl)) rfl rfl (by decide) fun a244 hA245 => ?_; clear hA242 a235
 refine wl_nil ?_
 refine then_n ?_
 refine c_seq ?_
 refine c_seq ?_
 have hA246 := hA245.as [(19, (Value.int .i64 9)), (18, (bptr b238 0)), (17, (Value.int .i64 0)), (16, (Value.bool false)), (15, (Value.int .i64 0)), (14, (Value.bool false))] rfl; clear hA245
 refine c_region ?_
 refine st hA246 (op_move rfl (hA246.ev rfl)) rfl rfl (by decide) fun a247 hA248 => ?_; clear hA246 a244
 refine st hA248 (op_neq rfl (hA248.ev rfl) (evc _ _)) rfl rfl (by decide) fun a249 hA250 => ?_; clear hA248 a247
 refine st hA250 (op_move rfl (hA250.ev rfl)) rfl rfl (by decide) fun a251 hA252 => ?_; clear hA250 a249
 refine stg hA252 (op_move rfl (hA252.ev rfl)) rfl rfl rfl rfl (by decide) fun a253 hA254 => ?_; clear hA252 a251
 refine stg hA254 (op_neq rfl (hA254.ev rfl) (evc _ _)) rfl rfl rfl rfl (by decide) fun a255 hA256 => ?_; clear hA254 a253
 refine st hA256 (op_pick_f rfl (hA256.ev rfl) (hA256.ev rfl)) rfl rfl (by decide) fun a257 hA258 => ?_; clear hA256 a255
 refine wl_nil ?_
 refine then_n ?_
 refine c_false hA258 rfl ?_
 refine c_skip ?_
 refine then_n ?_
 refine c_seq ?_
 refine c_seq ?_
 have hA259 := hA258.as [(19, (Value.int .i64 9)), (18, (bptr b238 0)), (16, (Value.bool false)), (14, (Value.bool false))] rfl; clear hA258
 refine c_region ?_
 refine st hA259 (op_move rfl (hA259.ev rfl)) rfl rfl (by decide) fun a260 hA261 => ?_; clear hA259 a257
 refine st hA261 (op_not rfl (hA261.ev rfl)) rfl rfl (by decide) fun a262 hA263 => ?_; clear hA261 a260
 refine wl_nil ?_
 refine then_n ?_
 refine c_true hA263 rfl ?_
 refine c_seq ?_
 refine c_region ?_
 refine st hA263 (op_move rfl (hA263.ev rfl)) rfl rfl (by decide) fun a264 hA265 => ?_; clear hA263 a262
 refine st hA265 (op_eql rfl (hA265.ev rfl) (evc _ _)) rfl rfl (by decide) fun a266 hA267 => ?_; clear hA265 a264
 refine st hA267 (op_move rfl (hA267.ev rfl)) rfl rfl (by decide) fun a268 hA269 => ?_; clear hA267 a266
 refine stg hA269 (op_move rfl (hA269.ev rfl)) rfl rfl rfl rfl (by decide) fun a270 hA271 => ?_; clear hA269 a268
 refine stg hA271 (op_not rfl (hA271.ev rfl)) rfl rfl rfl rfl (by decide) fun a272 hA273 => ?_; clear hA271 a270
 refine st hA273 (op_pick_t rfl (hA273.ev rfl) (hA273.ev rfl)) rfl rfl (by decide) fun a274 hA275 => ?_; clear hA273 a272
 refine st hA275 (op_move rfl (hA275.ev rfl)) rfl rfl (by decide) fun a276 hA277 => ?_; clear hA275 a274
 refine stwg hA277 (op_call rfl en_18 ev0 (wakes_ok _)) rfl rfl rfl rfl (by decide) ?_
 rintro a278 _ w280 ⟨rfl, hE281⟩ hA279; have hS282 := hS243.step hE281; clear hE281 hA277 hS243 a276
 refine st hA279 (op_pick_t rfl (hA279.ev rfl) (hA279.ev rfl)) rfl rfl (by decide) fun a283 hA284 => ?_; clear hA279 a278
 refine st hA284 (op_assign rfl (hA284.ev rfl)) rfl rfl (by decide) fun a285 hA286 => ?_; clear hA284 a283
 refine wl_nil ?_
 refine then_n ?_
 refine c_ret ?_
 refine then_ret ?_
 refine fin_run hA286 (.inl rfl) (run_results1 hA286 rfl (.tmp rfl)) ?_
 exact ⟨rfl, hS282.ext⟩

set_option maxHeartbeats 4000000 in
theorem RoundAlike_d (rl rs rb : Value) (rlv : List Value) (d : RD) (w : World) (hR : RoundAt w rl rs rb rlv d) (wv : Value) (ws : List Int) (hws : SlAt w wv 1 ws.length (ws.map (Value.int .u16))) (hww : ∀ x ∈ ws, 0 ≤ x ∧ x ≤ 65535) (x : Nat) (hxb : x < 256) (sh : Int) (hsb : -32768 ≤ sh ∧ sh ≤ 32767) (hf : readyB d = true) (hn0 : 0 < d.tols.length) (k : Nat) (hk : (x : Int).tmod (d.tols.length : Int) = (k : Int)) (hkb : k < d.tols.length) (lo hi : Int) (hs0 : shiftsR (madeD d ws (trueF d ws d.samples.length) (1 * 2 ^ k) (sh.tmod 1000)) (k : Int) = ((lo, hi), 0)) (hs1 : lo ≤ sh.tmod 1000) (hs2 : sh.tmod 1000 ≤ hi) (he : explB d off0 = false) (hx : explB d (off0.set k true) = true) (h2 : shiftsR d (k : Int) = ((0, 0), 7)) :
  Calls Try.prog 11 #[(Value.agg #[rl, rs, (Value.int .i64 d.spread), rb]), wv, (Value.int .u8 (x : Int)), (Value.int .i16 sh)] w (Ret fun v w' => v = .bool true ∧ Ext NoB w w') := by
 refine calls_enter Try.func11 rfl fun a0 hA0 => ?_
 replace hA0 : Fr 132 [] [(0, (Value.agg #[rl, rs, (Value.int .i64 d.spread), rb])), (1, wv), (2, (Value.int .u8 (x : Int))), (3, (Value.int .i16 sh))] a0 := hA0
 have hth := thin_of (ready_of hf).1; have hc := (ready_of hf).2; have hV := valid_of hc; have hnb := hV.nb; have hns := hV.ns; have hnl := hV.nl; have htm := tmod_bd sh 1000 (by decide); have hkn : ((x : Int).tmod (d.tols.length : Int)).toNat = k := (by omega); have hpw : (2 : Nat) ^ k ≤ 32 := Nat.le_trans (Nat.pow_le_pow_right (n := 2) (Nat.le_of_ble_eq_true rfl) (show k ≤ 5 by omega)) (Nat.le_of_ble_eq_true rfl)
 have hS0 : Sep NoB w w [(sl wv 1 ws.length (ws.map (Value.int .u16))), (rndR false rl rs rb rlv d)] := sep_ro ⟨rfl, hws, rfl, hR, trivial⟩
 refine c_seq ?_
 refine c_region ?_
 refine stw hA0 (op_box hS0 rfl (hA0.ev rfl) (cs := [rl, rs, (Value.int .i64 d.spread), rb]) rfl) rfl rfl (by decide) ?_
 rintro a1 _ w3 ⟨b4, rfl, hS5⟩ hA2; clear hA0 hS0 a0
 refine st hA2 (op_assign rfl (evc _ _)) rfl rfl (by decide) fun a6 hA7 => ?_; clear hA2 a1
 refine wl_nil ?_
 refine then_n ?_
 refine c_seq ?_
 refine c_seq ?_
 refine c_region ?_
 refine st hA7 (op_loadA rfl ty_26 (hA7.ev rfl) (hS5.bk 0 rfl) (l := [rl, rs, (Value.int .i64 d.spread), rb]) rfl rfl) rfl rfl (by decide) fun a8 hA9 => ?_; clear hA7 a6
 refine stw hA9 (op_call rfl en_35 (ev1 (hA9.ev rfl)) (ready_ok rl rs rb rlv d _ (rnd_at (hS5.ok 2 _ rfl)))) rfl rfl (by decide) ?_
 rintro a10 _ w12 ⟨rfl, hE13⟩ hA11; have hS14 := hS5.step hE13; clear hE13 hA9 hS5 a8
 rw [hf] at hA11
 refine st hA11 (op_not rfl (hA11.ev rfl)) rfl rfl (by decide) fun a15 hA16 => ?_; clear hA11 a10
 refine st hA16 (op_move rfl (hA16.ev rfl)) rfl rfl (by decide) fun a17 hA18 => ?_; clear hA16 a15
 refine stg hA18 (op_field rfl fd_26_3 (hA18.ev rfl)) rfl rfl rfl rfl (by decide) fun a19 hA20 => ?_; clear hA18 a17
 refine stg hA20 (op_load1 rfl ty_24 (hA20.ev rfl) (hS14.bk 0 rfl) rfl) rfl rfl rfl rfl (by decide) fun a21 hA22 => ?_; clear hA20 a19
 refine stg hA22 (op_lenS rfl un_24 (hA22.ev rfl) (rnd_at (hS14.ok 2 _ rfl)).labs) rfl rfl rfl rfl (by decide) fun a23 hA24 => ?_; clear hA22 a21
 refine stg hA24 (op_eql rfl (hA24.ev rfl) (evc _ _)) rfl rfl rfl rfl (by decide) fun a25 hA26 => ?_; clear hA24 a23
 have hd27 : ¬ ((d.tols.length : Int) = 0) := (by omega)
 rw [decide_eq_false hd27] at hA26
 refine st hA26 (op_pick_f rfl (hA26.ev rfl) (hA26.ev rfl)) rfl rfl (by decide) fun a28 hA29 => ?_; clear hA26 a25
 refine wl_nil ?_
 refine then_n ?_
 refine c_false hA29 rfl ?_
 refine c_skip ?_
 refine then_n ?_
 refine c_seq ?_
 have hA30 := hA29.as [(4, (bptr b4 0)), (1, wv), (2, (Value.int .u8 (x : Int))), (3, (Value.int .i16 sh))] rfl; clear hA29
 refine c_region ?_
 refine st hA30 (op_move rfl (hA30.ev rfl)) rfl rfl (by decide) fun a31 hA32 => ?_; clear hA30 a28
 refine st hA32 (op_conv un_5 un_3 rfl (hA32.ev rfl) (v := (x : Int)) (wrap_i64 (by omega) (by omega))) rfl rfl (by decide) fun a33 hA34 => ?_; clear hA32 a31
 refine st hA34 (op_field rfl fd_26_3 (hA34.ev rfl)) rfl rfl (by decide) fun a35 hA36 => ?_; clear hA34 a33
 refine st hA36 (op_load1 rfl ty_24 (hA36.ev rfl) (hS14.bk 0 rfl) rfl) rfl rfl (by decide) fun a37 hA38 => ?_; clear hA36 a35
 refine st hA38 (op_lenS rfl un_24 (hA38.ev rfl) (rnd_at (hS14.ok 2 _ rfl)).labs) rfl rfl (by decide) fun a39 hA40 => ?_; clear hA38 a37
 refine st hA40 (op_rem rfl (hA40.ev rfl) (hA40.ev rfl) (by omega)) rfl rfl (by decide) fun a41 hA42 => ?_; clear hA40 a39
 refine st hA42 (op_move rfl (hA42.ev rfl)) rfl rfl (by decide) fun a43 hA44 => ?_; clear hA42 a41
 refine st hA44 (op_conv un_69 un_3 rfl (hA44.ev rfl) (v := sh) (wrap_i64 (by omega) (by omega))) rfl rfl (by decide) fun a45 hA46 => ?_; clear hA44 a43
 refine st hA46 (op_rem rfl (hA46.ev rfl) (evc _ _) (by omega)) rfl rfl (by decide) fun a47 hA48 => ?_; clear hA46 a45
 refine st hA48 (op_assign rfl (hA48.ev rfl)) rfl rfl (by decide) fun a49 hA50 => ?_; clear hA48 a47
 refine st hA50 (op_assign rfl (hA50.ev rfl)) rfl rfl (by decide) fun a51 hA52 => ?_; clear hA50 a49
 refine wl_nil ?_
 refine then_n ?_
 refine c_seq ?_
 have hA53 := hA52.as [(10, (Value.int .i64 ((sh).tmod 1000))), (9, (Value.int .i64 (((x : Int)).tmod (d.tols.length : Int)))), (4, (bptr b4 0)), (1, wv)] rfl; clear hA52
 refine c_region ?_
 refine st hA53 (op_loadA rfl ty_26 (hA53.ev rfl) (hS14.bk 0 rfl) (l := [rl, rs, (Value.int .i64 d.spread), rb]) rfl rfl) rfl rfl (by decide) fun a54 hA55 => ?_; clear hA53 a51
 refine st hA55 (op_move rfl (hA55.ev rfl)) rfl rfl (by decide) fun a56 hA57 => ?_; clear hA55 a54
 refine st hA57 (op_move rfl (hA57.ev rfl)) rfl rfl (by decide) fun a58 hA59 => ?_; clear hA57 a56
 refine st hA59 (op_conv un_3 un_71 rfl (hA59.ev rfl) (v := ((x : Int)).tmod (d.tols.length : Int)) (wrap_u64 (by omega) (by omega))) rfl rfl (by decide) fun a60 hA61 => ?_; clear hA59 a58
 refine st hA61 (op_shl8 rfl (m := 1) (show _ = Value.int .u8 ((1 : Nat) : Int) from (evc _ _)) (k := (((x : Int)).tmod (d.tols.length : Int)).toNat) ((hA61.ev rfl).trans (int_nat (by omega))) (by rw [hkn]; omega) (by omega)) rfl rfl (by decide) fun a62 hA63 => ?_; clear hA61 a60
 refine st hA63 (op_move rfl (hA63.ev rfl)) rfl rfl (by decide) fun a64 hA65 => ?_; clear hA63 a62
 refine stw hA65 (op_call rfl en_37 (ev4 (hA65.ev rfl) (hA65.ev rfl) (hA65.ev rfl) (hA65.ev rfl)) (Read_ok rl rs rb rlv d _ (rnd_at (hS14.ok 2 _ rfl)) _ ws (hS14.sk 1 rfl) hww (1 * 2 ^ (((x : Int)).tmod (d.tols.length : Int)).toNat : Nat) ((sh).tmod 1000) hV (by omega))) rfl rfl (by decide) ?_
 rintro a66 _ w68 ⟨vb69, lv70, rfl, hT71⟩ hA67; have hS72 := hS14.callS hT71 rfl; clear hT71 hA65 hS14 a64
 have hll_lv70 := hS72.lst_len 1 rfl; have hrl_lv70 : (madeD d ws (trueF d ws d.samples.length) (1 * 2 ^ (((x : Int)).tmod (d.tols.length : Int)).toNat : Nat) ((sh).tmod 1000)).rds.length = d.tols.length := by simp [madeD]
 refine stw hA67 (op_alloc hS72 rfl ze_26 (cs := [(Value.slice none 0 0), (Value.slice none 0 0), (Value.int .i64 0), (Value.slice none 0 0)]) rfl) rfl rfl (by decide) ?_
 rintro a73 _ w75 ⟨b76, rfl, hS77⟩ hA74; clear hA67 hS72 a66
 refine sts hA74 (op_store hS77 rfl ty_26 (hA74.ev rfl) (hA74.ev rfl) (i := 0) rfl (vs := [rl, rs, (Value.int .i64 d.spread), vb69]) rfl rfl (all_c (SlAt.one (rnd_at (hS77.ok 5 _ rfl)).lots) (all_c (SlAt.one (rnd_at (hS77.ok 5 _ rfl)).samples) (all_c rfl (all_c (SlAt.one (SlAt.of_row (hS77.ok_row 1 rfl))) all_n)))) (Nat.le_of_ble_eq_true rfl)) rfl rfl ?_
 intro _ w78 hS79 hA80; clear hA74
 have hS81 : Sep NoB w w78 [(blk b76 26 [rl, rs, (Value.int .i64 d.spread), vb69]), (row vb69 62 2 d.tols.length (vpairs (d.tols.zip lv70))), (lstR lv70 (madeD d ws (trueF d ws d.samples.length) (1 * 2 ^ (((x : Int)).tmod (d.tols.length : Int)).toNat : Nat) ((sh).tmod 1000)).rds), (blk b4 26 [rl, rs, (Value.int .i64 d.spread), rb]), (sl wv 1 ws.length (ws.map (Value.int .u16))), (rndR false rl rs rb rlv d)] := hS79; clear hS79 hS77
 refine wl_nil ?_
 refine then_n ?_
 refine c_seq ?_
 have hA82 := hA80.as [(11, (bptr b76 0)), (10, (Value.int .i64 ((sh).tmod 1000))), (9, (Value.int .i64 (((x : Int)).tmod (d.tols.length : Int)))), (4, (bptr b4 0))] rfl; clear hA80
 refine c_region ?_
 refine st hA82 (op_loadA rfl ty_26 (hA82.ev rfl) (hS81.bk 0 rfl) (l := [rl, rs, (Value.int .i64 d.spread), vb69]) rfl rfl) rfl rfl (by decide) fun a83 hA84 => ?_; clear hA82 a73
 refine stw hA84 (op_call rfl en_20 (ev1 (hA84.ev rfl)) (Round_ok rl rs vb69 lv70 (madeD d ws (trueF d ws d.samples.length) (1 * 2 ^ (((x : Int)).tmod (d.tols.length : Int)).toNat : Nat) ((sh).tmod 1000)) _ (show RoundAt _ rl rs vb69 lv70 (madeD d ws (trueF d ws d.samples.length) (1 * 2 ^ (((x : Int)).tmod (d.tols.length : Int)).toNat : Nat) ((sh).tmod 1000)) from ⟨(rnd_at (hS81.ok 5 _ rfl)).lots, (rnd_at (hS81.ok 5 _ rfl)).samples, SlAt.of_row (hS81.ok_row 1 rfl), (hS81.lst_at 2 rfl).2, hll_lv70.trans hrl_lv70, hrl_lv70⟩) (made_thin hV))) rfl rfl (by decide) ?_
 rintro a85 _ w87 ⟨vl88, vs89, vb90, lv91, rfl, hT92⟩ hA86; have hS93 := hS81.callS hT92 rfl; clear hT92 hA84 hS81 a83
 refine st hA86 (op_move rfl (hA86.ev rfl)) rfl rfl (by decide) fun a94 hA95 => ?_; clear hA86 a85
 refine stw hA95 (op_call rfl en_32 (ev2 (hA95.ev rfl) (hA95.ev rfl)) (by have h := (shifts_fn vl88 vs89 vb90 lv91 (madeD d ws (trueF d ws d.samples.length) (1 * 2 ^ (((x : Int)).tmod (d.tols.length : Int)).toNat : Nat) ((sh).tmod 1000)) _ (rnd_at (hS93.ok 0 _ rfl)) (((x : Int)).tmod (d.tols.length : Int))); rw [(show shiftsR (madeD d ws (trueF d ws d.samples.length) (1 * 2 ^ (((x : Int)).tmod (d.tols.length : Int)).toNat : Nat) ((sh).tmod 1000)) (((x : Int)).tmod (d.tols.length : Int)) = ((lo, hi), 0) by rw [hkn, hk]; exact hs0)] at h; exact h)) rfl rfl (by decide) ?_
 rintro a96 _ w98 ⟨rfl, hE99⟩ hA97; have hS100 := hS93.step hE99; clear hE99 hA95 hS93 a94
 refine st hA97 (op_move rfl (hA97.ev rfl)) rfl rfl (by decide) fun a101 hA102 => ?_; clear hA97 a96
 refine st hA102 (op_extract rfl (hA102.ev rfl) rfl) rfl rfl (by decide) fun a103 hA104 => ?_; clear hA102 a101
 refine st hA104 (op_extract rfl (hA104.ev rfl) rfl) rfl rfl (by decide) fun a105 hA106 => ?_; clear hA104 a103
 refine stw hA106 (op_alloc hS100 rfl ze_46 (cs := [(Value.int .i64 0), (Value.int .i64 0)]) rfl) rfl rfl (by decide) ?_
 rintro a107 _ w109 ⟨b110, rfl, hS111⟩ hA108; clear hA106 hS100 a105
 refine sts hA108 (op_store hS111 rfl ty_46 (hA108.ev rfl) (hA108.ev rfl) (i := 0) rfl (vs := [(Value.int .i64 lo), (Value.int .i64 hi)]) rfl rfl rfl (Nat.le_of_ble_eq_true rfl)) rfl rfl ?_
 intro _ w112 hS113 hA114; clear hA108
 have hS115 : Sep NoB w w112 [(blk b110 46 [(Value.int .i64 lo), (Value.int .i64 hi)]), (rndR true vl88 vs89 vb90 lv91 (madeD d ws (trueF d ws d.samples.length) (1 * 2 ^ (((x : Int)).tmod (d.tols.length : Int)).toNat : Nat) ((sh).tmod 1000))), (blk b76 26 [rl, rs, (Value.int .i64 d.spread), vb69]), (row vb69 62 2 d.tols.length (vpairs (d.tols.zip lv70))), (lstR lv70 (madeD d ws (trueF d ws d.samples.length) (1 * 2 ^ (((x : Int)).tmod (d.tols.length : Int)).toNat : Nat) ((sh).tmod 1000)).rds), (blk b4 26 [rl, rs, (Value.int .i64 d.spread), rb]), (sl wv 1 ws.length (ws.map (Value.int .u16))), (rndR false rl rs rb rlv d)] := hS113; clear hS113 hS111
 refine st hA114 (op_assign rfl (hA114.ev rfl)) rfl rfl (by decide) fun a116 hA117 => ?_; clear hA114 a107
 refine wl_nil ?_
 refine then_n ?_
 refine c_seq ?_
 refine c_seq ?_
 have hA118 := hA117.as [(13, (Value.int .i64 0)), (12, (bptr b110 0)), (10, (Value.int .i64 ((sh).tmod 1000))), (9, (Value.int .i64 (((x : Int)).tmod (d.tols.length : Int)))), (4, (bptr b4 0))] rfl; clear hA117
 refine c_region ?_
 refine st hA118 (op_move rfl (hA118.ev rfl)) rfl rfl (by decide) fun a119 hA120 => ?_; clear hA118 a116
 refine st hA120 (op_neq rfl (hA120.ev rfl) (evc _ _)) rfl rfl (by decide) fun a121 hA122 => ?_; clear hA120 a119
 refine st hA122 (op_move rfl (hA122.ev rfl)) rfl rfl (by decide) fun a123 hA124 => ?_; clear hA122 a121
 refine stg hA124 (op_move rfl (hA124.ev rfl)) rfl rfl rfl rfl (by decide) fun a125 hA126 => ?_; clear hA124 a123
 refine stg hA126 (op_field rfl fd_46_0 (hA126.ev rfl)) rfl rfl rfl rfl (by decide) fun a127 hA128 => ?_; clear hA126 a125
 refine stg hA128 (op_load1 rfl ty_3 (hA128.ev rfl) (hS115.bk 0 rfl) rfl) rfl rfl rfl rfl (by decide) fun a129 hA130 => ?_; clear hA128 a127
 refine stg hA130 (op_lss rfl (hA130.ev rfl) (hA130.ev rfl)) rfl rfl rfl rfl (by decide) fun a131 hA132 => ?_; clear hA130 a129
 have hd133 : ¬ (((sh).tmod 1000) < lo) := (by omega)
 rw [decide_eq_false hd133] at hA132
 refine st hA132 (op_pick_f rfl (hA132.ev rfl) (hA132.ev rfl)) rfl rfl (by decide) fun a134 hA135 => ?_; clear hA132 a131
 refine st hA135 (op_move rfl (hA135.ev rfl)) rfl rfl (by decide) fun a136 hA137 => ?_; clear hA135 a134
 refine stg hA137 (op_move rfl (hA137.ev rfl)) rfl rfl rfl rfl (by decide) fun a138 hA139 => ?_; clear hA137 a136
 refine stg hA139 (op_field rfl fd_46_1 (hA139.ev rfl)) rfl rfl rfl rfl (by decide) fun a140 hA141 => ?_; clear hA139 a138
 refine stg hA141 (op_load1 rfl ty_3 (hA141.ev rfl) (hS115.bk 0 rfl) rfl) rfl rfl rfl rfl (by decide) fun a142 hA143 => ?_; clear hA141 a140
 refine stg hA143 (op_gtr rfl (hA143.ev rfl) (hA143.ev rfl)) rfl rfl rfl rfl (by decide) fun a144 hA145 => ?_; clear hA143 a142
 have hd146 : ¬ (hi < ((sh).tmod 1000)) := (by omega)
 rw [decide_eq_false hd146] at hA145
 refine st hA145 (op_pick_f rfl (hA145.ev rfl) (hA145.ev rfl)) rfl rfl (by decide) fun a147 hA148 => ?_; clear hA145 a144
 refine wl_nil ?_
 refine then_n ?_
 refine c_false hA148 rfl ?_
 refine c_skip ?_
 refine then_n ?_
 refine c_seq ?_
 have hA149 := hA148.as [(9, (Value.int .i64 (((x : Int)).tmod (d.tols.length : Int)))), (4, (bptr b4 0))] rfl; clear hA148
 refine c_region ?_
 refine st hA149 (op_loadA rfl ty_26 (hA149.ev rfl) (hS115.bk 5 rfl) (l := [rl, rs, (Value.int .i64 d.spread), rb]) rfl rfl) rfl rfl (by decide) fun a150 hA151 => ?_; clear hA149 a147
 refine stw hA151 (op_call rfl en_20 (ev1 (hA151.ev rfl)) (Round_ok rl rs rb rlv d _ (rnd_at (hS115.ok 7 _ rfl)) hth)) rfl rfl (by decide) ?_
 rintro a152 _ w154 ⟨vl155, vs156, vb157, lv158, rfl, hT159⟩ hA153; have hS160 := hS115.callS hT159 rfl; clear hT159 hA151 hS115 a150
 refine stw hA153 (op_call rfl en_21 (ev2 (hA153.ev rfl) (evc _ _)) (by have h := (explains_ok vl155 vs156 vb157 lv158 d _ (rnd_at (hS160.ok 0 _ rfl)) _ ([]) (slAt_nil _ 1) (Nat.le_of_ble_eq_true rfl)); rw [((explains_nil hc).trans (by rw [he]))] at h; exact h)) rfl rfl (by decide) ?_
 rintro a161 _ w163 ⟨rfl, hE164⟩ hA162; have hS165 := hS160.step hE164; clear hE164 hA153 hS160 a152
 refine st hA162 (op_move rfl (hA162.ev rfl)) rfl rfl (by decide) fun a166 hA167 => ?_; clear hA162 a161
 refine st hA167 (op_extract rfl (hA167.ev rfl) rfl) rfl rfl (by decide) fun a168 hA169 => ?_; clear hA167 a166
 refine st hA169 (op_extract rfl (hA169.ev rfl) rfl) rfl rfl (by decide) fun a170 hA171 => ?_; clear hA169 a168
 refine st hA171 (op_assign rfl (hA171.ev rfl)) rfl rfl (by decide) fun a172 hA173 => ?_; clear hA171 a170
 refine st hA173 (op_assign rfl (hA173.ev rfl)) rfl rfl (by decide) fun a174 hA175 => ?_; clear hA173 a172
 refine wl_nil ?_
 refine then_n ?_
 refine c_seq ?_
 have hA176 := hA175.as [(15, (Value.int .i64 0)), (14, (Value.bool false)), (9, (Value.int .i64 (((x : Int)).tmod (d.tols.length : Int)))), (4, (bptr b4 0))] rfl; clear hA175
 refine c_region ?_
 refine st hA176 (op_loadA rfl ty_26 (hA176.ev rfl) (hS165.bk 6 rfl) (l := [rl, rs, (Value.int .i64 d.spread), rb]) rfl rfl) rfl rfl (by decide) fun a177 hA178 => ?_; clear hA176 a174
 refine stw hA178 (op_call rfl en_20 (ev1 (hA178.ev rfl)) (Round_ok rl rs rb rlv d _ (rnd_at (hS165.ok 8 _ rfl)) hth)) rfl rfl (by decide) ?_
 rintro a179 _ w181 ⟨vl182, vs183, vb184, lv185, rfl, hT186⟩ hA180; have hS187 := hS165.callS hT186 rfl; clear hT186 hA178 hS165 a177
 refine st hA180 (op_move rfl (hA180.ev rfl)) rfl rfl (by decide) fun a188 hA189 => ?_; clear hA180 a179
 refine stw hA189 (op_buildSlice hS187 rfl (pv1 (hA189.ev rfl)) un_23 ty_3 ze_3 (by decide) (cs := [(Value.int .i64 (((x : Int)).tmod (d.tols.length : Int)))]) (bs_3_1_0i _)) rfl rfl (by decide) ?_
 rintro a190 _ w192 ⟨b193, rfl, hS194⟩ hA191; clear hA189 hS187 a188
 refine stw hA191 (op_call rfl en_21 (ev2 (hA191.ev rfl) (hA191.ev rfl)) (by have h := (explains_ok vl182 vs183 vb184 lv185 d _ (rnd_at (hS194.ok 1 _ rfl)) _ ([((x : Int)).tmod (d.tols.length : Int)]) (SlAt.of_blk (hS194.bk 0 rfl) rfl (Nat.le_of_ble_eq_true rfl)) (Nat.le_of_ble_eq_true rfl)); rw [(show explainsF d [((x : Int)).tmod (d.tols.length : Int)] = (true, 0) by rw [hk]; exact (explainsF_yes hc (rise_one (by simp only [Bool.and_eq_true, decide_eq_true_eq]; omega))).trans (by rw [off_one, Int.toNat_natCast, hx]))] at h; exact h)) rfl rfl (by decide) ?_
 rintro a195 _ w197 ⟨rfl, hE198⟩ hA196; have hS199 := hS194.step hE198; clear hE198 hA191 hS194 a190
 refine st hA196 (op_move rfl (hA196.ev rfl)) rfl rfl (by decide) fun a200 hA201 => ?_; clear hA196 a195
 refine st hA201 (op_extract rfl (hA201.ev rfl) rfl) rfl rfl (by decide) fun a202 hA203 => ?_; clear hA201 a200
 refine st hA203 (op_extract rfl (hA203.ev rfl) rfl) rfl rfl (by decide) fun a204 hA205 => ?_; clear hA203 a202
 refine st hA205 (op_assign rfl (hA205.ev rfl)) rfl rfl (by decide) fun a206 hA207 => ?_; clear hA205 a204
 refine st hA207 (op_assign rfl (hA207.ev rfl)) rfl rfl (by decide) fun a208 hA209 => ?_; clear hA207 a206
 refine wl_nil ?_
 refine then_n ?_
 refine c_seq ?_
 have hA210 := hA209.as [(17, (Value.int .i64 0)), (16, (Value.bool true)), (15, (Value.int .i64 0)), (14, (Value.bool false)), (9, (Value.int .i64 (((x : Int)).tmod (d.tols.length : Int)))), (4, (bptr b4 0))] rfl; clear hA209
 refine c_region ?_
 refine st hA210 (op_loadA rfl ty_26 (hA210.ev rfl) (hS199.bk 8 rfl) (l := [rl, rs, (Value.int .i64 d.spread), rb]) rfl rfl) rfl rfl (by decide) fun a211 hA212 => ?_; clear hA210 a208
 refine stw hA212 (op_call rfl en_20 (ev1 (hA212.ev rfl)) (Round_ok rl rs rb rlv d _ (rnd_at (hS199.ok 10 _ rfl)) hth)) rfl rfl (by decide) ?_
 rintro a213 _ w215 ⟨vl216, vs217, vb218, lv219, rfl, hT220⟩ hA214; have hS221 := hS199.callS hT220 rfl; clear hT220 hA212 hS199 a211
 refine st hA214 (op_move rfl (hA214.ev rfl)) rfl rfl (by decide) fun a222 hA223 => ?_; clear hA214 a213
 refine stw hA223 (op_call rfl en_32 (ev2 (hA223.ev rfl) (hA223.ev rfl)) (by have h := (shifts_fn vl216 vs217 vb218 lv219 d _ (rnd_at (hS221.ok 0 _ rfl)) (((x : Int)).tmod (d.tols.length : Int))); rw [(show shiftsR d (((x : Int)).tmod (d.tols.length : Int)) = ((0, 0), 7) by rw [hk]; exact h2)] at h; exact h)) rfl rfl (by decide) ?_
 rintro a224 _ w226 ⟨rfl, hE227⟩ hA225; have hS228 := hS221.step hE227; clear hE227 hA223 hS221 a222
 refine st hA225 (op_move rfl (hA225.ev rfl)) rfl rfl (by decide) fun a229 hA230 => ?_; clear hA225 a224
 refine st hA230 (op_extract rfl (hA230.ev rfl) rfl) rfl rfl (by decide) fun a231 hA232 => ?_; clear hA230 a229
 refine st hA232 (op_extract rfl (hA232.ev rfl) rfl) rfl rfl (by decide) fun a233 hA234 => ?_; clear hA232 a231
 refine stw hA234 (op_alloc hS228 rfl ze_46 (cs := [(Value.int .i64 0), (Value.int .i64 0)]) rfl) rfl rfl (by decide) ?_
 rintro a235 _ w237 ⟨b238, rfl, hS239⟩ hA236; clear hA234 hS228 a233
 refine sts hA236 (op_store hS239 rfl ty_46 (hA236.ev rfl) (hA236.ev rfl) (i := 0) rfl (vs := [(Value.int .i64 0), (Value.int .i64 0)]) rfl rfl rfl (Nat.le_of_ble_eq_true rfl)) rfl rfl ?_
 intro _ w240 hS241 hA242; clear hA236
 have hS243 : Sep NoB w w240 [(blk b238 46 [(Value.int .i64 0), (Value.int .i64 0)]), (rndR true vl216 vs217 vb218 lv219 d), (blk b193 3 [(Value.int .i64 (((x : Int)).tmod (d.tols.length : Int)))]), (rndR true vl182 vs183 vb184 lv185 d), (rndR true vl155 vs156 vb157 lv158 d), (blk b110 46 [(Value.int .i64 lo), (Value.int .i64 hi)]), (rndR true vl88 vs89 vb90 lv91 (madeD d ws (trueF d ws d.samples.length) (1 * 2 ^ (((x : Int)).tmod (d.tols.length : Int)).toNat : Nat) ((sh).tmod 1000))), (blk b76 26 [rl, rs, (Value.int .i64 d.spread), vb69]), (row vb69 62 2 d.tols.length (vpairs (d.tols.zip lv70))), (lstR lv70 (madeD d ws (trueF d ws d.samples.length) (1 * 2 ^ (((x : Int)).tmod (d.tols.length : Int)).toNat : Nat) ((sh).tmod 1000)).rds), (blk b4 26 [rl, rs, (Value.int .i64 d.spread), rb]), (sl wv 1 ws.length (ws.map (Value.int .u16))), (rndR false rl rs rb rlv d)] := hS241; clear hS241 hS239
 refine st hA242 (op_assign rfl (hA242.ev rfl)) rfl rfl (by decide) fun a244 hA245 => ?_; clear hA242 a235
 refine wl_nil ?_
 refine then_n ?_
 refine c_seq ?_
 refine c_seq ?_
 have hA246 := hA245.as [(19, (Value.int .i64 7)), (18, (bptr b238 0)), (17, (Value.int .i64 0)), (16, (Value.bool true)), (15, (Value.int .i64 0)), (14, (Value.bool false))] rfl; clear hA245
 refine c_region ?_
 refine st hA246 (op_move rfl (hA246.ev rfl)) rfl rfl (by decide) fun a247 hA248 => ?_; clear hA246 a244
 refine st hA248 (op_neq rfl (hA248.ev rfl) (evc _ _)) rfl rfl (by decide) fun a249 hA250 => ?_; clear hA248 a247
 refine st hA250 (op_move rfl (hA250.ev rfl)) rfl rfl (by decide) fun a251 hA252 => ?_; clear hA250 a249
 refine stg hA252 (op_move rfl (hA252.ev rfl)) rfl rfl rfl rfl (by decide) fun a253 hA254 => ?_; clear hA252 a251
 refine stg hA254 (op_neq rfl (hA254.ev rfl) (evc _ _)) rfl rfl rfl rfl (by decide) fun a255 hA256 => ?_; clear hA254 a253
 refine st hA256 (op_pick_f rfl (hA256.ev rfl) (hA256.ev rfl)) rfl rfl (by decide) fun a257 hA258 => ?_; clear hA256 a255
 refine wl_nil ?_
 refine then_n ?_
 refine c_false hA258 rfl ?_
 refine c_skip ?_
 refine then_n ?_
 refine c_seq ?_
 refine c_seq ?_
 have hA259 := hA258.as [(19, (Value.int .i64 7)), (18, (bptr b238 0)), (16, (Value.bool true)), (14, (Value.bool false))] rfl; clear hA258
 refine c_region ?_
 refine st hA259 (op_move rfl (hA259.ev rfl)) rfl rfl (by decide) fun a260 hA261 => ?_; clear hA259 a257
 refine st hA261 (op_not rfl (hA261.ev rfl)) rfl rfl (by decide) fun a262 hA263 => ?_; clear hA261 a260
 refine wl_nil ?_
 refine then_n ?_
 refine c_false hA263 rfl ?_
 refine c_skip ?_
 refine then_n ?_
 refine c_seq ?_
 refine c_region ?_
 refine st hA263 (op_move rfl (hA263.ev rfl)) rfl rfl (by decide) fun a264 hA265 => ?_; clear hA263 a262
 refine st hA265 (op_eql rfl (hA265.ev rfl) (evc _ _)) rfl rfl (by decide) fun a266 hA267 => ?_; clear hA265 a264
 refine st hA267 (op_move rfl (hA267.ev rfl)) rfl rfl (by decide) fun a268 hA269 => ?_; clear hA267 a266
 refine skp hA269 rfl rfl rfl rfl rfl (by decide) fun a270 hA271 => ?_; clear hA269 a268
 refine skp hA271 rfl rfl rfl rfl rfl (by decide) fun a272 hA273 => ?_; clear hA271 a270
 refine skp hA273 rfl rfl rfl rfl rfl (by decide) fun a274 hA275 => ?_; clear hA273 a272
 refine st hA275 (op_pick_f rfl (hA275.ev rfl) (evc _ _)) rfl rfl (by decide) fun a276 hA277 => ?_; clear hA275 a274
 refine st hA277 (op_move rfl (hA277.ev rfl)) rfl rfl (by decide) fun a278 hA279 => ?_; clear hA277 a276
 refine skp hA279 rfl rfl rfl rfl rfl (by decide) fun a280 hA281 => ?_; clear hA279 a278
 refine skp hA281 rfl rfl rfl rfl rfl (by decide) fun a282 hA283 => ?_; clear hA281 a280
 refine skp hA283 rfl rfl rfl rfl rfl (by decide) fun a284 hA285 => ?_; clear hA283 a282
 refine st hA285 (op_pick_f rfl (hA285.ev rfl) (evc _ _)) rfl rfl (by decide) fun a286 hA287 => ?_; clear hA285 a284
 refine st hA287 (op_assign rfl (hA287.ev rfl)) rfl rfl (by decide) fun a288 hA289 => ?_; clear hA287 a286
 refine wl_nil ?_
 refine then_n ?_
 refine c_seq ?_
 have hA290 := hA289.as [(20, (Value.bool false)), (19, (Value.int .i64 7)), (14, (Value.bool false))] rfl; clear hA289
 refine c_region ?_
 refine st hA290 (op_move rfl (hA290.ev rfl)) rfl rfl (by decide) fun a291 hA292 => ?_; clear hA290 a288
 refine st hA292 (op_eql rfl (hA292.ev rfl) (evc _ _)) rfl rfl (by decide) fun a293 hA294 => ?_; clear hA292 a291
 refine st hA294 (op_move rfl (hA294.ev rfl)) rfl rfl (by decide) fun a295 hA296 => ?_; clear hA294 a293
 refine stg hA296 (op_move rfl (hA296.ev rfl)) rfl rfl rfl rfl (by decide) fun a297 hA298 => ?_; clear hA296 a295
 refine stg hA298 (op_eql rfl (hA298.ev rfl) (evc _ _)) rfl rfl rfl rfl (by decide) fun a299 hA300 => ?_; clear hA298 a297
 refine st hA300 (op_pick_f rfl (hA300.ev rfl) (hA300.ev rfl)) rfl rfl (by decide) fun a301 hA302 => ?_; clear hA300 a299
 refine st hA302 (op_move rfl (hA302.ev rfl)) rfl rfl (by decide) fun a303 hA304 => ?_; clear hA302 a301
 refine stg hA304 (op_move rfl (hA304.ev rfl)) rfl rfl rfl rfl (by decide) fun a305 hA306 => ?_; clear hA304 a303
 refine stg hA306 (op_move rfl (hA306.ev rfl)) rfl rfl rfl rfl (by decide) fun a307 hA308 => ?_; clear hA306 a305
 refine stg hA308 (op_eqlB un_4 rfl (hA308.ev rfl) (hA308.ev rfl)) rfl rfl rfl rfl (by decide) fun a309 hA310 => ?_; clear hA308 a307
 refine st hA310 (op_pick_t rfl (hA310.ev rfl) (hA310.ev rfl)) rfl rfl (by decide) fun a311 hA312 => ?_; clear hA310 a309
 refine st hA312 (op_move rfl (hA312.ev rfl)) rfl rfl (by decide) fun a313 hA314 => ?_; clear hA312 a311
 refine stwg hA314 (op_call rfl en_18 ev0 (wakes_ok _)) rfl rfl rfl rfl (by decide) ?_
 rintro a315 _ w317 ⟨rfl, hE318⟩ hA316; have hS319 := hS243.step hE318; clear hE318 hA314 hS243 a313
 refine st hA316 (op_pick_t rfl (hA316.ev rfl) (hA316.ev rfl)) rfl rfl (by decide) fun a320 hA321 => ?_; clear hA316 a315
 refine st hA321 (op_assign rfl (hA321.ev rfl)) rfl rfl (by decide) fun a322 hA323 => ?_; clear hA321 a320
 refine wl_nil ?_
 refine then_n ?_
 refine c_ret ?_
 refine fin_run hA323 (.inl rfl) (run_results1 hA323 rfl (.tmp rfl)) ?_
 exact ⟨rfl, hS319.ext⟩

set_option maxHeartbeats 4000000 in
theorem RoundAlike_e (rl rs rb : Value) (rlv : List Value) (d : RD) (w : World) (hR : RoundAt w rl rs rb rlv d) (wv : Value) (ws : List Int) (hws : SlAt w wv 1 ws.length (ws.map (Value.int .u16))) (hww : ∀ x ∈ ws, 0 ≤ x ∧ x ≤ 65535) (x : Nat) (hxb : x < 256) (sh : Int) (hsb : -32768 ≤ sh ∧ sh ≤ 32767) (hf : readyB d = true) (hn0 : 0 < d.tols.length) (k : Nat) (hk : (x : Int).tmod (d.tols.length : Int) = (k : Int)) (hkb : k < d.tols.length) (lo hi : Int) (hs0 : shiftsR (madeD d ws (trueF d ws d.samples.length) (1 * 2 ^ k) (sh.tmod 1000)) (k : Int) = ((lo, hi), 0)) (hs1 : lo ≤ sh.tmod 1000) (hs2 : sh.tmod 1000 ≤ hi) (he : explB d off0 = false) (hx : explB d (off0.set k true) = true) (a b : Int) (h2 : shiftsR d (k : Int) = ((a, b), 0)) (hab : ¬ (a ≤ 0 ∧ 0 ≤ b)) :
  Calls Try.prog 11 #[(Value.agg #[rl, rs, (Value.int .i64 d.spread), rb]), wv, (Value.int .u8 (x : Int)), (Value.int .i16 sh)] w (Ret fun v w' => v = .bool true ∧ Ext NoB w w') := by
 refine calls_enter Try.func11 rfl fun a0 hA0 => ?_
 replace hA0 : Fr 132 [] [(0, (Value.agg #[rl, rs, (Value.int .i64 d.spread), rb])), (1, wv), (2, (Value.int .u8 (x : Int))), (3, (Value.int .i16 sh))] a0 := hA0
 have hth := thin_of (ready_of hf).1; have hc := (ready_of hf).2; have hV := valid_of hc; have hnb := hV.nb; have hns := hV.ns; have hnl := hV.nl; have htm := tmod_bd sh 1000 (by decide); have hkn : ((x : Int).tmod (d.tols.length : Int)).toNat = k := (by omega); have hpw : (2 : Nat) ^ k ≤ 32 := Nat.le_trans (Nat.pow_le_pow_right (n := 2) (Nat.le_of_ble_eq_true rfl) (show k ≤ 5 by omega)) (Nat.le_of_ble_eq_true rfl)
 have hS0 : Sep NoB w w [(sl wv 1 ws.length (ws.map (Value.int .u16))), (rndR false rl rs rb rlv d)] := sep_ro ⟨rfl, hws, rfl, hR, trivial⟩
 refine c_seq ?_
 refine c_region ?_
 refine stw hA0 (op_box hS0 rfl (hA0.ev rfl) (cs := [rl, rs, (Value.int .i64 d.spread), rb]) rfl) rfl rfl (by decide) ?_
 rintro a1 _ w3 ⟨b4, rfl, hS5⟩ hA2; clear hA0 hS0 a0
 refine st hA2 (op_assign rfl (evc _ _)) rfl rfl (by decide) fun a6 hA7 => ?_; clear hA2 a1
 refine wl_nil ?_
 refine then_n ?_
 refine c_seq ?_
 refine c_seq ?_
 refine c_region ?_
 refine st hA7 (op_loadA rfl ty_26 (hA7.ev rfl) (hS5.bk 0 rfl) (l := [rl, rs, (Value.int .i64 d.spread), rb]) rfl rfl) rfl rfl (by decide) fun a8 hA9 => ?_; clear hA7 a6
 refine stw hA9 (op_call rfl en_35 (ev1 (hA9.ev rfl)) (ready_ok rl rs rb rlv d _ (rnd_at (hS5.ok 2 _ rfl)))) rfl rfl (by decide) ?_
 rintro a10 _ w12 ⟨rfl, hE13⟩ hA11; have hS14 := hS5.step hE13; clear hE13 hA9 hS5 a8
 rw [hf] at hA11
 refine st hA11 (op_not rfl (hA11.ev rfl)) rfl rfl (by decide) fun a15 hA16 => ?_; clear hA11 a10
 refine st hA16 (op_move rfl (hA16.ev rfl)) rfl rfl (by decide) fun a17 hA18 => ?_; clear hA16 a15
 refine stg hA18 (op_field rfl fd_26_3 (hA18.ev rfl)) rfl rfl rfl rfl (by decide) fun a19 hA20 => ?_; clear hA18 a17
 refine stg hA20 (op_load1 rfl ty_24 (hA20.ev rfl) (hS14.bk 0 rfl) rfl) rfl rfl rfl rfl (by decide) fun a21 hA22 => ?_; clear hA20 a19
 refine stg hA22 (op_lenS rfl un_24 (hA22.ev rfl) (rnd_at (hS14.ok 2 _ rfl)).labs) rfl rfl rfl rfl (by decide) fun a23 hA24 => ?_; clear hA22 a21
 refine stg hA24 (op_eql rfl (hA24.ev rfl) (evc _ _)) rfl rfl rfl rfl (by decide) fun a25 hA26 => ?_; clear hA24 a23
 have hd27 : ¬ ((d.tols.length : Int) = 0) := (by omega)
 rw [decide_eq_false hd27] at hA26
 refine st hA26 (op_pick_f rfl (hA26.ev rfl) (hA26.ev rfl)) rfl rfl (by decide) fun a28 hA29 => ?_; clear hA26 a25
 refine wl_nil ?_
 refine then_n ?_
 refine c_false hA29 rfl ?_
 refine c_skip ?_
 refine then_n ?_
 refine c_seq ?_
 have hA30 := hA29.as [(4, (bptr b4 0)), (1, wv), (2, (Value.int .u8 (x : Int))), (3, (Value.int .i16 sh))] rfl; clear hA29
 refine c_region ?_
 refine st hA30 (op_move rfl (hA30.ev rfl)) rfl rfl (by decide) fun a31 hA32 => ?_; clear hA30 a28
 refine st hA32 (op_conv un_5 un_3 rfl (hA32.ev rfl) (v := (x : Int)) (wrap_i64 (by omega) (by omega))) rfl rfl (by decide) fun a33 hA34 => ?_; clear hA32 a31
 refine st hA34 (op_field rfl fd_26_3 (hA34.ev rfl)) rfl rfl (by decide) fun a35 hA36 => ?_; clear hA34 a33
 refine st hA36 (op_load1 rfl ty_24 (hA36.ev rfl) (hS14.bk 0 rfl) rfl) rfl rfl (by decide) fun a37 hA38 => ?_; clear hA36 a35
 refine st hA38 (op_lenS rfl un_24 (hA38.ev rfl) (rnd_at (hS14.ok 2 _ rfl)).labs) rfl rfl (by decide) fun a39 hA40 => ?_; clear hA38 a37
 refine st hA40 (op_rem rfl (hA40.ev rfl) (hA40.ev rfl) (by omega)) rfl rfl (by decide) fun a41 hA42 => ?_; clear hA40 a39
 refine st hA42 (op_move rfl (hA42.ev rfl)) rfl rfl (by decide) fun a43 hA44 => ?_; clear hA42 a41
 refine st hA44 (op_conv un_69 un_3 rfl (hA44.ev rfl) (v := sh) (wrap_i64 (by omega) (by omega))) rfl rfl (by decide) fun a45 hA46 => ?_; clear hA44 a43
 refine st hA46 (op_rem rfl (hA46.ev rfl) (evc _ _) (by omega)) rfl rfl (by decide) fun a47 hA48 => ?_; clear hA46 a45
 refine st hA48 (op_assign rfl (hA48.ev rfl)) rfl rfl (by decide) fun a49 hA50 => ?_; clear hA48 a47
 refine st hA50 (op_assign rfl (hA50.ev rfl)) rfl rfl (by decide) fun a51 hA52 => ?_; clear hA50 a49
 refine wl_nil ?_
 refine then_n ?_
 refine c_seq ?_
 have hA53 := hA52.as [(10, (Value.int .i64 ((sh).tmod 1000))), (9, (Value.int .i64 (((x : Int)).tmod (d.tols.length : Int)))), (4, (bptr b4 0)), (1, wv)] rfl; clear hA52
 refine c_region ?_
 refine st hA53 (op_loadA rfl ty_26 (hA53.ev rfl) (hS14.bk 0 rfl) (l := [rl, rs, (Value.int .i64 d.spread), rb]) rfl rfl) rfl rfl (by decide) fun a54 hA55 => ?_; clear hA53 a51
 refine st hA55 (op_move rfl (hA55.ev rfl)) rfl rfl (by decide) fun a56 hA57 => ?_; clear hA55 a54
 refine st hA57 (op_move rfl (hA57.ev rfl)) rfl rfl (by decide) fun a58 hA59 => ?_; clear hA57 a56
 refine st hA59 (op_conv un_3 un_71 rfl (hA59.ev rfl) (v := ((x : Int)).tmod (d.tols.length : Int)) (wrap_u64 (by omega) (by omega))) rfl rfl (by decide) fun a60 hA61 => ?_; clear hA59 a58
 refine st hA61 (op_shl8 rfl (m := 1) (show _ = Value.int .u8 ((1 : Nat) : Int) from (evc _ _)) (k := (((x : Int)).tmod (d.tols.length : Int)).toNat) ((hA61.ev rfl).trans (int_nat (by omega))) (by rw [hkn]; omega) (by omega)) rfl rfl (by decide) fun a62 hA63 => ?_; clear hA61 a60
 refine st hA63 (op_move rfl (hA63.ev rfl)) rfl rfl (by decide) fun a64 hA65 => ?_; clear hA63 a62
 refine stw hA65 (op_call rfl en_37 (ev4 (hA65.ev rfl) (hA65.ev rfl) (hA65.ev rfl) (hA65.ev rfl)) (Read_ok rl rs rb rlv d _ (rnd_at (hS14.ok 2 _ rfl)) _ ws (hS14.sk 1 rfl) hww (1 * 2 ^ (((x : Int)).tmod (d.tols.length : Int)).toNat : Nat) ((sh).tmod 1000) hV (by omega))) rfl rfl (by decide) ?_
 rintro a66 _ w68 ⟨vb69, lv70, rfl, hT71⟩ hA67; have hS72 := hS14.callS hT71 rfl; clear hT71 hA65 hS14 a64
 have hll_lv70 := hS72.lst_len 1 rfl; have hrl_lv70 : (madeD d ws (trueF d ws d.samples.length) (1 * 2 ^ (((x : Int)).tmod (d.tols.length : Int)).toNat : Nat) ((sh).tmod 1000)).rds.length = d.tols.length := by simp [madeD]
 refine stw hA67 (op_alloc hS72 rfl ze_26 (cs := [(Value.slice none 0 0), (Value.slice none 0 0), (Value.int .i64 0), (Value.slice none 0 0)]) rfl) rfl rfl (by decide) ?_
 rintro a73 _ w75 ⟨b76, rfl, hS77⟩ hA74; clear hA67 hS72 a66
 refine sts hA74 (op_store hS77 rfl ty_26 (hA74.ev rfl) (hA74.ev rfl) (i := 0) rfl (vs := [rl, rs, (Value.int .i64 d.spread), vb69]) rfl rfl (all_c (SlAt.one (rnd_at (hS77.ok 5 _ rfl)).lots) (all_c (SlAt.one (rnd_at (hS77.ok 5 _ rfl)).samples) (all_c rfl (all_c (SlAt.one (SlAt.of_row (hS77.ok_row 1 rfl))) all_n)))) (Nat.le_of_ble_eq_true rfl)) rfl rfl ?_
 intro _ w78 hS79 hA80; clear hA74
 have hS81 : Sep NoB w w78 [(blk b76 26 [rl, rs, (Value.int .i64 d.spread), vb69]), (row vb69 62 2 d.tols.length (vpairs (d.tols.zip lv70))), (lstR lv70 (madeD d ws (trueF d ws d.samples.length) (1 * 2 ^ (((x : Int)).tmod (d.tols.length : Int)).toNat : Nat) ((sh).tmod 1000)).rds), (blk b4 26 [rl, rs, (Value.int .i64 d.spread), rb]), (sl wv 1 ws.length (ws.map (Value.int .u16))), (rndR false rl rs rb rlv d)] := hS79; clear hS79 hS77
 refine wl_nil ?_
 refine then_n ?_
 refine c_seq ?_
 have hA82 := hA80.as [(11, (bptr b76 0)), (10, (Value.int .i64 ((sh).tmod 1000))), (9, (Value.int .i64 (((x : Int)).tmod (d.tols.length : Int)))), (4, (bptr b4 0))] rfl; clear hA80
 refine c_region ?_
 refine st hA82 (op_loadA rfl ty_26 (hA82.ev rfl) (hS81.bk 0 rfl) (l := [rl, rs, (Value.int .i64 d.spread), vb69]) rfl rfl) rfl rfl (by decide) fun a83 hA84 => ?_; clear hA82 a73
 refine stw hA84 (op_call rfl en_20 (ev1 (hA84.ev rfl)) (Round_ok rl rs vb69 lv70 (madeD d ws (trueF d ws d.samples.length) (1 * 2 ^ (((x : Int)).tmod (d.tols.length : Int)).toNat : Nat) ((sh).tmod 1000)) _ (show RoundAt _ rl rs vb69 lv70 (madeD d ws (trueF d ws d.samples.length) (1 * 2 ^ (((x : Int)).tmod (d.tols.length : Int)).toNat : Nat) ((sh).tmod 1000)) from ⟨(rnd_at (hS81.ok 5 _ rfl)).lots, (rnd_at (hS81.ok 5 _ rfl)).samples, SlAt.of_row (hS81.ok_row 1 rfl), (hS81.lst_at 2 rfl).2, hll_lv70.trans hrl_lv70, hrl_lv70⟩) (made_thin hV))) rfl rfl (by decide) ?_
 rintro a85 _ w87 ⟨vl88, vs89, vb90, lv91, rfl, hT92⟩ hA86; have hS93 := hS81.callS hT92 rfl; clear hT92 hA84 hS81 a83
 refine st hA86 (op_move rfl (hA86.ev rfl)) rfl rfl (by decide) fun a94 hA95 => ?_; clear hA86 a85
 refine stw hA95 (op_call rfl en_32 (ev2 (hA95.ev rfl) (hA95.ev rfl)) (by have h := (shifts_fn vl88 vs89 vb90 lv91 (madeD d ws (trueF d ws d.samples.length) (1 * 2 ^ (((x : Int)).tmod (d.tols.length : Int)).toNat : Nat) ((sh).tmod 1000)) _ (rnd_at (hS93.ok 0 _ rfl)) (((x : Int)).tmod (d.tols.length : Int))); rw [(show shiftsR (madeD d ws (trueF d ws d.samples.length) (1 * 2 ^ (((x : Int)).tmod (d.tols.length : Int)).toNat : Nat) ((sh).tmod 1000)) (((x : Int)).tmod (d.tols.length : Int)) = ((lo, hi), 0) by rw [hkn, hk]; exact hs0)] at h; exact h)) rfl rfl (by decide) ?_
 rintro a96 _ w98 ⟨rfl, hE99⟩ hA97; have hS100 := hS93.step hE99; clear hE99 hA95 hS93 a94
 refine st hA97 (op_move rfl (hA97.ev rfl)) rfl rfl (by decide) fun a101 hA102 => ?_; clear hA97 a96
 refine st hA102 (op_extract rfl (hA102.ev rfl) rfl) rfl rfl (by decide) fun a103 hA104 => ?_; clear hA102 a101
 refine st hA104 (op_extract rfl (hA104.ev rfl) rfl) rfl rfl (by decide) fun a105 hA106 => ?_; clear hA104 a103
 refine stw hA106 (op_alloc hS100 rfl ze_46 (cs := [(Value.int .i64 0), (Value.int .i64 0)]) rfl) rfl rfl (by decide) ?_
 rintro a107 _ w109 ⟨b110, rfl, hS111⟩ hA108; clear hA106 hS100 a105
 refine sts hA108 (op_store hS111 rfl ty_46 (hA108.ev rfl) (hA108.ev rfl) (i := 0) rfl (vs := [(Value.int .i64 lo), (Value.int .i64 hi)]) rfl rfl rfl (Nat.le_of_ble_eq_true rfl)) rfl rfl ?_
 intro _ w112 hS113 hA114; clear hA108
 have hS115 : Sep NoB w w112 [(blk b110 46 [(Value.int .i64 lo), (Value.int .i64 hi)]), (rndR true vl88 vs89 vb90 lv91 (madeD d ws (trueF d ws d.samples.length) (1 * 2 ^ (((x : Int)).tmod (d.tols.length : Int)).toNat : Nat) ((sh).tmod 1000))), (blk b76 26 [rl, rs, (Value.int .i64 d.spread), vb69]), (row vb69 62 2 d.tols.length (vpairs (d.tols.zip lv70))), (lstR lv70 (madeD d ws (trueF d ws d.samples.length) (1 * 2 ^ (((x : Int)).tmod (d.tols.length : Int)).toNat : Nat) ((sh).tmod 1000)).rds), (blk b4 26 [rl, rs, (Value.int .i64 d.spread), rb]), (sl wv 1 ws.length (ws.map (Value.int .u16))), (rndR false rl rs rb rlv d)] := hS113; clear hS113 hS111
 refine st hA114 (op_assign rfl (hA114.ev rfl)) rfl rfl (by decide) fun a116 hA117 => ?_; clear hA114 a107
 refine wl_nil ?_
 refine then_n ?_
 refine c_seq ?_
 refine c_seq ?_
 have hA118 := hA117.as [(13, (Value.int .i64 0)), (12, (bptr b110 0)), (10, (Value.int .i64 ((sh).tmod 1000))), (9, (Value.int .i64 (((x : Int)).tmod (d.tols.length : Int)))), (4, (bptr b4 0))] rfl; clear hA117
 refine c_region ?_
 refine st hA118 (op_move rfl (hA118.ev rfl)) rfl rfl (by decide) fun a119 hA120 => ?_; clear hA118 a116
 refine st hA120 (op_neq rfl (hA120.ev rfl) (evc _ _)) rfl rfl (by decide) fun a121 hA122 => ?_; clear hA120 a119
 refine st hA122 (op_move rfl (hA122.ev rfl)) rfl rfl (by decide) fun a123 hA124 => ?_; clear hA122 a121
 refine stg hA124 (op_move rfl (hA124.ev rfl)) rfl rfl rfl rfl (by decide) fun a125 hA126 => ?_; clear hA124 a123
 refine stg hA126 (op_field rfl fd_46_0 (hA126.ev rfl)) rfl rfl rfl rfl (by decide) fun a127 hA128 => ?_; clear hA126 a125
 refine stg hA128 (op_load1 rfl ty_3 (hA128.ev rfl) (hS115.bk 0 rfl) rfl) rfl rfl rfl rfl (by decide) fun a129 hA130 => ?_; clear hA128 a127
 refine stg hA130 (op_lss rfl (hA130.ev rfl) (hA130.ev rfl)) rfl rfl rfl rfl (by decide) fun a131 hA132 => ?_; clear hA130 a129
 have hd133 : ¬ (((sh).tmod 1000) < lo) := (by omega)
 rw [decide_eq_false hd133] at hA132
 refine st hA132 (op_pick_f rfl (hA132.ev rfl) (hA132.ev rfl)) rfl rfl (by decide) fun a134 hA135 => ?_; clear hA132 a131
 refine st hA135 (op_move rfl (hA135.ev rfl)) rfl rfl (by decide) fun a136 hA137 => ?_; clear hA135 a134
 refine stg hA137 (op_move rfl (hA137.ev rfl)) rfl rfl rfl rfl (by decide) fun a138 hA139 => ?_; clear hA137 a136
 refine stg hA139 (op_field rfl fd_46_1 (hA139.ev rfl)) rfl rfl rfl rfl (by decide) fun a140 hA141 => ?_; clear hA139 a138
 refine stg hA141 (op_load1 rfl ty_3 (hA141.ev rfl) (hS115.bk 0 rfl) rfl) rfl rfl rfl rfl (by decide) fun a142 hA143 => ?_; clear hA141 a140
 refine stg hA143 (op_gtr rfl (hA143.ev rfl) (hA143.ev rfl)) rfl rfl rfl rfl (by decide) fun a144 hA145 => ?_; clear hA143 a142
 have hd146 : ¬ (hi < ((sh).tmod 1000)) := (by omega)
 rw [decide_eq_false hd146] at hA145
 refine st hA145 (op_pick_f rfl (hA145.ev rfl) (hA145.ev rfl)) rfl rfl (by decide) fun a147 hA148 => ?_; clear hA145 a144
 refine wl_nil ?_
 refine then_n ?_
 refine c_false hA148 rfl ?_
 refine c_skip ?_
 refine then_n ?_
 refine c_seq ?_
 have hA149 := hA148.as [(9, (Value.int .i64 (((x : Int)).tmod (d.tols.length : Int)))), (4, (bptr b4 0))] rfl; clear hA148
 refine c_region ?_
 refine st hA149 (op_loadA rfl ty_26 (hA149.ev rfl) (hS115.bk 5 rfl) (l := [rl, rs, (Value.int .i64 d.spread), rb]) rfl rfl) rfl rfl (by decide) fun a150 hA151 => ?_; clear hA149 a147
 refine stw hA151 (op_call rfl en_20 (ev1 (hA151.ev rfl)) (Round_ok rl rs rb rlv d _ (rnd_at (hS115.ok 7 _ rfl)) hth)) rfl rfl (by decide) ?_
 rintro a152 _ w154 ⟨vl155, vs156, vb157, lv158, rfl, hT159⟩ hA153; have hS160 := hS115.callS hT159 rfl; clear hT159 hA151 hS115 a150
 refine stw hA153 (op_call rfl en_21 (ev2 (hA153.ev rfl) (evc _ _)) (by have h := (explains_ok vl155 vs156 vb157 lv158 d _ (rnd_at (hS160.ok 0 _ rfl)) _ ([]) (slAt_nil _ 1) (Nat.le_of_ble_eq_true rfl)); rw [((explains_nil hc).trans (by rw [he]))] at h; exact h)) rfl rfl (by decide) ?_
 rintro a161 _ w163 ⟨rfl, hE164⟩ hA162; have hS165 := hS160.step hE164; clear hE164 hA153 hS160 a152
 refine st hA162 (op_move rfl (hA162.ev rfl)) rfl rfl (by decide) fun a166 hA167 => ?_; clear hA162 a161
 refine st hA167 (op_extract rfl (hA167.ev rfl) rfl) rfl rfl (by decide) fun a168 hA169 => ?_; clear hA167 a166
 refine st hA169 (op_extract rfl (hA169.ev rfl) rfl) rfl rfl (by decide) fun a170 hA171 => ?_; clear hA169 a168
 refine st hA171 (op_assign rfl (hA171.ev rfl)) rfl rfl (by decide) fun a172 hA173 => ?_; clear hA171 a170
 refine st hA173 (op_assign rfl (hA173.ev rfl)) rfl rfl (by decide) fun a174 hA175 => ?_; clear hA173 a172
 refine wl_nil ?_
 refine then_n ?_
 refine c_seq ?_
 have hA176 := hA175.as [(15, (Value.int .i64 0)), (14, (Value.bool false)), (9, (Value.int .i64 (((x : Int)).tmod (d.tols.length : Int)))), (4, (bptr b4 0))] rfl; clear hA175
 refine c_region ?_
 refine st hA176 (op_loadA rfl ty_26 (hA176.ev rfl) (hS165.bk 6 rfl) (l := [rl, rs, (Value.int .i64 d.spread), rb]) rfl rfl) rfl rfl (by decide) fun a177 hA178 => ?_; clear hA176 a174
 refine stw hA178 (op_call rfl en_20 (ev1 (hA178.ev rfl)) (Round_ok rl rs rb rlv d _ (rnd_at (hS165.ok 8 _ rfl)) hth)) rfl rfl (by decide) ?_
 rintro a179 _ w181 ⟨vl182, vs183, vb184, lv185, rfl, hT186⟩ hA180; have hS187 := hS165.callS hT186 rfl; clear hT186 hA178 hS165 a177
 refine st hA180 (op_move rfl (hA180.ev rfl)) rfl rfl (by decide) fun a188 hA189 => ?_; clear hA180 a179
 refine stw hA189 (op_buildSlice hS187 rfl (pv1 (hA189.ev rfl)) un_23 ty_3 ze_3 (by decide) (cs := [(Value.int .i64 (((x : Int)).tmod (d.tols.length : Int)))]) (bs_3_1_0i _)) rfl rfl (by decide) ?_
 rintro a190 _ w192 ⟨b193, rfl, hS194⟩ hA191; clear hA189 hS187 a188
 refine stw hA191 (op_call rfl en_21 (ev2 (hA191.ev rfl) (hA191.ev rfl)) (by have h := (explains_ok vl182 vs183 vb184 lv185 d _ (rnd_at (hS194.ok 1 _ rfl)) _ ([((x : Int)).tmod (d.tols.length : Int)]) (SlAt.of_blk (hS194.bk 0 rfl) rfl (Nat.le_of_ble_eq_true rfl)) (Nat.le_of_ble_eq_true rfl)); rw [(show explainsF d [((x : Int)).tmod (d.tols.length : Int)] = (true, 0) by rw [hk]; exact (explainsF_yes hc (rise_one (by simp only [Bool.and_eq_true, decide_eq_true_eq]; omega))).trans (by rw [off_one, Int.toNat_natCast, hx]))] at h; exact h)) rfl rfl (by decide) ?_
 rintro a195 _ w197 ⟨rfl, hE198⟩ hA196; have hS199 := hS194.step hE198; clear hE198 hA191 hS194 a190
 refine st hA196 (op_move rfl (hA196.ev rfl)) rfl rfl (by decide) fun a200 hA201 => ?_; clear hA196 a195
 refine st hA201 (op_extract rfl (hA201.ev rfl) rfl) rfl rfl (by decide) fun a202 hA203 => ?_; clear hA201 a200
 refine st hA203 (op_extract rfl (hA203.ev rfl) rfl) rfl rfl (by decide) fun a204 hA205 => ?_; clear hA203 a202
 refine st hA205 (op_assign rfl (hA205.ev rfl)) rfl rfl (by decide) fun a206 hA207 => ?_; clear hA205 a204
 refine st hA207 (op_assign rfl (hA207.ev rfl)) rfl rfl (by decide) fun a208 hA209 => ?_; clear hA207 a206
 refine wl_nil ?_
 refine then_n ?_
 refine c_seq ?_
 have hA210 := hA209.as [(17, (Value.int .i64 0)), (16, (Value.bool true)), (15, (Value.int .i64 0)), (14, (Value.bool false)), (9, (Value.int .i64 (((x : Int)).tmod (d.tols.length : Int)))), (4, (bptr b4 0))] rfl; clear hA209
 refine c_region ?_
 refine st hA210 (op_loadA rfl ty_26 (hA210.ev rfl) (hS199.bk 8 rfl) (l := [rl, rs, (Value.int .i64 d.spread), rb]) rfl rfl) rfl rfl (by decide) fun a211 hA212 => ?_; clear hA210 a208
 refine stw hA212 (op_call rfl en_20 (ev1 (hA212.ev rfl)) (Round_ok rl rs rb rlv d _ (rnd_at (hS199.ok 10 _ rfl)) hth)) rfl rfl (by decide) ?_
 rintro a213 _ w215 ⟨vl216, vs217, vb218, lv219, rfl, hT220⟩ hA214; have hS221 := hS199.callS hT220 rfl; clear hT220 hA212 hS199 a211
 refine st hA214 (op_move rfl (hA214.ev rfl)) rfl rfl (by decide) fun a222 hA223 => ?_; clear hA214 a213
 refine stw hA223 (op_call rfl en_32 (ev2 (hA223.ev rfl) (hA223.ev rfl)) (by have h := (shifts_fn vl216 vs217 vb218 lv219 d _ (rnd_at (hS221.ok 0 _ rfl)) (((x : Int)).tmod (d.tols.length : Int))); rw [(show shiftsR d (((x : Int)).tmod (d.tols.length : Int)) = ((a, b), 0) by rw [hk]; exact h2)] at h; exact h)) rfl rfl (by decide) ?_
 rintro a224 _ w226 ⟨rfl, hE227⟩ hA225; have hS228 := hS221.step hE227; clear hE227 hA223 hS221 a222
 refine st hA225 (op_move rfl (hA225.ev rfl)) rfl rfl (by decide) fun a229 hA230 => ?_; clear hA225 a224
 refine st hA230 (op_extract rfl (hA230.ev rfl) rfl) rfl rfl (by decide) fun a231 hA232 => ?_; clear hA230 a229
 refine st hA232 (op_extract rfl (hA232.ev rfl) rfl) rfl rfl (by decide) fun a233 hA234 => ?_; clear hA232 a231
 refine stw hA234 (op_alloc hS228 rfl ze_46 (cs := [(Value.int .i64 0), (Value.int .i64 0)]) rfl) rfl rfl (by decide) ?_
 rintro a235 _ w237 ⟨b238, rfl, hS239⟩ hA236; clear hA234 hS228 a233
 refine sts hA236 (op_store hS239 rfl ty_46 (hA236.ev rfl) (hA236.ev rfl) (i := 0) rfl (vs := [(Value.int .i64 a), (Value.int .i64 b)]) rfl rfl rfl (Nat.le_of_ble_eq_true rfl)) rfl rfl ?_
 intro _ w240 hS241 hA242; clear hA236
 have hS243 : Sep NoB w w240 [(blk b238 46 [(Value.int .i64 a), (Value.int .i64 b)]), (rndR true vl216 vs217 vb218 lv219 d), (blk b193 3 [(Value.int .i64 (((x : Int)).tmod (d.tols.length : Int)))]), (rndR true vl182 vs183 vb184 lv185 d), (rndR true vl155 vs156 vb157 lv158 d), (blk b110 46 [(Value.int .i64 lo), (Value.int .i64 hi)]), (rndR true vl88 vs89 vb90 lv91 (madeD d ws (trueF d ws d.samples.length) (1 * 2 ^ (((x : Int)).tmod (d.tols.length : Int)).toNat : Nat) ((sh).tmod 1000))), (blk b76 26 [rl, rs, (Value.int .i64 d.spread), vb69]), (row vb69 62 2 d.tols.length (vpairs (d.tols.zip lv70))), (lstR lv70 (madeD d ws (trueF d ws d.samples.length) (1 * 2 ^ (((x : Int)).tmod (d.tols.length : Int)).toNat : Nat) ((sh).tmod 1000)).rds), (blk b4 26 [rl, rs, (Value.int .i64 d.spread), rb]), (sl wv 1 ws.length (ws.map (Value.int .u16))), (rndR false rl rs rb rlv d)] := hS241; clear hS241 hS239
 refine st hA242 (op_assign rfl (hA242.ev rfl)) rfl rfl (by decide) fun a244 hA245 => ?_; clear hA242 a235
 refine wl_nil ?_
 refine then_n ?_
 refine c_seq ?_
 refine c_seq ?_
 have hA246 := hA245.as [(19, (Value.int .i64 0)), (18, (bptr b238 0)), (17, (Value.int .i64 0)), (16, (Value.bool true)), (15, (Value.int .i64 0)), (14, (Value.bool false))] rfl; clear hA245
 refine c_region ?_
 refine st hA246 (op_move rfl (hA246.ev rfl)) rfl rfl (by decide) fun a247 hA248 => ?_; clear hA246 a244
 refine st hA248 (op_neq rfl (hA248.ev rfl) (evc _ _)) rfl rfl (by decide) fun a249 hA250 => ?_; clear hA248 a247
 refine st hA250 (op_move rfl (hA250.ev rfl)) rfl rfl (by decide) fun a251 hA252 => ?_; clear hA250 a249
 refine stg hA252 (op_move rfl (hA252.ev rfl)) rfl rfl rfl rfl (by decide) fun a253 hA254 => ?_; clear hA252 a251
 refine stg hA254 (op_neq rfl (hA254.ev rfl) (evc _ _)) rfl rfl rfl rfl (by decide) fun a255 hA256 => ?_; clear hA254 a253
 refine st hA256 (op_pick_f rfl (hA256.ev rfl) (hA256.ev rfl)) rfl rfl (by decide) fun a257 hA258 => ?_; clear hA256 a255
 refine wl_nil ?_
 refine then_n ?_
 refine c_false hA258 rfl ?_
 refine c_skip ?_
 refine then_n ?_
 refine c_seq ?_
 refine c_seq ?_
 have hA259 := hA258.as [(19, (Value.int .i64 0)), (18, (bptr b238 0)), (16, (Value.bool true)), (14, (Value.bool false))] rfl; clear hA258
 refine c_region ?_
 refine st hA259 (op_move rfl (hA259.ev rfl)) rfl rfl (by decide) fun a260 hA261 => ?_; clear hA259 a257
 refine st hA261 (op_not rfl (hA261.ev rfl)) rfl rfl (by decide) fun a262 hA263 => ?_; clear hA261 a260
 refine wl_nil ?_
 refine then_n ?_
 refine c_false hA263 rfl ?_
 refine c_skip ?_
 refine then_n ?_
 refine c_seq ?_
 refine c_region ?_
 refine st hA263 (op_move rfl (hA263.ev rfl)) rfl rfl (by decide) fun a264 hA265 => ?_; clear hA263 a262
 refine st hA265 (op_eql rfl (hA265.ev rfl) (evc _ _)) rfl rfl (by decide) fun a266 hA267 => ?_; clear hA265 a264
 refine st hA267 (op_move rfl (hA267.ev rfl)) rfl rfl (by decide) fun a268 hA269 => ?_; clear hA267 a266
 refine stg hA269 (op_field rfl fd_46_0 (hA269.ev rfl)) rfl rfl rfl rfl (by decide) fun a270 hA271 => ?_; clear hA269 a268
 refine stg hA271 (op_load1 rfl ty_3 (hA271.ev rfl) (hS243.bk 0 rfl) rfl) rfl rfl rfl rfl (by decide) fun a272 hA273 => ?_; clear hA271 a270
 refine stg hA273 (op_leq rfl (hA273.ev rfl) (evc _ _)) rfl rfl rfl rfl (by decide) fun a274 hA275 => ?_; clear hA273 a272
 refine st hA275 (op_pick_t rfl (hA275.ev rfl) (hA275.ev rfl)) rfl rfl (by decide) fun a276 hA277 => ?_; clear hA275 a274
 refine st hA277 (op_move rfl (hA277.ev rfl)) rfl rfl (by decide) fun a278 hA279 => ?_; clear hA277 a276
 by_cases hb280 : a ≤ 0
 ·skip
  rw [decide_eq_true hb280] at hA279
  refine stg hA279 (op_field rfl fd_46_1 (hA279.ev rfl)) rfl rfl rfl rfl (by decide) fun a281 hA282 => ?_; clear hA279 a278
  refine stg hA282 (op_load1 rfl ty_3 (hA282.ev rfl) (hS243.bk 0 rfl) rfl) rfl rfl rfl rfl (by decide) fun a283 hA284 => ?_; clear hA282 a281
  refine stg hA284 (op_geq rfl (hA284.ev rfl) (evc _ _)) rfl rfl rfl rfl (by decide) fun a285 hA286 => ?_; clear hA284 a283
  have hd287 : ¬ (0 ≤ b) := (by omega)
  rw [decide_eq_false hd287] at hA286
  refine st hA286 (op_pick_t rfl (hA286.ev rfl) (hA286.ev rfl)) rfl rfl (by decide) fun a288 hA289 => ?_; clear hA286 a285
  refine st hA289 (op_assign rfl (hA289.ev rfl)) rfl rfl (by decide) fun a290 hA291 => ?_; clear hA289 a288
  refine wl_nil ?_
  refine then_n ?_
  refine c_seq ?_
  have hA292 := hA291.as [(20, (Value.bool false)), (19, (Value.int .i64 0)), (14, (Value.bool false))] rfl; clear hA291
  refine c_region ?_
  refine st hA292 (op_move rfl (hA292.ev rfl)) rfl rfl (by decide) fun a293 hA294 => ?_; clear hA292 a290
  refine st hA294 (op_eql rfl (hA294.ev rfl) (evc _ _)) rfl rfl (by decide) fun a295 hA296 => ?_; clear hA294 a293
  refine st hA296 (op_move rfl (hA296.ev rfl)) rfl rfl (by decide) fun a297 hA298 => ?_; clear hA296 a295
  refine skp hA298 rfl rfl rfl rfl rfl (by decide) fun a299 hA300 => ?_; clear hA298 a297
  refine skp hA300 rfl rfl rfl rfl rfl (by decide) fun a301 hA302 => ?_; clear hA300 a299
  refine st hA302 (op_pick_t rfl (hA302.ev rfl) (evc _ _)) rfl rfl (by decide) fun a303 hA304 => ?_; clear hA302 a301
  refine st hA304 (op_move rfl (hA304.ev rfl)) rfl rfl (by decide) fun a305 hA306 => ?_; clear hA304 a303
  refine stg hA306 (op_move rfl (hA306.ev rfl)) rfl rfl rfl rfl (by decide) fun a307 hA308 => ?_; clear hA306 a305
  refine stg hA308 (op_move rfl (hA308.ev rfl)) rfl rfl rfl rfl (by decide) fun a309 hA310 => ?_; clear hA308 a307
  refine stg hA310 (op_eqlB un_4 rfl (hA310.ev rfl) (hA310.ev rfl)) rfl rfl rfl rfl (by decide) fun a311 hA312 => ?_; clear hA310 a309
  refine st hA312 (op_pick_t rfl (hA312.ev rfl) (hA312.ev rfl)) rfl rfl (by decide) fun a313 hA314 => ?_; clear hA312 a311
  refine st hA314 (op_move rfl (hA314.ev rfl)) rfl rfl (by decide) fun a315 hA316 => ?_; clear hA314 a313
  refine stwg hA316 (op_call rfl en_18 ev0 (wakes_ok _)) rfl rfl rfl rfl (by decide) ?_
  rintro a317 _ w319 ⟨rfl, hE320⟩ hA318; have hS321 := hS243.step hE320; clear hE320 hA316 hS243 a315
  refine st hA318 (op_pick_t rfl (hA318.ev rfl) (hA318.ev rfl)) rfl rfl (by decide) fun a322 hA323 => ?_; clear hA318 a317
  refine st hA323 (op_assign rfl (hA323.ev rfl)) rfl rfl (by decide) fun a324 hA325 => ?_; clear hA323 a322
  refine wl_nil ?_
  refine then_n ?_
  refine c_ret ?_
  refine fin_run hA325 (.inl rfl) (run_results1 hA325 rfl (.tmp rfl)) ?_
  exact ⟨rfl, hS321.ext⟩
 ·skip
  rw [decide_eq_false hb280] at hA279
  refine skp hA279 rfl rfl rfl rfl rfl (by decide) fun a326 hA327 => ?_; clear hA279 a278
  refine skp hA327 rfl rfl rfl rfl rfl (by decide) fun a328 hA329 => ?_; clear hA327 a326
  refine skp hA329 rfl rfl rfl rfl rfl (by decide) fun a330 hA331 => ?_; clear hA329 a328
  refine st hA331 (op_pick_f rfl (hA331.ev rfl) (evc _ _)) rfl rfl (by decide) fun a332 hA333 => ?_; clear hA331 a330
  refine st hA333 (op_assign rfl (hA333.ev rfl)) rfl rfl (by decide) fun a334 hA335 => ?_; clear hA333 a332
  refine wl_nil ?_
  refine then_n ?_
  refine c_seq ?_
  have hA336 := hA335.as [(20, (Value.bool false)), (19, (Value.int .i64 0)), (14, (Value.bool false))] rfl; clear hA335
  refine c_region ?_
  refine st hA336 (op_move rfl (hA336.ev rfl)) rfl rfl (by decide) fun a337 hA338 => ?_; clear hA336 a334
  refine st hA338 (op_eql rfl (hA338.ev rfl) (evc _ _)) rfl rfl (by decide) fun a339 hA340 => ?_; clear hA338 a337
  refine st hA340 (op_move rfl (hA340.ev rfl)) rfl rfl (by decide) fun a341 hA342 => ?_; clear hA340 a339
  refine skp hA342 rfl rfl rfl rfl rfl (by decide) fun a343 hA344 => ?_; clear hA342 a341
  refine skp hA344 rfl rfl rfl rfl rfl (by decide) fun a345 hA346 => ?_; clear hA344 a343
  refine st hA346 (op_pick_t rfl (hA346.ev rfl) (evc _ _)) rfl rfl (by decide) fun a347 hA348 => ?_; clear hA346 a345
  refine st hA348 (op_move rfl (hA348.ev rfl)) rfl rfl (by decide) fun a349 hA350 => ?_; clear hA348 a347
  refine stg hA350 (op_move rfl (hA350.ev rfl)) rfl rfl rfl rfl (by decide) fun a351 hA352 => ?_; clear hA350 a349
  refine stg hA352 (op_move rfl (hA352.ev rfl)) rfl rfl rfl rfl (by decide) fun a353 hA354 => ?_; clear hA352 a351
  refine stg hA354 (op_eqlB un_4 rfl (hA354.ev rfl) (hA354.ev rfl)) rfl rfl rfl rfl (by decide) fun a355 hA356 => ?_; clear hA354 a353
  refine st hA356 (op_pick_t rfl (hA356.ev rfl) (hA356.ev rfl)) rfl rfl (by decide) fun a357 hA358 => ?_; clear hA356 a355
  refine st hA358 (op_move rfl (hA358.ev rfl)) rfl rfl (by decide) fun a359 hA360 => ?_; clear hA358 a357
  refine stwg hA360 (op_call rfl en_18 ev0 (wakes_ok _)) rfl rfl rfl rfl (by decide) ?_
  rintro a361 _ w363 ⟨rfl, hE364⟩ hA362; have hS365 := hS243.step hE364; clear hE364 hA360 hS243 a359
  refine st hA362 (op_pick_t rfl (hA362.ev rfl) (hA362.ev rfl)) rfl rfl (by decide) fun a366 hA367 => ?_; clear hA362 a361
  refine st hA367 (op_assign rfl (hA367.ev rfl)) rfl rfl (by decide) fun a368 hA369 => ?_; clear hA367 a366
  refine wl_nil ?_
  refine then_n ?_
  refine c_ret ?_
  refine fin_run hA369 (.inl rfl) (run_results1 hA369 rfl (.tmp rfl)) ?_
  exact ⟨rfl, hS365.ext⟩

set_option maxHeartbeats 4000000 in
theorem RoundAlike_f (rl rs rb : Value) (rlv : List Value) (d : RD) (w : World) (hR : RoundAt w rl rs rb rlv d) (wv : Value) (ws : List Int) (hws : SlAt w wv 1 ws.length (ws.map (Value.int .u16))) (hww : ∀ x ∈ ws, 0 ≤ x ∧ x ≤ 65535) (x : Nat) (hxb : x < 256) (sh : Int) (hsb : -32768 ≤ sh ∧ sh ≤ 32767) (hf : readyB d = true) (hn0 : 0 < d.tols.length) (k : Nat) (hk : (x : Int).tmod (d.tols.length : Int) = (k : Int)) (hkb : k < d.tols.length) (lo hi : Int) (hs0 : shiftsR (madeD d ws (trueF d ws d.samples.length) (1 * 2 ^ k) (sh.tmod 1000)) (k : Int) = ((lo, hi), 0)) (hs1 : lo ≤ sh.tmod 1000) (hs2 : sh.tmod 1000 ≤ hi) (he : explB d off0 = true) (hx : explB d (off0.set k true) = true) (a b : Int) (h2 : shiftsR d (k : Int) = ((a, b), 0)) (ha : a ≤ 0) (hb : 0 ≤ b) :
  Calls Try.prog 11 #[(Value.agg #[rl, rs, (Value.int .i64 d.spread), rb]), wv, (Value.int .u8 (x : Int)), (Value.int .i16 sh)] w (Ret fun v w' => v = .bool true ∧ Ext NoB w w') := by
 refine calls_enter Try.func11 rfl fun a0 hA0 => ?_
 replace hA0 : Fr 132 [] [(0, (Value.agg #[rl, rs, (Value.int .i64 d.spread), rb])), (1, wv), (2, (Value.int .u8 (x : Int))), (3, (Value.int .i16 sh))] a0 := hA0
 have hth := thin_of (ready_of hf).1; have hc := (ready_of hf).2; have hV := valid_of hc; have hnb := hV.nb; have hns := hV.ns; have hnl := hV.nl; have htm := tmod_bd sh 1000 (by decide); have hkn : ((x : Int).tmod (d.tols.length : Int)).toNat = k := (by omega); have hpw : (2 : Nat) ^ k ≤ 32 := Nat.le_trans (Nat.pow_le_pow_right (n := 2) (Nat.le_of_ble_eq_true rfl) (show k ≤ 5 by omega)) (Nat.le_of_ble_eq_true rfl)
 have hS0 : Sep NoB w w [(sl wv 1 ws.length (ws.map (Value.int .u16))), (rndR false rl rs rb rlv d)] := sep_ro ⟨rfl, hws, rfl, hR, trivial⟩
 refine c_seq ?_
 refine c_region ?_
 refine stw hA0 (op_box hS0 rfl (hA0.ev rfl) (cs := [rl, rs, (Value.int .i64 d.spread), rb]) rfl) rfl rfl (by decide) ?_
 rintro a1 _ w3 ⟨b4, rfl, hS5⟩ hA2; clear hA0 hS0 a0
 refine st hA2 (op_assign rfl (evc _ _)) rfl rfl (by decide) fun a6 hA7 => ?_; clear hA2 a1
 refine wl_nil ?_
 refine then_n ?_
 refine c_seq ?_
 refine c_seq ?_
 refine c_region ?_
 refine st hA7 (op_loadA rfl ty_26 (hA7.ev rfl) (hS5.bk 0 rfl) (l := [rl, rs, (Value.int .i64 d.spread), rb]) rfl rfl) rfl rfl (by decide) fun a8 hA9 => ?_; clear hA7 a6
 refine stw hA9 (op_call rfl en_35 (ev1 (hA9.ev rfl)) (ready_ok rl rs rb rlv d _ (rnd_at (hS5.ok 2 _ rfl)))) rfl rfl (by decide) ?_
 rintro a10 _ w12 ⟨rfl, hE13⟩ hA11; have hS14 := hS5.step hE13; clear hE13 hA9 hS5 a8
 rw [hf] at hA11
 refine st hA11 (op_not rfl (hA11.ev rfl)) rfl rfl (by decide) fun a15 hA16 => ?_; clear hA11 a10
 refine st hA16 (op_move rfl (hA16.ev rfl)) rfl rfl (by decide) fun a17 hA18 => ?_; clear hA16 a15
 refine stg hA18 (op_field rfl fd_26_3 (hA18.ev rfl)) rfl rfl rfl rfl (by decide) fun a19 hA20 => ?_; clear hA18 a17
 refine stg hA20 (op_load1 rfl ty_24 (hA20.ev rfl) (hS14.bk 0 rfl) rfl) rfl rfl rfl rfl (by decide) fun a21 hA22 => ?_; clear hA20 a19
 refine stg hA22 (op_lenS rfl un_24 (hA22.ev rfl) (rnd_at (hS14.ok 2 _ rfl)).labs) rfl rfl rfl rfl (by decide) fun a23 hA24 => ?_; clear hA22 a21
 refine stg hA24 (op_eql rfl (hA24.ev rfl) (evc _ _)) rfl rfl rfl rfl (by decide) fun a25 hA26 => ?_; clear hA24 a23
 have hd27 : ¬ ((d.tols.length : Int) = 0) := (by omega)
 rw [decide_eq_false hd27] at hA26
 refine st hA26 (op_pick_f rfl (hA26.ev rfl) (hA26.ev rfl)) rfl rfl (by decide) fun a28 hA29 => ?_; clear hA26 a25
 refine wl_nil ?_
 refine then_n ?_
 refine c_false hA29 rfl ?_
 refine c_skip ?_
 refine then_n ?_
 refine c_seq ?_
 have hA30 := hA29.as [(4, (bptr b4 0)), (1, wv), (2, (Value.int .u8 (x : Int))), (3, (Value.int .i16 sh))] rfl; clear hA29
 refine c_region ?_
 refine st hA30 (op_move rfl (hA30.ev rfl)) rfl rfl (by decide) fun a31 hA32 => ?_; clear hA30 a28
 refine st hA32 (op_conv un_5 un_3 rfl (hA32.ev rfl) (v := (x : Int)) (wrap_i64 (by omega) (by omega))) rfl rfl (by decide) fun a33 hA34 => ?_; clear hA32 a31
 refine st hA34 (op_field rfl fd_26_3 (hA34.ev rfl)) rfl rfl (by decide) fun a35 hA36 => ?_; clear hA34 a33
 refine st hA36 (op_load1 rfl ty_24 (hA36.ev rfl) (hS14.bk 0 rfl) rfl) rfl rfl (by decide) fun a37 hA38 => ?_; clear hA36 a35
 refine st hA38 (op_lenS rfl un_24 (hA38.ev rfl) (rnd_at (hS14.ok 2 _ rfl)).labs) rfl rfl (by decide) fun a39 hA40 => ?_; clear hA38 a37
 refine st hA40 (op_rem rfl (hA40.ev rfl) (hA40.ev rfl) (by omega)) rfl rfl (by decide) fun a41 hA42 => ?_; clear hA40 a39
 refine st hA42 (op_move rfl (hA42.ev rfl)) rfl rfl (by decide) fun a43 hA44 => ?_; clear hA42 a41
 refine st hA44 (op_conv un_69 un_3 rfl (hA44.ev rfl) (v := sh) (wrap_i64 (by omega) (by omega))) rfl rfl (by decide) fun a45 hA46 => ?_; clear hA44 a43
 refine st hA46 (op_rem rfl (hA46.ev rfl) (evc _ _) (by omega)) rfl rfl (by decide) fun a47 hA48 => ?_; clear hA46 a45
 refine st hA48 (op_assign rfl (hA48.ev rfl)) rfl rfl (by decide) fun a49 hA50 => ?_; clear hA48 a47
 refine st hA50 (op_assign rfl (hA50.ev rfl)) rfl rfl (by decide) fun a51 hA52 => ?_; clear hA50 a49
 refine wl_nil ?_
 refine then_n ?_
 refine c_seq ?_
 have hA53 := hA52.as [(10, (Value.int .i64 ((sh).tmod 1000))), (9, (Value.int .i64 (((x : Int)).tmod (d.tols.length : Int)))), (4, (bptr b4 0)), (1, wv)] rfl; clear hA52
 refine c_region ?_
 refine st hA53 (op_loadA rfl ty_26 (hA53.ev rfl) (hS14.bk 0 rfl) (l := [rl, rs, (Value.int .i64 d.spread), rb]) rfl rfl) rfl rfl (by decide) fun a54 hA55 => ?_; clear hA53 a51
 refine st hA55 (op_move rfl (hA55.ev rfl)) rfl rfl (by decide) fun a56 hA57 => ?_; clear hA55 a54
 refine st hA57 (op_move rfl (hA57.ev rfl)) rfl rfl (by decide) fun a58 hA59 => ?_; clear hA57 a56
 refine st hA59 (op_conv un_3 un_71 rfl (hA59.ev rfl) (v := ((x : Int)).tmod (d.tols.length : Int)) (wrap_u64 (by omega) (by omega))) rfl rfl (by decide) fun a60 hA61 => ?_; clear hA59 a58
 refine st hA61 (op_shl8 rfl (m := 1) (show _ = Value.int .u8 ((1 : Nat) : Int) from (evc _ _)) (k := (((x : Int)).tmod (d.tols.length : Int)).toNat) ((hA61.ev rfl).trans (int_nat (by omega))) (by rw [hkn]; omega) (by omega)) rfl rfl (by decide) fun a62 hA63 => ?_; clear hA61 a60
 refine st hA63 (op_move rfl (hA63.ev rfl)) rfl rfl (by decide) fun a64 hA65 => ?_; clear hA63 a62
 refine stw hA65 (op_call rfl en_37 (ev4 (hA65.ev rfl) (hA65.ev rfl) (hA65.ev rfl) (hA65.ev rfl)) (Read_ok rl rs rb rlv d _ (rnd_at (hS14.ok 2 _ rfl)) _ ws (hS14.sk 1 rfl) hww (1 * 2 ^ (((x : Int)).tmod (d.tols.length : Int)).toNat : Nat) ((sh).tmod 1000) hV (by omega))) rfl rfl (by decide) ?_
 rintro a66 _ w68 ⟨vb69, lv70, rfl, hT71⟩ hA67; have hS72 := hS14.callS hT71 rfl; clear hT71 hA65 hS14 a64
 have hll_lv70 := hS72.lst_len 1 rfl; have hrl_lv70 : (madeD d ws (trueF d ws d.samples.length) (1 * 2 ^ (((x : Int)).tmod (d.tols.length : Int)).toNat : Nat) ((sh).tmod 1000)).rds.length = d.tols.length := by simp [madeD]
 refine stw hA67 (op_alloc hS72 rfl ze_26 (cs := [(Value.slice none 0 0), (Value.slice none 0 0), (Value.int .i64 0), (Value.slice none 0 0)]) rfl) rfl rfl (by decide) ?_
 rintro a73 _ w75 ⟨b76, rfl, hS77⟩ hA74; clear hA67 hS72 a66
 refine sts hA74 (op_store hS77 rfl ty_26 (hA74.ev rfl) (hA74.ev rfl) (i := 0) rfl (vs := [rl, rs, (Value.int .i64 d.spread), vb69]) rfl rfl (all_c (SlAt.one (rnd_at (hS77.ok 5 _ rfl)).lots) (all_c (SlAt.one (rnd_at (hS77.ok 5 _ rfl)).samples) (all_c rfl (all_c (SlAt.one (SlAt.of_row (hS77.ok_row 1 rfl))) all_n)))) (Nat.le_of_ble_eq_true rfl)) rfl rfl ?_
 intro _ w78 hS79 hA80; clear hA74
 have hS81 : Sep NoB w w78 [(blk b76 26 [rl, rs, (Value.int .i64 d.spread), vb69]), (row vb69 62 2 d.tols.length (vpairs (d.tols.zip lv70))), (lstR lv70 (madeD d ws (trueF d ws d.samples.length) (1 * 2 ^ (((x : Int)).tmod (d.tols.length : Int)).toNat : Nat) ((sh).tmod 1000)).rds), (blk b4 26 [rl, rs, (Value.int .i64 d.spread), rb]), (sl wv 1 ws.length (ws.map (Value.int .u16))), (rndR false rl rs rb rlv d)] := hS79; clear hS79 hS77
 refine wl_nil ?_
 refine then_n ?_
 refine c_seq ?_
 have hA82 := hA80.as [(11, (bptr b76 0)), (10, (Value.int .i64 ((sh).tmod 1000))), (9, (Value.int .i64 (((x : Int)).tmod (d.tols.length : Int)))), (4, (bptr b4 0))] rfl; clear hA80
 refine c_region ?_
 refine st hA82 (op_loadA rfl ty_26 (hA82.ev rfl) (hS81.bk 0 rfl) (l := [rl, rs, (Value.int .i64 d.spread), vb69]) rfl rfl) rfl rfl (by decide) fun a83 hA84 => ?_; clear hA82 a73
 refine stw hA84 (op_call rfl en_20 (ev1 (hA84.ev rfl)) (Round_ok rl rs vb69 lv70 (madeD d ws (trueF d ws d.samples.length) (1 * 2 ^ (((x : Int)).tmod (d.tols.length : Int)).toNat : Nat) ((sh).tmod 1000)) _ (show RoundAt _ rl rs vb69 lv70 (madeD d ws (trueF d ws d.samples.length) (1 * 2 ^ (((x : Int)).tmod (d.tols.length : Int)).toNat : Nat) ((sh).tmod 1000)) from ⟨(rnd_at (hS81.ok 5 _ rfl)).lots, (rnd_at (hS81.ok 5 _ rfl)).samples, SlAt.of_row (hS81.ok_row 1 rfl), (hS81.lst_at 2 rfl).2, hll_lv70.trans hrl_lv70, hrl_lv70⟩) (made_thin hV))) rfl rfl (by decide) ?_
 rintro a85 _ w87 ⟨vl88, vs89, vb90, lv91, rfl, hT92⟩ hA86; have hS93 := hS81.callS hT92 rfl; clear hT92 hA84 hS81 a83
 refine st hA86 (op_move rfl (hA86.ev rfl)) rfl rfl (by decide) fun a94 hA95 => ?_; clear hA86 a85
 refine stw hA95 (op_call rfl en_32 (ev2 (hA95.ev rfl) (hA95.ev rfl)) (by have h := (shifts_fn vl88 vs89 vb90 lv91 (madeD d ws (trueF d ws d.samples.length) (1 * 2 ^ (((x : Int)).tmod (d.tols.length : Int)).toNat : Nat) ((sh).tmod 1000)) _ (rnd_at (hS93.ok 0 _ rfl)) (((x : Int)).tmod (d.tols.length : Int))); rw [(show shiftsR (madeD d ws (trueF d ws d.samples.length) (1 * 2 ^ (((x : Int)).tmod (d.tols.length : Int)).toNat : Nat) ((sh).tmod 1000)) (((x : Int)).tmod (d.tols.length : Int)) = ((lo, hi), 0) by rw [hkn, hk]; exact hs0)] at h; exact h)) rfl rfl (by decide) ?_
 rintro a96 _ w98 ⟨rfl, hE99⟩ hA97; have hS100 := hS93.step hE99; clear hE99 hA95 hS93 a94
 refine st hA97 (op_move rfl (hA97.ev rfl)) rfl rfl (by decide) fun a101 hA102 => ?_; clear hA97 a96
 refine st hA102 (op_extract rfl (hA102.ev rfl) rfl) rfl rfl (by decide) fun a103 hA104 => ?_; clear hA102 a101
 refine st hA104 (op_extract rfl (hA104.ev rfl) rfl) rfl rfl (by decide) fun a105 hA106 => ?_; clear hA104 a103
 refine stw hA106 (op_alloc hS100 rfl ze_46 (cs := [(Value.int .i64 0), (Value.int .i64 0)]) rfl) rfl rfl (by decide) ?_
 rintro a107 _ w109 ⟨b110, rfl, hS111⟩ hA108; clear hA106 hS100 a105
 refine sts hA108 (op_store hS111 rfl ty_46 (hA108.ev rfl) (hA108.ev rfl) (i := 0) rfl (vs := [(Value.int .i64 lo), (Value.int .i64 hi)]) rfl rfl rfl (Nat.le_of_ble_eq_true rfl)) rfl rfl ?_
 intro _ w112 hS113 hA114; clear hA108
 have hS115 : Sep NoB w w112 [(blk b110 46 [(Value.int .i64 lo), (Value.int .i64 hi)]), (rndR true vl88 vs89 vb90 lv91 (madeD d ws (trueF d ws d.samples.length) (1 * 2 ^ (((x : Int)).tmod (d.tols.length : Int)).toNat : Nat) ((sh).tmod 1000))), (blk b76 26 [rl, rs, (Value.int .i64 d.spread), vb69]), (row vb69 62 2 d.tols.length (vpairs (d.tols.zip lv70))), (lstR lv70 (madeD d ws (trueF d ws d.samples.length) (1 * 2 ^ (((x : Int)).tmod (d.tols.length : Int)).toNat : Nat) ((sh).tmod 1000)).rds), (blk b4 26 [rl, rs, (Value.int .i64 d.spread), rb]), (sl wv 1 ws.length (ws.map (Value.int .u16))), (rndR false rl rs rb rlv d)] := hS113; clear hS113 hS111
 refine st hA114 (op_assign rfl (hA114.ev rfl)) rfl rfl (by decide) fun a116 hA117 => ?_; clear hA114 a107
 refine wl_nil ?_
 refine then_n ?_
 refine c_seq ?_
 refine c_seq ?_
 have hA118 := hA117.as [(13, (Value.int .i64 0)), (12, (bptr b110 0)), (10, (Value.int .i64 ((sh).tmod 1000))), (9, (Value.int .i64 (((x : Int)).tmod (d.tols.length : Int)))), (4, (bptr b4 0))] rfl; clear hA117
 refine c_region ?_
 refine st hA118 (op_move rfl (hA118.ev rfl)) rfl rfl (by decide) fun a119 hA120 => ?_; clear hA118 a116
 refine st hA120 (op_neq rfl (hA120.ev rfl) (evc _ _)) rfl rfl (by decide) fun a121 hA122 => ?_; clear hA120 a119
 refine st hA122 (op_move rfl (hA122.ev rfl)) rfl rfl (by decide) fun a123 hA124 => ?_; clear hA122 a121
 refine stg hA124 (op_move rfl (hA124.ev rfl)) rfl rfl rfl rfl (by decide) fun a125 hA126 => ?_; clear hA124 a123
 refine stg hA126 (op_field rfl fd_46_0 (hA126.ev rfl)) rfl rfl rfl rfl (by decide) fun a127 hA128 => ?_; clear hA126 a125
 refine stg hA128 (op_load1 rfl ty_3 (hA128.ev rfl) (hS115.bk 0 rfl) rfl) rfl rfl rfl rfl (by decide) fun a129 hA130 => ?_; clear hA128 a127
 refine stg hA130 (op_lss rfl (hA130.ev rfl) (hA130.ev rfl)) rfl rfl rfl rfl (by decide) fun a131 hA132 => ?_; clear hA130 a129
 have hd133 : ¬ (((sh).tmod 1000) < lo) := (by omega)
 rw [decide_eq_false hd133] at hA132
 refine st hA132 (op_pick_f rfl (hA132.ev rfl) (hA132.ev rfl)) rfl rfl (by decide) fun a134 hA135 => ?_; clear hA132 a131
 refine st hA135 (op_move rfl (hA135.ev rfl)) rfl rfl (by decide) fun a136 hA137 => ?_; clear hA135 a134
 refine stg hA137 (op_move rfl (hA137.ev rfl)) rfl rfl rfl rfl (by decide) fun a138 hA139 => ?_; clear hA137 a136
 refine stg hA139 (op_field rfl fd_46_1 (hA139.ev rfl)) rfl rfl rfl rfl (by decide) fun a140 hA141 => ?_; clear hA139 a138
 refine stg hA141 (op_load1 rfl ty_3 (hA141.ev rfl) (hS115.bk 0 rfl) rfl) rfl rfl rfl rfl (by decide) fun a142 hA143 => ?_; clear hA141 a140
 refine stg hA143 (op_gtr rfl (hA143.ev rfl) (hA143.ev rfl)) rfl rfl rfl rfl (by decide) fun a144 hA145 => ?_; clear hA143 a142
 have hd146 : ¬ (hi < ((sh).tmod 1000)) := (by omega)
 rw [decide_eq_false hd146] at hA145
 refine st hA145 (op_pick_f rfl (hA145.ev rfl) (hA145.ev rfl)) rfl rfl (by decide) fun a147 hA148 => ?_; clear hA145 a144
 refine wl_nil ?_
 refine then_n ?_
 refine c_false hA148 rfl ?_
 refine c_skip ?_
 refine then_n ?_
 refine c_seq ?_
 have hA149 := hA148.as [(9, (Value.int .i64 (((x : Int)).tmod (d.tols.length : Int)))), (4, (bptr b4 0))] rfl; clear hA148
 refine c_region ?_
 refine st hA149 (op_loadA rfl ty_26 (hA149.ev rfl) (hS115.bk 5 rfl) (l := [rl, rs, (Value.int .i64 d.spread), rb]) rfl rfl) rfl rfl (by decide) fun a150 hA151 => ?_; clear hA149 a147
 refine stw hA151 (op_call rfl en_20 (ev1 (hA151.ev rfl)) (Round_ok rl rs rb rlv d _ (rnd_at (hS115.ok 7 _ rfl)) hth)) rfl rfl (by decide) ?_
 rintro a152 _ w154 ⟨vl155, vs156, vb157, lv158, rfl, hT159⟩ hA153; have hS160 := hS115.callS hT159 rfl; clear hT159 hA151 hS115 a150
 refine stw hA153 (op_call rfl en_21 (ev2 (hA153.ev rfl) (evc _ _)) (by have h := (explains_ok vl155 vs156 vb157 lv158 d _ (rnd_at (hS160.ok 0 _ rfl)) _ ([]) (slAt_nil _ 1) (Nat.le_of_ble_eq_true rfl)); rw [((explains_nil hc).trans (by rw [he]))] at h; exact h)) rfl rfl (by decide) ?_
 rintro a161 _ w163 ⟨rfl, hE164⟩ hA162; have hS165 := hS160.step hE164; clear hE164 hA153 hS160 a152
 refine st hA162 (op_move rfl (hA162.ev rfl)) rfl rfl (by decide) fun a166 hA167 => ?_; clear hA162 a161
 refine st hA167 (op_extract rfl (hA167.ev rfl) rfl) rfl rfl (by decide) fun a168 hA169 => ?_; clear hA167 a166
 refine st hA169 (op_extract rfl (hA169.ev rfl) rfl) rfl rfl (by decide) fun a170 hA171 => ?_; clear hA169 a168
 refine st hA171 (op_assign rfl (hA171.ev rfl)) rfl rfl (by decide) fun a172 hA173 => ?_; clear hA171 a170
 refine st hA173 (op_assign rfl (hA173.ev rfl)) rfl rfl (by decide) fun a174 hA175 => ?_; clear hA173 a172
 refine wl_nil ?_
 refine then_n ?_
 refine c_seq ?_
 have hA176 := hA175.as [(15, (Value.int .i64 0)), (14, (Value.bool true)), (9, (Value.int .i64 (((x : Int)).tmod (d.tols.length : Int)))), (4, (bptr b4 0))] rfl; clear hA175
 refine c_region ?_
 refine st hA176 (op_loadA rfl ty_26 (hA176.ev rfl) (hS165.bk 6 rfl) (l := [rl, rs, (Value.int .i64 d.spread), rb]) rfl rfl) rfl rfl (by decide) fun a177 hA178 => ?_; clear hA176 a174
 refine stw hA178 (op_call rfl en_20 (ev1 (hA178.ev rfl)) (Round_ok rl rs rb rlv d _ (rnd_at (hS165.ok 8 _ rfl)) hth)) rfl rfl (by decide) ?_
 rintro a179 _ w181 ⟨vl182, vs183, vb184, lv185, rfl, hT186⟩ hA180; have hS187 := hS165.callS hT186 rfl; clear hT186 hA178 hS165 a177
 refine st hA180 (op_move rfl (hA180.ev rfl)) rfl rfl (by decide) fun a188 hA189 => ?_; clear hA180 a179
 refine stw hA189 (op_buildSlice hS187 rfl (pv1 (hA189.ev rfl)) un_23 ty_3 ze_3 (by decide) (cs := [(Value.int .i64 (((x : Int)).tmod (d.tols.length : Int)))]) (bs_3_1_0i _)) rfl rfl (by decide) ?_
 rintro a190 _ w192 ⟨b193, rfl, hS194⟩ hA191; clear hA189 hS187 a188
 refine stw hA191 (op_call rfl en_21 (ev2 (hA191.ev rfl) (hA191.ev rfl)) (by have h := (explains_ok vl182 vs183 vb184 lv185 d _ (rnd_at (hS194.ok 1 _ rfl)) _ ([((x : Int)).tmod (d.tols.length : Int)]) (SlAt.of_blk (hS194.bk 0 rfl) rfl (Nat.le_of_ble_eq_true rfl)) (Nat.le_of_ble_eq_true rfl)); rw [(show explainsF d [((x : Int)).tmod (d.tols.length : Int)] = (true, 0) by rw [hk]; exact (explainsF_yes hc (rise_one (by simp only [Bool.and_eq_true, decide_eq_true_eq]; omega))).trans (by rw [off_one, Int.toNat_natCast, hx]))] at h; exact h)) rfl rfl (by decide) ?_
 rintro a195 _ w197 ⟨rfl, hE198⟩ hA196; have hS199 := hS194.step hE198; clear hE198 hA191 hS194 a190
 refine st hA196 (op_move rfl (hA196.ev rfl)) rfl rfl (by decide) fun a200 hA201 => ?_; clear hA196 a195
 refine st hA201 (op_extract rfl (hA201.ev rfl) rfl) rfl rfl (by decide) fun a202 hA203 => ?_; clear hA201 a200
 refine st hA203 (op_extract rfl (hA203.ev rfl) rfl) rfl rfl (by decide) fun a204 hA205 => ?_; clear hA203 a202
 refine st hA205 (op_assign rfl (hA205.ev rfl)) rfl rfl (by decide) fun a206 hA207 => ?_; clear hA205 a204
 refine st hA207 (op_assign rfl (hA207.ev rfl)) rfl rfl (by decide) fun a208 hA209 => ?_; clear hA207 a206
 refine wl_nil ?_
 refine then_n ?_
 refine c_seq ?_
 have hA210 := hA209.as [(17, (Value.int .i64 0)), (16, (Value.bool true)), (15, (Value.int .i64 0)), (14, (Value.bool true)), (9, (Value.int .i64 (((x : Int)).tmod (d.tols.length : Int)))), (4, (bptr b4 0))] rfl; clear hA209
 refine c_region ?_
 refine st hA210 (op_loadA rfl ty_26 (hA210.ev rfl) (hS199.bk 8 rfl) (l := [rl, rs, (Value.int .i64 d.spread), rb]) rfl rfl) rfl rfl (by decide) fun a211 hA212 => ?_; clear hA210 a208
 refine stw hA212 (op_call rfl en_20 (ev1 (hA212.ev rfl)) (Round_ok rl rs rb rlv d _ (rnd_at (hS199.ok 10 _ rfl)) hth)) rfl rfl (by decide) ?_
 rintro a213 _ w215 ⟨vl216, vs217, vb218, lv219, rfl, hT220⟩ hA214; have hS221 := hS199.callS hT220 rfl; clear hT220 hA212 hS199 a211
 refine st hA214 (op_move rfl (hA214.ev rfl)) rfl rfl (by decide) fun a222 hA223 => ?_; clear hA214 a213
 refine stw hA223 (op_call rfl en_32 (ev2 (hA223.ev rfl) (hA223.ev rfl)) (by have h := (shifts_fn vl216 vs217 vb218 lv219 d _ (rnd_at (hS221.ok 0 _ rfl)) (((x : Int)).tmod (d.tols.length : Int))); rw [(show shiftsR d (((x : Int)).tmod (d.tols.length : Int)) = ((a, b), 0) by rw [hk]; exact h2)] at h; exact h)) rfl rfl (by decide) ?_
 rintro a224 _ w226 ⟨rfl, hE227⟩ hA225; have hS228 := hS221.step hE227; clear hE227 hA223 hS221 a222
 refine st hA225 (op_move rfl (hA225.ev rfl)) rfl rfl (by decide) fun a229 hA230 => ?_; clear hA225 a224
 refine st hA230 (op_extract rfl (hA230.ev rfl) rfl) rfl rfl (by decide) fun a231 hA232 => ?_; clear hA230 a229
 refine st hA232 (op_extract rfl (hA232.ev rfl) rfl) rfl rfl (by decide) fun a233 hA234 => ?_; clear hA232 a231
 refine stw hA234 (op_alloc hS228 rfl ze_46 (cs := [(Value.int .i64 0), (Value.int .i64 0)]) rfl) rfl rfl (by decide) ?_
 rintro a235 _ w237 ⟨b238, rfl, hS239⟩ hA236; clear hA234 hS228 a233
 refine sts hA236 (op_store hS239 rfl ty_46 (hA236.ev rfl) (hA236.ev rfl) (i := 0) rfl (vs := [(Value.int .i64 a), (Value.int .i64 b)]) rfl rfl rfl (Nat.le_of_ble_eq_true rfl)) rfl rfl ?_
 intro _ w240 hS241 hA242; clear hA236
 have hS243 : Sep NoB w w240 [(blk b238 46 [(Value.int .i64 a), (Value.int .i64 b)]), (rndR true vl216 vs217 vb218 lv219 d), (blk b193 3 [(Value.int .i64 (((x : Int)).tmod (d.tols.length : Int)))]), (rndR true vl182 vs183 vb184 lv185 d), (rndR true vl155 vs156 vb157 lv158 d), (blk b110 46 [(Value.int .i64 lo), (Value.int .i64 hi)]), (rndR true vl88 vs89 vb90 lv91 (madeD d ws (trueF d ws d.samples.length) (1 * 2 ^ (((x : Int)).tmod (d.tols.length : Int)).toNat : Nat) ((sh).tmod 1000))), (blk b76 26 [rl, rs, (Value.int .i64 d.spread), vb69]), (row vb69 62 2 d.tols.length (vpairs (d.tols.zip lv70))), (lstR lv70 (madeD d ws (trueF d ws d.samples.length) (1 * 2 ^ (((x : Int)).tmod (d.tols.length : Int)).toNat : Nat) ((sh).tmod 1000)).rds), (blk b4 26 [rl, rs, (Value.int .i64 d.spread), rb]), (sl wv 1 ws.length (ws.map (Value.int .u16))), (rndR false rl rs rb rlv d)] := hS241; clear hS241 hS239
 refine st hA242 (op_assign rfl (hA242.ev rfl)) rfl rfl (by decide) fun a244 hA245 => ?_; clear hA242 a235
 refine wl_nil ?_
 refine then_n ?_
 refine c_seq ?_
 refine c_seq ?_
 have hA246 := hA245.as [(19, (Value.int .i64 0)), (18, (bptr b238 0)), (17, (Value.int .i64 0)), (16, (Value.bool true)), (15, (Value.int .i64 0)), (14, (Value.bool true))] rfl; clear hA245
 refine c_region ?_
 refine st hA246 (op_move rfl (hA246.ev rfl)) rfl rfl (by decide) fun a247 hA248 => ?_; clear hA246 a244
 refine st hA248 (op_neq rfl (hA248.ev rfl) (evc _ _)) rfl rfl (by decide) fun a249 hA250 => ?_; clear hA248 a247
 refine st hA250 (op_move rfl (hA250.ev rfl)) rfl rfl (by decide) fun a251 hA252 => ?_; clear hA250 a249
 refine stg hA252 (op_move rfl (hA252.ev rfl)) rfl rfl rfl rfl (by decide) fun a253 hA254 => ?_; clear hA252 a251
 refine stg hA254 (op_neq rfl (hA254.ev rfl) (evc _ _)) rfl rfl rfl rfl (by decide) fun a255 hA256 => ?_; clear hA254 a253
 refine st hA256 (op_pick_f rfl (hA256.ev rfl) (hA256.ev rfl)) rfl rfl (by decide) fun a257 hA258 => ?_; clear hA256 a255
 refine wl_nil ?_
 refine then_n ?_
 refine c_false hA258 rfl ?_
 refine c_skip ?_
 refine then_n ?_
 refine c_seq ?_
 refine c_seq ?_
 have hA259 := hA258.as [(19, (Value.int .i64 0)), (18, (bptr b238 0)), (16, (Value.bool true)), (14, (Value.bool true))] rfl; clear hA258
 refine c_region ?_
 refine st hA259 (op_move rfl (hA259.ev rfl)) rfl rfl (by decide) fun a260 hA261 => ?_; clear hA259 a257
 refine st hA261 (op_not rfl (hA261.ev rfl)) rfl rfl (by decide) fun a262 hA263 => ?_; clear hA261 a260
 refine wl_nil ?_
 refine then_n ?_
 refine c_false hA263 rfl ?_
 refine c_skip ?_
 refine then_n ?_
 refine c_seq ?_
 refine c_region ?_
 refine st hA263 (op_move rfl (hA263.ev rfl)) rfl rfl (by decide) fun a264 hA265 => ?_; clear hA263 a262
 refine st hA265 (op_eql rfl (hA265.ev rfl) (evc _ _)) rfl rfl (by decide) fun a266 hA267 => ?_; clear hA265 a264
 refine st hA267 (op_move rfl (hA267.ev rfl)) rfl rfl (by decide) fun a268 hA269 => ?_; clear hA267 a266
 refine stg hA269 (op_field rfl fd_46_0 (hA269.ev rfl)) rfl rfl rfl rfl (by decide) fun a270 hA271 => ?_; clear hA269 a268
 refine stg hA271 (op_load1 rfl ty_3 (hA271.ev rfl) (hS243.bk 0 rfl) rfl) rfl rfl rfl rfl (by decide) fun a272 hA273 => ?_; clear hA271 a270
 refine stg hA273 (op_leq rfl (hA273.ev rfl) (evc _ _)) rfl rfl rfl rfl (by decide) fun a274 hA275 => ?_; clear hA273 a272
 have hd276 : a ≤ 0 := (by omega)
 rw [decide_eq_true hd276] at hA275
 refine st hA275 (op_pick_t rfl (hA275.ev rfl) (hA275.ev rfl)) rfl rfl (by decide) fun a277 hA278 => ?_; clear hA275 a274
 refine st hA278 (op_move rfl (hA278.ev rfl)) rfl rfl (by decide) fun a279 hA280 => ?_; clear hA278 a277
 refine stg hA280 (op_field rfl fd_46_1 (hA280.ev rfl)) rfl rfl rfl rfl (by decide) fun a281 hA282 => ?_; clear hA280 a279
 refine stg hA282 (op_load1 rfl ty_3 (hA282.ev rfl) (hS243.bk 0 rfl) rfl) rfl rfl rfl rfl (by decide) fun a283 hA284 => ?_; clear hA282 a281
 refine stg hA284 (op_geq rfl (hA284.ev rfl) (evc _ _)) rfl rfl rfl rfl (by decide) fun a285 hA286 => ?_; clear hA284 a283
 have hd287 : 0 ≤ b := (by omega)
 rw [decide_eq_true hd287] at hA286
 refine st hA286 (op_pick_t rfl (hA286.ev rfl) (hA286.ev rfl)) rfl rfl (by decide) fun a288 hA289 => ?_; clear hA286 a285
 refine st hA289 (op_assign rfl (hA289.ev rfl)) rfl rfl (by decide) fun a290 hA291 => ?_; clear hA289 a288
 refine wl_nil ?_
 refine then_n ?_
 refine c_seq ?_
 have hA292 := hA291.as [(20, (Value.bool true)), (19, (Value.int .i64 0)), (14, (Value.bool true))] rfl; clear hA291
 refine c_region ?_
 refine st hA292 (op_move rfl (hA292.ev rfl)) rfl rfl (by decide) fun a293 hA294 => ?_; clear hA292 a290
 refine st hA294 (op_eql rfl (hA294.ev rfl) (evc _ _)) rfl rfl (by decide) fun a295 hA296 => ?_; clear hA294 a293
 refine st hA296 (op_move rfl (hA296.ev rfl)) rfl rfl (by decide) fun a297 hA298 => ?_; clear hA296 a295
 refine skp hA298 rfl rfl rfl rfl rfl (by decide) fun a299 hA300 => ?_; clear hA298 a297
 refine skp hA300 rfl rfl rfl rfl rfl (by decide) fun a301 hA302 => ?_; clear hA300 a299
 refine st hA302 (op_pick_t rfl (hA302.ev rfl) (evc _ _)) rfl rfl (by decide) fun a303 hA304 => ?_; clear hA302 a301
 refine st hA304 (op_move rfl (hA304.ev rfl)) rfl rfl (by decide) fun a305 hA306 => ?_; clear hA304 a303
 refine stg hA306 (op_move rfl (hA306.ev rfl)) rfl rfl rfl rfl (by decide) fun a307 hA308 => ?_; clear hA306 a305
 refine stg hA308 (op_move rfl (hA308.ev rfl)) rfl rfl rfl rfl (by decide) fun a309 hA310 => ?_; clear hA308 a307
 refine stg hA310 (op_eqlB un_4 rfl (hA310.ev rfl) (hA310.ev rfl)) rfl rfl rfl rfl (by decide) fun a311 hA312 => ?_; clear hA310 a309
 refine st hA312 (op_pick_t rfl (hA312.ev rfl) (hA312.ev rfl)) rfl rfl (by decide) fun a313 hA314 => ?_; clear hA312 a311
 refine st hA314 (op_move rfl (hA314.ev rfl)) rfl rfl (by decide) fun a315 hA316 => ?_; clear hA314 a313
 refine stwg hA316 (op_call rfl en_18 ev0 (wakes_ok _)) rfl rfl rfl rfl (by decide) ?_
 rintro a317 _ w319 ⟨rfl, hE320⟩ hA318; have hS321 := hS243.step hE320; clear hE320 hA316 hS243 a315
 refine st hA318 (op_pick_t rfl (hA318.ev rfl) (hA318.ev rfl)) rfl rfl (by decide) fun a322 hA323 => ?_; clear hA318 a317
 refine st hA323 (op_assign rfl (hA323.ev rfl)) rfl rfl (by decide) fun a324 hA325 => ?_; clear hA323 a322
 refine wl_nil ?_
 refine then_n ?_
 refine c_ret ?_
 refine fin_run hA325 (.inl rfl) (run_results1 hA325 rfl (.tmp rfl)) ?_
 exact ⟨rfl, hS321.ext⟩

theorem RoundAlike_ok (rl rs rb : Value) (rlv : List Value) (d : RD) (w : World) (hR : RoundAt w rl rs rb rlv d) (wv : Value) (ws : List Int) (hws : SlAt w wv 1 ws.length (ws.map (Value.int .u16))) (hww : ∀ x ∈ ws, 0 ≤ x ∧ x ≤ 65535) (n1 : Int) (h1 : 0 ≤ n1 ∧ n1 ≤ 255) (sh : Int) (hsb : -32768 ≤ sh ∧ sh ≤ 32767) : Calls Try.prog 11 #[.agg #[rl, rs, .int .i64 d.spread, rb], wv, .int .u8 n1, .int .i16 sh] w (Ret fun v w' => v = .bool true ∧ Ext NoB w w') := by
 obtain ⟨x, rfl⟩ : ∃ x : Nat, n1 = (x : Int) := ⟨n1.toNat, by omega⟩
 rcases Bool.eq_false_or_eq_true (readyB d) with hf | hf
 ·rcases Nat.eq_zero_or_pos d.tols.length with hn0 | hn0
  ·exact RoundAlike_b rl rs rb rlv d w hR wv ws hws hww x (by omega) sh hsb hf hn0
  ·have hc := (ready_of hf).2
   have hV := valid_of hc
   have htm := tmod_nn (a := (x : Int)) (by omega) (show (0 : Int) < (d.tols.length : Int) by omega)
   obtain ⟨k, hk⟩ : ∃ k : Nat, (x : Int).tmod (d.tols.length : Int) = (k : Int) := ⟨((x : Int).tmod (d.tols.length : Int)).toNat, by omega⟩
   have hkb : k < d.tols.length := by omega
   have hsm := tmod_bd sh 1000 (by decide)
   obtain ⟨lo, hi, hs0, hs1, hs2⟩ := made_shifts hc hww hkb (shift := sh.tmod 1000) (by omega)
   have hin : (decide (0 ≤ (k : Int)) && decide ((k : Int) ≤ (d.tols.length : Int) - 1)) = true := by simp only [Bool.and_eq_true, decide_eq_true_eq]; omega
   rcases Bool.eq_false_or_eq_true (explB d (off0.set k true)) with hx | hx
   ·rcases shiftsR_cases hc hin (by simpa using hx) with ⟨h2, hn⟩ | ⟨a, b, h2, _, _, _, hn⟩
    ·exact RoundAlike_d rl rs rb rlv d w hR wv ws hws hww x (by omega) sh hsb hf hn0 k hk hkb lo hi hs0 hs1 hs2 ((shOk_zero hV (lab := (k : Int))).symm.trans (hn 0 (by omega) (by omega))) hx h2
    ·have e := (shOk_zero hV (lab := (k : Int))).symm.trans (hn 0 (by omega) (by omega))
     by_cases hab : a ≤ 0 ∧ 0 ≤ b
     ·exact RoundAlike_f rl rs rb rlv d w hR wv ws hws hww x (by omega) sh hsb hf hn0 k hk hkb lo hi hs0 hs1 hs2 (e.trans (by simp only [Bool.and_eq_true, decide_eq_true_eq]; exact hab)) hx a b h2 hab.1 hab.2
     ·exact RoundAlike_e rl rs rb rlv d w hR wv ws hws hww x (by omega) sh hsb hf hn0 k hk hkb lo hi hs0 hs1 hs2 (e.trans (by rw [Bool.eq_false_iff]; simp only [ne_eq, Bool.and_eq_true, decide_eq_true_eq]; exact hab)) hx a b h2 hab
   ·exact RoundAlike_c rl rs rb rlv d w hR wv ws hws hww x (by omega) sh hsb hf hn0 k hk hkb lo hi hs0 hs1 hs2 (explB_off0 hV hx) hx (shiftsR_fail hc hin (by simpa using hx))
 ·exact RoundAlike_a rl rs rb rlv d w hR wv ws hws hww x (by omega) sh hsb hf

end Go.Proofs.Ytfhmigoddaaljaa
