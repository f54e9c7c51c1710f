/-
  The ranges of rates: as the program makes them, and as the statement does.
  Lives, as the reference tells them.
  Rates that are some of a material.
  Rates of a list, as an array.
  Lists of rates: which they are; the ends of a stretch.
  Stretches as sums; segments that are cut; what all runs allow.
  Ranges of rates, stretches and lives, as bounds that are reached.
  The rates that are shown for an end of a stretch; lists that are cut.
  Lives and the stretches of plans of one segment; longer and hotter plans.
  Longer and hotter plans; plans in parts.
-/
import Derived.Test.YtkkglkdnnfegkaaBc
set_option linter.unusedSimpArgs false
set_option linter.unusedVariables false
namespace Go.Proofs.Ytkkglkdnnfegkaa
open Go.RowKit Go.Shelf Go.Eng
theorem en_51 : ∀ args w, (callFunc 51 args).run Try.prog w = .ok (.enter 51 args) w := enters_of Try.func51 (by kernel_rfl) rfl
theorem en_52 : ∀ args w, (callFunc 52 args).run Try.prog w = .ok (.enter 52 args) w := enters_of Try.func52 (by kernel_rfl) rfl
theorem en_18 : ∀ args w, (callFunc 18 args).run Try.prog w = .ok (.enter 18 args) w := enters_of Try.func18 (by kernel_rfl) rfl
theorem en_28 : ∀ args w, (callFunc 28 args).run Try.prog w = .ok (.enter 28 args) w := enters_of Try.func28 (by kernel_rfl) rfl
theorem en_23 : ∀ args w, (callFunc 23 args).run Try.prog w = .ok (.enter 23 args) w := enters_of Try.func23 (by kernel_rfl) rfl
theorem life_fine (R : List (Int × Int)) (rs : List RunD) (lv : List Value) (vr vu : Value) (w : World) (hm : SlAt w vr 2 R.length (pairs R)) (hx : RunsAt w vu lv rs) (hlen : R.length ≤ 1000000) (hrl : rs.length ≤ 1000000) (band s : Int) (he : lifeE R rs band s = 0) : Calls Try.prog 23 #[.agg #[vr], vu, .int .i64 band, .int .i64 s] w (Ret fun v w' => v = .tuple #[.agg #[.int .i64 (lifeR (allowedF R rs) band.toNat s).1, .int .i64 (lifeR (allowedF R rs) band.toNat s).2], .int .i64 0] ∧ Ext NoB w w') := by
 have hp : possF R rs = 0 := by
  by_cases h : possF R rs = 0
  ·exact h
  ·rw [life_p h] at he; exact absurd he h
 refine (life_any R rs lv vr vu w hm hx hlen hrl band s hp).mono (Ret.mono fun v w' h => ?_)
 rcases h with ⟨h, _⟩ | ⟨_, h⟩
 ·rw [he] at h; exact absurd h (by decide)
 ·exact h
theorem life_no (R : List (Int × Int)) (rs : List RunD) (lv : List Value) (vr vu : Value) (w : World) (hm : SlAt w vr 2 R.length (pairs R)) (hx : RunsAt w vu lv rs) (hlen : R.length ≤ 1000000) (hrl : rs.length ≤ 1000000) (band s : Int) (he : lifeE R rs band s ≠ 0) : Calls Try.prog 23 #[.agg #[vr], vu, .int .i64 band, .int .i64 s] w (Ret fun v w' => v = .tuple #[.agg #[.int .i64 0, .int .i64 0], .int .i64 (lifeE R rs band s)] ∧ Ext NoB w w') := by
 by_cases hp : possF R rs = 0
 ·refine (life_any R rs lv vr vu w hm hx hlen hrl band s hp).mono (Ret.mono fun v w' h => ?_)
  rcases h with ⟨h1, h⟩ | ⟨h, _⟩
  ·rw [h1]; exact h
  ·exact absurd h he
 ·have := life_bad R rs lv vr vu w hm hx hlen hrl band s hp
  rw [life_p hp]; exact this
set_option maxHeartbeats 4000000 in
theorem awake_ok (w : World) :
  Calls Try.prog 17 #[] w (Ret fun v w' => v = .bool true ∧ Ext NoB w w') := by
 refine calls_enter Try.func17 rfl fun a0 hA0 => ?_
 replace hA0 : Fr 75 [] [] a0 := hA0
 have hS0 : Sep NoB w w [] := Sep.start _ _
 refine c_seq ?_
 refine c_region ?_
 refine st hA0 (op_assign rfl (evc _ _)) rfl rfl (by decide) fun a1 hA2 => ?_; clear hA0 a0
 refine wl_nil ?_
 refine then_n ?_
 refine c_seq ?_
 refine c_region ?_
 refine stw hA2 (op_call rfl en_51 ev0 (hot_ok _)) rfl rfl (by decide) ?_
 rintro a3 _ w5 ⟨u8, rfl, hT6⟩ hA4; have hS7 := hS0.callS hT6 rfl; clear hT6 hA2 hS0 a1
 refine stw hA4 (op_call rfl en_52 ev0 (made_ok _)) rfl rfl (by decide) ?_
 rintro a9 v14 w11 ⟨lv15, hT12⟩ hA10; have hS13 := hS7.callS hT12 rfl; clear hT12 hA4 hS7 a3
 refine stw hA10 (op_call rfl en_18 (ev2 (hA10.ev rfl) (hA10.ev rfl)) (rates_ok hotR madeR lv15 u8 v14 _ (SlAt.of_row (hS13.ok_row 1 rfl)) (runs_at (hS13.ok 0 _ rfl)) (by decide) (by decide) poss_hot)) rfl rfl (by decide) ?_
 rintro a16 _ w18 ⟨u21, rfl, hT19⟩ hA17
 rw [rates_hot] at hT19; rw [many_hot] at hA17
 have hS20 : Sep NoB w w18 [(row u21 42 2 2 (pairs ([(2, 2), (3, 5)]))), (runsR true v14 lv15 madeR), (row u8 42 2 2 (pairs hotR))] := hS13.callS hT19 rfl; clear hT19 hA10 hS13 a9
 refine st hA17 (op_move rfl (hA17.ev rfl)) rfl rfl (by decide) fun a22 hA23 => ?_; clear hA17 a16
 refine st hA23 (op_extract rfl (hA23.ev rfl) rfl) rfl rfl (by decide) fun a24 hA25 => ?_; clear hA23 a22
 refine st hA25 (op_extract rfl (hA25.ev rfl) rfl) rfl rfl (by decide) fun a26 hA27 => ?_; clear hA25 a24
 refine st hA27 (op_extract rfl (hA27.ev rfl) rfl) rfl rfl (by decide) fun a28 hA29 => ?_; clear hA27 a26
 refine st hA29 (op_assign rfl (hA29.ev rfl)) rfl rfl (by decide) fun a30 hA31 => ?_; clear hA29 a28
 refine st hA31 (op_assign rfl (hA31.ev rfl)) rfl rfl (by decide) fun a32 hA33 => ?_; clear hA31 a30
 refine st hA33 (op_assign rfl (hA33.ev rfl)) rfl rfl (by decide) fun a34 hA35 => ?_; clear hA33 a32
 refine wl_nil ?_
 refine then_n ?_
 refine c_seq ?_
 have hA36 := hA35.as [(3, (Value.int .i64 0)), (2, (Value.int .i64 ((3 : Nat) : Int))), (1, u21)] rfl; clear hA35
 refine c_region ?_
 refine stw hA36 (op_call rfl en_51 ev0 (hot_ok _)) rfl rfl (by decide) ?_
 rintro a37 _ w39 ⟨u42, rfl, hT40⟩ hA38; have hS41 := hS20.callS hT40 rfl; clear hT40 hA36 hS20 a34
 refine stw hA38 (op_call rfl en_52 ev0 (made_ok _)) rfl rfl (by decide) ?_
 rintro a43 v48 w45 ⟨lv49, hT46⟩ hA44; have hS47 := hS41.callS hT46 rfl; clear hT46 hA38 hS41 a37
 refine stw hA44 (op_call rfl en_31 (ev2 (evc _ _) (evc _ _)) (between_ok _ _ _)) rfl rfl (by decide) ?_
 rintro a50 _ w52 ⟨rfl, hE53⟩ hA51; have hS54 := hS47.step hE53; clear hE53 hA44 hS47 a43
 refine st hA51 (op_build rfl (pv2 (evc _ _) (hA51.ev rfl)) (bd_67_0i_1iia _ _ _)) rfl rfl (by decide) fun a55 hA56 => ?_; clear hA51 a50
 refine stw hA56 (op_call rfl en_31 (ev2 (evc _ _) (evc _ _)) (between_ok _ _ _)) rfl rfl (by decide) ?_
 rintro a57 _ w59 ⟨rfl, hE60⟩ hA58; have hS61 := hS54.step hE60; clear hE60 hA56 hS54 a55
 refine st hA58 (op_build rfl (pv2 (evc _ _) (hA58.ev rfl)) (bd_67_0i_1iia _ _ _)) rfl rfl (by decide) fun a62 hA63 => ?_; clear hA58 a57
 refine stw hA63 (op_buildSlice hS61 rfl (pv2 (hA63.ev rfl) (hA63.ev rfl)) un_58 ty_67 ze_67 (by decide) (cs := [(Value.int .i64 0), (Value.int .i64 1000), (Value.int .i64 1000), (Value.int .i64 1), (Value.int .i64 10), (Value.int .i64 20)]) (bs_67_2_0iiia_1iiia _ _ _ _ _ _)) rfl rfl (by decide) ?_
 rintro a64 _ w66 ⟨b67, rfl, hS68⟩ hA65; clear hA63 hS61 a62
 refine stw hA65 (op_call rfl en_28 (ev3 (hA65.ev rfl) (hA65.ev rfl) (hA65.ev rfl)) (stretch_fine hotR madeR lv49 u42 v48 _ (SlAt.of_row (hS68.ok_row 2 rfl)) (runs_at (hS68.ok 1 _ rfl)) (by decide) (by decide) hotP (Value.slice (some ⟨b67, 0, none⟩) 2 2) (SlAt.of_blk (hS68.bk 0 rfl) rfl (Nat.le_of_ble_eq_true rfl)) (by decide) plan_hot)) rfl rfl (by decide) ?_
 rintro a69 _ w71 ⟨rfl, hE72⟩ hA70; have hS73 := hS68.step hE72; clear hE72 hA65 hS68 a64
 refine st hA70 (op_move rfl (hA70.ev rfl)) rfl rfl (by decide) fun a74 hA75 => ?_; clear hA70 a69
 refine st hA75 (op_extract rfl (hA75.ev rfl) rfl) rfl rfl (by decide) fun a76 hA77 => ?_; clear hA75 a74
 refine st hA77 (op_extract rfl (hA77.ev rfl) rfl) rfl rfl (by decide) fun a78 hA79 => ?_; clear hA77 a76
 refine stw hA79 (op_alloc hS73 rfl ze_42 (cs := [(Value.int .i64 0), (Value.int .i64 0)]) rfl) rfl rfl (by decide) ?_
 rintro a80 _ w82 ⟨b83, rfl, hS84⟩ hA81; clear hA79 hS73 a78
 refine sts hA81 (op_store hS84 rfl ty_42 (hA81.ev rfl) (hA81.ev rfl) (i := 0) rfl (vs := [(Value.int .i64 (stLo hotP (leastR hotR madeR hotP))), (Value.int .i64 (stHi hotP (mostR hotR madeR hotP)))]) rfl rfl rfl (Nat.le_of_ble_eq_true rfl)) rfl rfl ?_
 intro _ w85 hS86 hA87; clear hA81
 have hS88 : Sep NoB w w85 [(blk b83 42 [(Value.int .i64 (stLo hotP (leastR hotR madeR hotP))), (Value.int .i64 (stHi hotP (mostR hotR madeR hotP)))]), (blk b67 67 [(Value.int .i64 0), (Value.int .i64 1000), (Value.int .i64 1000), (Value.int .i64 1), (Value.int .i64 10), (Value.int .i64 20)]), (runsR true v48 lv49 madeR), (row u42 42 2 2 (pairs hotR)), (row u21 42 2 2 (pairs ([(2, 2), (3, 5)]))), (runsR true v14 lv15 madeR), (row u8 42 2 2 (pairs hotR))] := hS86; clear hS86 hS84
 refine st hA87 (op_assign rfl (hA87.ev rfl)) rfl rfl (by decide) fun a89 hA90 => ?_; clear hA87 a80
 refine wl_nil ?_
 refine then_n ?_
 refine c_seq ?_
 have hA91 := hA90.as [(5, (Value.int .i64 0)), (4, (bptr b83 0)), (3, (Value.int .i64 0)), (2, (Value.int .i64 ((3 : Nat) : Int))), (1, u21)] rfl; clear hA90
 refine c_region ?_
 refine stw hA91 (op_call rfl en_51 ev0 (hot_ok _)) rfl rfl (by decide) ?_
 rintro a92 _ w94 ⟨u97, rfl, hT95⟩ hA93; have hS96 := hS88.callS hT95 rfl; clear hT95 hA91 hS88 a89
 refine stw hA93 (op_call rfl en_52 ev0 (made_ok _)) rfl rfl (by decide) ?_
 rintro a98 v103 w100 ⟨lv104, hT101⟩ hA99; have hS102 := hS96.callS hT101 rfl; clear hT101 hA93 hS96 a92
 refine stw hA99 (op_call rfl en_23 (ev4 (hA99.ev rfl) (hA99.ev rfl) (evc _ _) (evc _ _)) (life_fine hotR madeR lv104 u97 v103 _ (SlAt.of_row (hS102.ok_row 1 rfl)) (runs_at (hS102.ok 0 _ rfl)) (by decide) (by decide) 1 1000 life_hot)) rfl rfl (by decide) ?_
 rintro a105 _ w107 ⟨rfl, hE108⟩ hA106; have hS109 := hS102.step hE108; clear hE108 hA99 hS102 a98
 refine st hA106 (op_move rfl (hA106.ev rfl)) rfl rfl (by decide) fun a110 hA111 => ?_; clear hA106 a105
 refine st hA111 (op_extract rfl (hA111.ev rfl) rfl) rfl rfl (by decide) fun a112 hA113 => ?_; clear hA111 a110
 refine st hA113 (op_extract rfl (hA113.ev rfl) rfl) rfl rfl (by decide) fun a114 hA115 => ?_; clear hA113 a112
 refine stw hA115 (op_alloc hS109 rfl ze_42 (cs := [(Value.int .i64 0), (Value.int .i64 0)]) rfl) rfl rfl (by decide) ?_
 rintro a116 _ w118 ⟨b119, rfl, hS120⟩ hA117; clear hA115 hS109 a114
 refine sts hA117 (op_store hS120 rfl ty_42 (hA117.ev rfl) (hA117.ev rfl) (i := 0) rfl (vs := [(Value.int .i64 ((lifeR (allowedF hotR madeR) (1 : Int).toNat 1000).1)), (Value.int .i64 ((lifeR (allowedF hotR madeR) (1 : Int).toNat 1000).2))]) rfl rfl rfl (Nat.le_of_ble_eq_true rfl)) rfl rfl ?_
 intro _ w121 hS122 hA123; clear hA117
 have hS124 : Sep NoB w w121 [(blk b119 42 [(Value.int .i64 ((lifeR (allowedF hotR madeR) (1 : Int).toNat 1000).1)), (Value.int .i64 ((lifeR (allowedF hotR madeR) (1 : Int).toNat 1000).2))]), (runsR true v103 lv104 madeR), (row u97 42 2 2 (pairs hotR)), (blk b83 42 [(Value.int .i64 (stLo hotP (leastR hotR madeR hotP))), (Value.int .i64 (stHi hotP (mostR hotR madeR hotP)))]), (blk b67 67 [(Value.int .i64 0), (Value.int .i64 1000), (Value.int .i64 1000), (Value.int .i64 1), (Value.int .i64 10), (Value.int .i64 20)]), (runsR true v48 lv49 madeR), (row u42 42 2 2 (pairs hotR)), (row u21 42 2 2 (pairs ([(2, 2), (3, 5)]))), (runsR true v14 lv15 madeR), (row u8 42 2 2 (pairs hotR))] := hS122; clear hS122 hS120
 refine st hA123 (op_assign rfl (hA123.ev rfl)) rfl rfl (by decide) fun a125 hA126 => ?_; clear hA123 a116
 refine wl_nil ?_
 refine then_n ?_
 refine c_seq ?_
 have hA127 := hA126.as [(7, (Value.int .i64 0)), (6, (bptr b119 0)), (5, (Value.int .i64 0)), (4, (bptr b83 0)), (3, (Value.int .i64 0)), (2, (Value.int .i64 ((3 : Nat) : Int))), (1, u21)] rfl; clear hA126
 have hA128 := hA127.as [(7, (Value.int .i64 0)), (6, (bptr b119 0)), (5, (Value.int .i64 0)), (4, (bptr b83 0)), (3, (Value.int .i64 0)), (2, (Value.int .i64 ((3 : Nat) : Int))), (1, u21)] rfl; clear hA127
 refine c_drawV mixed hA128 hS124 41 [[], [0], [1], [2], [2, 3], [2, 4], [5], [6], [6, 7], [6, 8], [6, 9], [10], [11], [11, 12], [11, 13], [11], [11, 14, 15], [11, 16], [17], [18], [18, 19], [18, 20], [18], [18, 21, 22], [18, 23], [24], [25], [25, 26], [25, 27], [28], [29], [29], [29, 30, 31], [29, 32], [33], [34], [34, 35], [34, 36], [37], [38], [38]] [(fun (vs129 : Nat → Value) (v_ : Value) (rs_ : List Res) => v_ = (Value.int .i64 0) ∧ rs_ = []), (fun (vs129 : Nat → Value) (v_ : Value) (rs_ : List Res) => v_ = (Value.bool true) ∧ rs_ = []), (fun (vs129 : Nat → Value) (v_ : Value) (rs_ : List Res) => v_ = (Value.bool true) ∧ rs_ = []), (fun (vs129 : Nat → Value) (v_ : Value) (rs_ : List Res) => v_ = (Value.int .i64 ((3 : Nat) : Int)) ∧ rs_ = []), (fun (vs129 : Nat → Value) (v_ : Value) (rs_ : List Res) => v_ = (Value.bool true) ∧ rs_ = []), (fun (vs129 : Nat → Value) (v_ : Value) (rs_ : List Res) => v_ = (Value.bool true) ∧ rs_ = []), (fun (vs129 : Nat → Value) (v_ : Value) (rs_ : List Res) => v_ = (Value.bool true) ∧ rs_ = []), (fun (vs129 : Nat → Value) (v_ : Value) (rs_ : List Res) => v_ = u21 ∧ rs_ = []), (fun (vs129 : Nat → Value) (v_ : Value) (rs_ : List Res) => v_ = (Value.int .i64 ((2 : Nat) : Int)) ∧ rs_ = []), (fun (vs129 : Nat → Value) (v_ : Value) (rs_ : List Res) => v_ = (Value.bool true) ∧ rs_ = []), (fun (vs129 : Nat → Value) (v_ : Value) (rs_ : List Res) => v_ = (Value.bool true) ∧ rs_ = []), (fun (vs129 : Nat → Value) (v_ : Value) (rs_ : List Res) => v_ = (Value.bool true) ∧ rs_ = []), (fun (vs129 : Nat → Value) (v_ : Value) (rs_ : List Res) => v_ = u21 ∧ rs_ = []), (fun (vs129 : Nat → Value) (v_ : Value) (rs_ : List Res) => v_ = (eptr u21 (0 * 2)) ∧ rs_ = []), (fun (vs129 : Nat → Value) (v_ : Value) (rs_ : List Res) => v_ = (Value.agg #[(Value.int .i64 ((([(2, 2), (3, 5)]).getD 0 (0, 0)).1)), (Value.int .i64 ((([(2, 2), (3, 5)]).getD 0 (0, 0)).2))]) ∧ rs_ = []), (fun (vs129 : Nat → Value) (v_ : Value) (rs_ : List Res) => v_ = (Value.agg #[(Value.int .i64 2), (Value.int .i64 2)]) ∧ rs_ = []), (fun (vs129 : Nat → Value) (v_ : Value) (rs_ : List Res) => v_ = (Value.bool true) ∧ rs_ = []), (fun (vs129 : Nat → Value) (v_ : Value) (rs_ : List Res) => v_ = (Value.bool true) ∧ rs_ = []), (fun (vs129 : Nat → Value) (v_ : Value) (rs_ : List Res) => v_ = (Value.bool true) ∧ rs_ = []), (fun (vs129 : Nat → Value) (v_ : Value) (rs_ : List Res) => v_ = u21 ∧ rs_ = []), (fun (vs129 : Nat → Value) (v_ : Value) (rs_ : List Res) => v_ = (eptr u21 (1 * 2)) ∧ rs_ = []), (fun (vs129 : Nat → Value) (v_ : Value) (rs_ : List Res) => v_ = (Value.agg #[(Value.int .i64 ((([(2, 2), (3, 5)]).getD 1 (0, 0)).1)), (Value.int .i64 ((([(2, 2), (3, 5)]).getD 1 (0, 0)).2))]) ∧ rs_ = []), (fun (vs129 : Nat → Value) (v_ : Value) (rs_ : List Res) => v_ = (Value.agg #[(Value.int .i64 3), (Value.int .i64 5)]) ∧ rs_ = []), (fun (vs129 : Nat → Value) (v_ : Value) (rs_ : List Res) => v_ = (Value.bool true) ∧ rs_ = []), (fun (vs129 : Nat → Value) (v_ : Value) (rs_ : List Res) => v_ = (Value.bool true) ∧ rs_ = []), (fun (vs129 : Nat → Value) (v_ : Value) (rs_ : List Res) => v_ = (Value.bool true) ∧ rs_ = []), (fun (vs129 : Nat → Value) (v_ : Value) (rs_ : List Res) => v_ = (Value.int .i64 0) ∧ rs_ = []), (fun (vs129 : Nat → Value) (v_ : Value) (rs_ : List Res) => v_ = (Value.bool true) ∧ rs_ = []), (fun (vs129 : Nat → Value) (v_ : Value) (rs_ : List Res) => v_ = (Value.bool true) ∧ rs_ = []), (fun (vs129 : Nat → Value) (v_ : Value) (rs_ : List Res) => v_ = (Value.bool true) ∧ rs_ = []), (fun (vs129 : Nat → Value) (v_ : Value) (rs_ : List Res) => v_ = (Value.agg #[(Value.int .i64 (stLo hotP (leastR hotR madeR hotP))), (Value.int .i64 (stHi hotP (mostR hotR madeR hotP)))]) ∧ rs_ = []), (fun (vs129 : Nat → Value) (v_ : Value) (rs_ : List Res) => v_ = (Value.agg #[(Value.int .i64 2030), (Value.int .i64 2100)]) ∧ rs_ = []), (fun (vs129 : Nat → Value) (v_ : Value) (rs_ : List Res) => v_ = (Value.bool true) ∧ rs_ = []), (fun (vs129 : Nat → Value) (v_ : Value) (rs_ : List Res) => v_ = (Value.bool true) ∧ rs_ = []), (fun (vs129 : Nat → Value) (v_ : Value) (rs_ : List Res) => v_ = (Value.bool true) ∧ rs_ = []), (fun (vs129 : Nat → Value) (v_ : Value) (rs_ : List Res) => v_ = (Value.int .i64 0) ∧ rs_ = []), (fun (vs129 : Nat → Value) (v_ : Value) (rs_ : List Res) => v_ = (Value.bool true) ∧ rs_ = []), (fun (vs129 : Nat → Value) (v_ : Value) (rs_ : List Res) => v_ = (Value.bool true) ∧ rs_ = []), (fun (vs129 : Nat → Value) (v_ : Value) (rs_ : List Res) => v_ = (Value.bool true) ∧ rs_ = []), (fun (vs129 : Nat → Value) (v_ : Value) (rs_ : List Res) => v_ = (Value.agg #[(Value.int .i64 ((lifeR (allowedF hotR madeR) (1 : Int).toNat 1000).1)), (Value.int .i64 ((lifeR (allowedF hotR madeR) (1 : Int).toNat 1000).2))]) ∧ rs_ = []), (fun (vs129 : Nat → Value) (v_ : Value) (rs_ : List Res) => v_ = (Value.agg #[(Value.int .i64 200), (Value.int .i64 334)]) ∧ rs_ = [])] (by decide +kernel) (by decide +kernel) rfl rfl ⟨(fun _ _ _ _ _ h_ => h_), (fun _ _ _ _ _ h_ => h_), (fun _ _ _ _ _ h_ => h_), (fun _ _ _ _ _ h_ => h_), (fun _ _ _ _ _ h_ => h_), (fun _ _ _ _ _ h_ => h_), (fun _ _ _ _ _ h_ => h_), (fun _ _ _ _ _ h_ => h_), (fun _ _ _ _ _ h_ => h_), (fun _ _ _ _ _ h_ => h_), (fun _ _ _ _ _ h_ => h_), (fun _ _ _ _ _ h_ => h_), (fun _ _ _ _ _ h_ => h_), (fun _ _ _ _ _ h_ => h_), (fun _ _ _ _ _ h_ => h_), (fun _ _ _ _ _ h_ => h_), (fun _ _ _ _ _ h_ => h_), (fun _ _ _ _ _ h_ => h_), (fun _ _ _ _ _ h_ => h_), (fun _ _ _ _ _ h_ => h_), (fun _ _ _ _ _ h_ => h_), (fun _ _ _ _ _ h_ => h_), (fun _ _ _ _ _ h_ => h_), (fun _ _ _ _ _ h_ => h_), (fun _ _ _ _ _ h_ => h_), (fun _ _ _ _ _ h_ => h_), (fun _ _ _ _ _ h_ => h_), (fun _ _ _ _ _ h_ => h_), (fun _ _ _ _ _ h_ => h_), (fun _ _ _ _ _ h_ => h_), (fun _ _ _ _ _ h_ => h_), (fun _ _ _ _ _ h_ => h_), (fun _ _ _ _ _ h_ => h_), (fun _ _ _ _ _ h_ => h_), (fun _ _ _ _ _ h_ => h_), (fun _ _ _ _ _ h_ => h_), (fun _ _ _ _ _ h_ => h_), (fun _ _ _ _ _ h_ => h_), (fun _ _ _ _ _ h_ => h_), (fun _ _ _ _ _ h_ => h_), (fun _ _ _ _ _ h_ => h_), trivial⟩ ?_ ?_
 ·skip
  refine ⟨fun a w vs129 hA hS hd => ?_, ?_⟩
  ·skip
   exact opG_of rfl (vv (op_move rfl (hA.ev rfl)) (And.intro rfl rfl))
  refine ⟨fun a w vs129 hA hS hd => ?_, ?_⟩
  ·skip
   obtain ⟨e0, rs0, hy0, hp0⟩ := hd 0 (by decide)
   obtain ⟨hv0, hr0⟩ := hy0; subst hr0
   rw [hv0] at e0
   exact opG_of rfl (vv (op_eql rfl (tmp_ev (slot_ev e0 rfl)) (evc _ _)) (And.intro rfl rfl))
  refine ⟨fun a w vs129 hA hS hd => ?_, ?_⟩
  ·skip
   obtain ⟨e1, rs1, hy1, hp1⟩ := hd 1 (by decide)
   obtain ⟨hv1, hr1⟩ := hy1; subst hr1
   rw [hv1] at e1
   exact opG_of rfl (vv (op_move rfl (tmp_ev (slot_ev e1 rfl))) (And.intro rfl rfl))
  refine ⟨fun a w vs129 hA hS hd => ?_, ?_⟩
  ·skip
   obtain ⟨e2, rs2, hy2, hp2⟩ := hd 2 (by decide)
   obtain ⟨hv2, hr2⟩ := hy2; subst hr2
   rw [hv2] at e2
   exact opG_yes rfl rfl (slot_ev e2 rfl) (vv (op_move rfl (hA.ev rfl)) (And.intro rfl rfl))
  refine ⟨fun a w vs129 hA hS hd => ?_, ?_⟩
  ·skip
   obtain ⟨e2, rs2, hy2, hp2⟩ := hd 2 (by decide)
   obtain ⟨hv2, hr2⟩ := hy2; subst hr2
   rw [hv2] at e2
   obtain ⟨e3, rs3, hy3, hp3⟩ := hd 3 (by decide)
   obtain ⟨hv3, hr3⟩ := hy3; subst hr3
   rw [hv3] at e3
   exact opG_yes rfl rfl (slot_ev e2 rfl) (vv (op_eql rfl (tmp_ev (slot_ev e3 rfl)) (evc _ _)) (And.intro (by show Value.bool _ = _; simp only [decide_eq_true (show ((3 : Nat) : Int) = 3 from (by decide)), decide_true, decide_false, Bool.not_true, Bool.not_false]) rfl))
  refine ⟨fun a w vs129 hA hS hd => ?_, ?_⟩
  ·skip
   obtain ⟨e2, rs2, hy2, hp2⟩ := hd 2 (by decide)
   obtain ⟨hv2, hr2⟩ := hy2; subst hr2
   rw [hv2] at e2
   obtain ⟨e4, rs4, hy4, hp4⟩ := hd 4 (by decide)
   obtain ⟨hv4, hr4⟩ := hy4; subst hr4
   rw [hv4] at e4
   exact opG_of rfl (vv (op_pick_t rfl (tmp_ev (slot_ev e2 rfl)) (tmp_ev (slot_ev e4 rfl))) (And.intro rfl rfl))
  refine ⟨fun a w vs129 hA hS hd => ?_, ?_⟩
  ·skip
   obtain ⟨e5, rs5, hy5, hp5⟩ := hd 5 (by decide)
   obtain ⟨hv5, hr5⟩ := hy5; subst hr5
   rw [hv5] at e5
   exact opG_of rfl (vv (op_move rfl (tmp_ev (slot_ev e5 rfl))) (And.intro rfl rfl))
  refine ⟨fun a w vs129 hA hS hd => ?_, ?_⟩
  ·skip
   obtain ⟨e6, rs6, hy6, hp6⟩ := hd 6 (by decide)
   obtain ⟨hv6, hr6⟩ := hy6; subst hr6
   rw [hv6] at e6
   exact opG_yes rfl rfl (slot_ev e6 rfl) (vv (op_move rfl (hA.ev rfl)) (And.intro rfl rfl))
  refine ⟨fun a w vs129 hA hS hd => ?_, ?_⟩
  ·skip
   obtain ⟨e6, rs6, hy6, hp6⟩ := hd 6 (by decide)
   obtain ⟨hv6, hr6⟩ := hy6; subst hr6
   rw [hv6] at e6
   obtain ⟨e7, rs7, hy7, hp7⟩ := hd 7 (by decide)
   obtain ⟨hv7, hr7⟩ := hy7; subst hr7
   rw [hv7] at e7
   exact opG_yes rfl rfl (slot_ev e6 rfl) (vv (op_lenS rfl un_28 (tmp_ev (slot_ev e7 rfl)) (SlAt.of_row (hS.ok_row 7 rfl))) (And.intro rfl rfl))
  refine ⟨fun a w vs129 hA hS hd => ?_, ?_⟩
  ·skip
   obtain ⟨e6, rs6, hy6, hp6⟩ := hd 6 (by decide)
   obtain ⟨hv6, hr6⟩ := hy6; subst hr6
   rw [hv6] at e6
   obtain ⟨e8, rs8, hy8, hp8⟩ := hd 8 (by decide)
   obtain ⟨hv8, hr8⟩ := hy8; subst hr8
   rw [hv8] at e8
   exact opG_yes rfl rfl (slot_ev e6 rfl) (vv (op_eql rfl (tmp_ev (slot_ev e8 rfl)) (evc _ _)) (And.intro (by show Value.bool _ = _; simp only [decide_eq_true (show ((2 : Nat) : Int) = 2 from (by decide)), decide_true, decide_false, Bool.not_true, Bool.not_false]) rfl))
  refine ⟨fun a w vs129 hA hS hd => ?_, ?_⟩
  ·skip
   obtain ⟨e6, rs6, hy6, hp6⟩ := hd 6 (by decide)
   obtain ⟨hv6, hr6⟩ := hy6; subst hr6
   rw [hv6] at e6
   obtain ⟨e9, rs9, hy9, hp9⟩ := hd 9 (by decide)
   obtain ⟨hv9, hr9⟩ := hy9; subst hr9
   rw [hv9] at e9
   exact opG_of rfl (vv (op_pick_t rfl (tmp_ev (slot_ev e6 rfl)) (tmp_ev (slot_ev e9 rfl))) (And.intro rfl rfl))
  refine ⟨fun a w vs129 hA hS hd => ?_, ?_⟩
  ·skip
   obtain ⟨e10, rs10, hy10, hp10⟩ := hd 10 (by decide)
   obtain ⟨hv10, hr10⟩ := hy10; subst hr10
   rw [hv10] at e10
   exact opG_of rfl (vv (op_move rfl (tmp_ev (slot_ev e10 rfl))) (And.intro rfl rfl))
  refine ⟨fun a w vs129 hA hS hd => ?_, ?_⟩
  ·skip
   obtain ⟨e11, rs11, hy11, hp11⟩ := hd 11 (by decide)
   obtain ⟨hv11, hr11⟩ := hy11; subst hr11
   rw [hv11] at e11
   exact opG_yes rfl rfl (slot_ev e11 rfl) (vv (op_move rfl (hA.ev rfl)) (And.intro rfl rfl))
  refine ⟨fun a w vs129 hA hS hd => ?_, ?_⟩
  ·skip
   obtain ⟨e11, rs11, hy11, hp11⟩ := hd 11 (by decide)
   obtain ⟨hv11, hr11⟩ := hy11; subst hr11
   rw [hv11] at e11
   obtain ⟨e12, rs12, hy12, hp12⟩ := hd 12 (by decide)
   obtain ⟨hv12, hr12⟩ := hy12; subst hr12
   rw [hv12] at e12
   exact opG_yes rfl rfl (slot_ev e11 rfl) (vv (op_indexS rfl un_28 ty_42 (tmp_ev (slot_ev e12 rfl)) (i := 0) (show _ = Value.int .i64 ((0 : Nat) : Int) from (evc _ _)) (SlAt.of_row (hS.ok_row 7 rfl)) (by decide) (by decide)) (And.intro rfl rfl))
  refine ⟨fun a w vs129 hA hS hd => ?_, ?_⟩
  ·skip
   obtain ⟨e11, rs11, hy11, hp11⟩ := hd 11 (by decide)
   obtain ⟨hv11, hr11⟩ := hy11; subst hr11
   rw [hv11] at e11
   obtain ⟨e13, rs13, hy13, hp13⟩ := hd 13 (by decide)
   obtain ⟨hv13, hr13⟩ := hy13; subst hr13
   rw [hv13] at e13
   exact opG_yes rfl rfl (slot_ev e11 rfl) (vv (op_loadAE rfl ty_42 (tmp_ev (slot_ev e13 rfl)) (SlAt.of_row (hS.ok_row 7 rfl)) (pairs_all (by decide)) rfl (by decide)) (And.intro rfl rfl))
  refine ⟨fun a w vs129 hA hS hd => ?_, ?_⟩
  ·skip
   obtain ⟨e11, rs11, hy11, hp11⟩ := hd 11 (by decide)
   obtain ⟨hv11, hr11⟩ := hy11; subst hr11
   rw [hv11] at e11
   exact opG_yes rfl rfl (slot_ev e11 rfl) (vx (op_call rfl en_31 (ev2 (evc _ _) (evc _ _)) (between_ok _ _ _)) (And.intro rfl rfl))
  refine ⟨fun a w vs129 hA hS hd => ?_, ?_⟩
  ·skip
   obtain ⟨e11, rs11, hy11, hp11⟩ := hd 11 (by decide)
   obtain ⟨hv11, hr11⟩ := hy11; subst hr11
   rw [hv11] at e11
   obtain ⟨e14, rs14, hy14, hp14⟩ := hd 14 (by decide)
   obtain ⟨hv14, hr14⟩ := hy14; subst hr14
   rw [hv14] at e14
   obtain ⟨e15, rs15, hy15, hp15⟩ := hd 15 (by decide)
   obtain ⟨hv15, hr15⟩ := hy15; subst hr15
   rw [hv15] at e15
   exact opG_yes rfl rfl (slot_ev e11 rfl) (vv (op_eqlP tw_42 rfl (tmp_ev (slot_ev e14 rfl)) (tmp_ev (slot_ev e15 rfl))) (And.intro (by show Value.bool _ = _; simp only [(show (decide ((((([(2, 2), (3, 5)]).getD 0 (0, 0)).1) : Int) = 2) && decide ((((([(2, 2), (3, 5)]).getD 0 (0, 0)).2) : Int) = 2)) = true from (by first | decide | (rw [low_hot, high_hot]; decide) | (rw [life_hot1, life_hot2]; decide))), decide_true, decide_false, Bool.not_true, Bool.not_false]) rfl))
  refine ⟨fun a w vs129 hA hS hd => ?_, ?_⟩
  ·skip
   obtain ⟨e11, rs11, hy11, hp11⟩ := hd 11 (by decide)
   obtain ⟨hv11, hr11⟩ := hy11; subst hr11
   rw [hv11] at e11
   obtain ⟨e16, rs16, hy16, hp16⟩ := hd 16 (by decide)
   obtain ⟨hv16, hr16⟩ := hy16; subst hr16
   rw [hv16] at e16
   exact opG_of rfl (vv (op_pick_t rfl (tmp_ev (slot_ev e11 rfl)) (tmp_ev (slot_ev e16 rfl))) (And.intro rfl rfl))
  refine ⟨fun a w vs129 hA hS hd => ?_, ?_⟩
  ·skip
   obtain ⟨e17, rs17, hy17, hp17⟩ := hd 17 (by decide)
   obtain ⟨hv17, hr17⟩ := hy17; subst hr17
   rw [hv17] at e17
   exact opG_of rfl (vv (op_move rfl (tmp_ev (slot_ev e17 rfl))) (And.intro rfl rfl))
  refine ⟨fun a w vs129 hA hS hd => ?_, ?_⟩
  ·skip
   obtain ⟨e18, rs18, hy18, hp18⟩ := hd 18 (by decide)
   obtain ⟨hv18, hr18⟩ := hy18; subst hr18
   rw [hv18] at e18
   exact opG_yes rfl rfl (slot_ev e18 rfl) (vv (op_move rfl (hA.ev rfl)) (And.intro rfl rfl))
  refine ⟨fun a w vs129 hA hS hd => ?_, ?_⟩
  ·skip
   obtain ⟨e18, rs18, hy18, hp18⟩ := hd 18 (by decide)
   obtain ⟨hv18, hr18⟩ := hy18; subst hr18
   rw [hv18] at e18
   obtain ⟨e19, rs19, hy19, hp19⟩ := hd 19 (by decide)
   obtain ⟨hv19, hr19⟩ := hy19; subst hr19
   rw [hv19] at e19
   exact opG_yes rfl rfl (slot_ev e18 rfl) (vv (op_indexS rfl un_28 ty_42 (tmp_ev (slot_ev e19 rfl)) (i := 1) (show _ = Value.int .i64 ((1 : Nat) : Int) from (evc _ _)) (SlAt.of_row (hS.ok_row 7 rfl)) (by decide) (by decide)) (And.intro rfl rfl))
  refine ⟨fun a w vs129 hA hS hd => ?_, ?_⟩
  ·skip
   obtain ⟨e18, rs18, hy18, hp18⟩ := hd 18 (by decide)
   obtain ⟨hv18, hr18⟩ := hy18; subst hr18
   rw [hv18] at e18
   obtain ⟨e20, rs20, hy20, hp20⟩ := hd 20 (by decide)
   obtain ⟨hv20, hr20⟩ := hy20; subst hr20
   rw [hv20] at e20
   exact opG_yes rfl rfl (slot_ev e18 rfl) (vv (op_loadAE rfl ty_42 (tmp_ev (slot_ev e20 rfl)) (SlAt.of_row (hS.ok_row 7 rfl)) (pairs_all (by decide)) rfl (by decide)) (And.intro rfl rfl))
  refine ⟨fun a w vs129 hA hS hd => ?_, ?_⟩
  ·skip
   obtain ⟨e18, rs18, hy18, hp18⟩ := hd 18 (by decide)
   obtain ⟨hv18, hr18⟩ := hy18; subst hr18
   rw [hv18] at e18
   exact opG_yes rfl rfl (slot_ev e18 rfl) (vx (op_call rfl en_31 (ev2 (evc _ _) (evc _ _)) (between_ok _ _ _)) (And.intro rfl rfl))
  refine ⟨fun a w vs129 hA hS hd => ?_, ?_⟩
  ·skip
   obtain ⟨e18, rs18, hy18, hp18⟩ := hd 18 (by decide)
   obtain ⟨hv18, hr18⟩ := hy18; subst hr18
   rw [hv18] at e18
   obtain ⟨e21, rs21, hy21, hp21⟩ := hd 21 (by decide)
   obtain ⟨hv21, hr21⟩ := hy21; subst hr21
   rw [hv21] at e21
   obtain ⟨e22, rs22, hy22, hp22⟩ := hd 22 (by decide)
   obtain ⟨hv22, hr22⟩ := hy22; subst hr22
   rw [hv22] at e22
   exact opG_yes rfl rfl (slot_ev e18 rfl) (vv (op_eqlP tw_42 rfl (tmp_ev (slot_ev e21 rfl)) (tmp_ev (slot_ev e22 rfl))) (And.intro (by show Value.bool _ = _; simp only [(show (decide ((((([(2, 2), (3, 5)]).getD 1 (0, 0)).1) : Int) = 3) && decide ((((([(2, 2), (3, 5)]).getD 1 (0, 0)).2) : Int) = 5)) = true from (by first | decide | (rw [low_hot, high_hot]; decide) | (rw [life_hot1, life_hot2]; decide))), decide_true, decide_false, Bool.not_true, Bool.not_false]) rfl))
  refine ⟨fun a w vs129 hA hS hd => ?_, ?_⟩
  ·skip
   obtain ⟨e18, rs18, hy18, hp18⟩ := hd 18 (by decide)
   obtain ⟨hv18, hr18⟩ := hy18; subst hr18
   rw [hv18] at e18
   obtain ⟨e23, rs23, hy23, hp23⟩ := hd 23 (by decide)
   obtain ⟨hv23, hr23⟩ := hy23; subst hr23
   rw [hv23] at e23
   exact opG_of rfl (vv (op_pick_t rfl (tmp_ev (slot_ev e18 rfl)) (tmp_ev (slot_ev e23 rfl))) (And.intro rfl rfl))
  refine ⟨fun a w vs129 hA hS hd => ?_, ?_⟩
  ·skip
   obtain ⟨e24, rs24, hy24, hp24⟩ := hd 24 (by decide)
   obtain ⟨hv24, hr24⟩ := hy24; subst hr24
   rw [hv24] at e24
   exact opG_of rfl (vv (op_move rfl (tmp_ev (slot_ev e24 rfl))) (And.intro rfl rfl))
  refine ⟨fun a w vs129 hA hS hd => ?_, ?_⟩
  ·skip
   obtain ⟨e25, rs25, hy25, hp25⟩ := hd 25 (by decide)
   obtain ⟨hv25, hr25⟩ := hy25; subst hr25
   rw [hv25] at e25
   exact opG_yes rfl rfl (slot_ev e25 rfl) (vv (op_move rfl (hA.ev rfl)) (And.intro rfl rfl))
  refine ⟨fun a w vs129 hA hS hd => ?_, ?_⟩
  ·skip
   obtain ⟨e25, rs25, hy25, hp25⟩ := hd 25 (by decide)
   obtain ⟨hv25, hr25⟩ := hy25; subst hr25
   rw [hv25] at e25
   obtain ⟨e26, rs26, hy26, hp26⟩ := hd 26 (by decide)
   obtain ⟨hv26, hr26⟩ := hy26; subst hr26
   rw [hv26] at e26
   exact opG_yes rfl rfl (slot_ev e25 rfl) (vv (op_eql rfl (tmp_ev (slot_ev e26 rfl)) (evc _ _)) (And.intro rfl rfl))
  refine ⟨fun a w vs129 hA hS hd => ?_, ?_⟩
  ·skip
   obtain ⟨e25, rs25, hy25, hp25⟩ := hd 25 (by decide)
   obtain ⟨hv25, hr25⟩ := hy25; subst hr25
   rw [hv25] at e25
   obtain ⟨e27, rs27, hy27, hp27⟩ := hd 27 (by decide)
   obtain ⟨hv27, hr27⟩ := hy27; subst hr27
   rw [hv27] at e27
   exact opG_of rfl (vv (op_pick_t rfl (tmp_ev (slot_ev e25 rfl)) (tmp_ev (slot_ev e27 rfl))) (And.intro rfl rfl))
  refine ⟨fun a w vs129 hA hS hd => ?_, ?_⟩
  ·skip
   obtain ⟨e28, rs28, hy28, hp28⟩ := hd 28 (by decide)
   obtain ⟨hv28, hr28⟩ := hy28; subst hr28
   rw [hv28] at e28
   exact opG_of rfl (vv (op_move rfl (tmp_ev (slot_ev e28 rfl))) (And.intro rfl rfl))
  refine ⟨fun a w vs129 hA hS hd => ?_, ?_⟩
  ·skip
   obtain ⟨e29, rs29, hy29, hp29⟩ := hd 29 (by decide)
   obtain ⟨hv29, hr29⟩ := hy29; subst hr29
   rw [hv29] at e29
   exact opG_yes rfl rfl (slot_ev e29 rfl) (vv (op_loadA rfl ty_42 (hA.ev rfl) (hS.bk 3 rfl) (l := [(Value.int .i64 (stLo hotP (leastR hotR madeR hotP))), (Value.int .i64 (stHi hotP (mostR hotR madeR hotP)))]) rfl rfl) (And.intro rfl rfl))
  refine ⟨fun a w vs129 hA hS hd => ?_, ?_⟩
  ·skip
   obtain ⟨e29, rs29, hy29, hp29⟩ := hd 29 (by decide)
   obtain ⟨hv29, hr29⟩ := hy29; subst hr29
   rw [hv29] at e29
   exact opG_yes rfl rfl (slot_ev e29 rfl) (vx (op_call rfl en_31 (ev2 (evc _ _) (evc _ _)) (between_ok _ _ _)) (And.intro rfl rfl))
  refine ⟨fun a w vs129 hA hS hd => ?_, ?_⟩
  ·skip
   obtain ⟨e29, rs29, hy29, hp29⟩ := hd 29 (by decide)
   obtain ⟨hv29, hr29⟩ := hy29; subst hr29
   rw [hv29] at e29
   obtain ⟨e30, rs30, hy30, hp30⟩ := hd 30 (by decide)
   obtain ⟨hv30, hr30⟩ := hy30; subst hr30
   rw [hv30] at e30
   obtain ⟨e31, rs31, hy31, hp31⟩ := hd 31 (by decide)
   obtain ⟨hv31, hr31⟩ := hy31; subst hr31
   rw [hv31] at e31
   exact opG_yes rfl rfl (slot_ev e29 rfl) (vv (op_eqlP tw_42 rfl (tmp_ev (slot_ev e30 rfl)) (tmp_ev (slot_ev e31 rfl))) (And.intro (by show Value.bool _ = _; simp only [(show (decide (((stLo hotP (leastR hotR madeR hotP)) : Int) = 2030) && decide (((stHi hotP (mostR hotR madeR hotP)) : Int) = 2100)) = true from (by first | decide | (rw [low_hot, high_hot]; decide) | (rw [life_hot1, life_hot2]; decide))), decide_true, decide_false, Bool.not_true, Bool.not_false]) rfl))
  refine ⟨fun a w vs129 hA hS hd => ?_, ?_⟩
  ·skip
   obtain ⟨e29, rs29, hy29, hp29⟩ := hd 29 (by decide)
   obtain ⟨hv29, hr29⟩ := hy29; subst hr29
   rw [hv29] at e29
   obtain ⟨e32, rs32, hy32, hp32⟩ := hd 32 (by decide)
   obtain ⟨hv32, hr32⟩ := hy32; subst hr32
   rw [hv32] at e32
   exact opG_of rfl (vv (op_pick_t rfl (tmp_ev (slot_ev e29 rfl)) (tmp_ev (slot_ev e32 rfl))) (And.intro rfl rfl))
  refine ⟨fun a w vs129 hA hS hd => ?_, ?_⟩
  ·skip
   obtain ⟨e33, rs33, hy33, hp33⟩ := hd 33 (by decide)
   obtain ⟨hv33, hr33⟩ := hy33; subst hr33
   rw [hv33] at e33
   exact opG_of rfl (vv (op_move rfl (tmp_ev (slot_ev e33 rfl))) (And.intro rfl rfl))
  refine ⟨fun a w vs129 hA hS hd => ?_, ?_⟩
  ·skip
   obtain ⟨e34, rs34, hy34, hp34⟩ := hd 34 (by decide)
   obtain ⟨hv34, hr34⟩ := hy34; subst hr34
   rw [hv34] at e34
   exact opG_yes rfl rfl (slot_ev e34 rfl) (vv (op_move rfl (hA.ev rfl)) (And.intro rfl rfl))
  refine ⟨fun a w vs129 hA hS hd => ?_, ?_⟩
  ·skip
   obtain ⟨e34, rs34, hy34, hp34⟩ := hd 34 (by decide)
   obtain ⟨hv34, hr34⟩ := hy34; subst hr34
   rw [hv34] at e34
   obtain ⟨e35, rs35, hy35, hp35⟩ := hd 35 (by decide)
   obtain ⟨hv35, hr35⟩ := hy35; subst hr35
   rw [hv35] at e35
   exact opG_yes rfl rfl (slot_ev e34 rfl) (vv (op_eql rfl (tmp_ev (slot_ev e35 rfl)) (evc _ _)) (And.intro rfl rfl))
  refine ⟨fun a w vs129 hA hS hd => ?_, ?_⟩
  ·skip
   obtain ⟨e34, rs34, hy34, hp34⟩ := hd 34 (by decide)
   obtain ⟨hv34, hr34⟩ := hy34; subst hr34
   rw [hv34] at e34
   obtain ⟨e36, rs36, hy36, hp36⟩ := hd 36 (by decide)
   obtain ⟨hv36, hr36⟩ := hy36; subst hr36
   rw [hv36] at e36
   exact opG_of rfl (vv (op_pick_t rfl (tmp_ev (slot_ev e34 rfl)) (tmp_ev (slot_ev e36 rfl))) (And.intro rfl rfl))
  refine ⟨fun a w vs129 hA hS hd => ?_, ?_⟩
  ·skip
   obtain ⟨e37, rs37, hy37, hp37⟩ := hd 37 (by decide)
   obtain ⟨hv37, hr37⟩ := hy37; subst hr37
   rw [hv37] at e37
   exact opG_of rfl (vv (op_move rfl (tmp_ev (slot_ev e37 rfl))) (And.intro rfl rfl))
  refine ⟨fun a w vs129 hA hS hd => ?_, ?_⟩
  ·skip
   obtain ⟨e38, rs38, hy38, hp38⟩ := hd 38 (by decide)
   obtain ⟨hv38, hr38⟩ := hy38; subst hr38
   rw [hv38] at e38
   exact opG_yes rfl rfl (slot_ev e38 rfl) (vv (op_loadA rfl ty_42 (hA.ev rfl) (hS.bk 0 rfl) (l := [(Value.int .i64 ((lifeR (allowedF hotR madeR) (1 : Int).toNat 1000).1)), (Value.int .i64 ((lifeR (allowedF hotR madeR) (1 : Int).toNat 1000).2))]) rfl rfl) (And.intro rfl rfl))
  refine ⟨fun a w vs129 hA hS hd => ?_, ?_⟩
  ·skip
   obtain ⟨e38, rs38, hy38, hp38⟩ := hd 38 (by decide)
   obtain ⟨hv38, hr38⟩ := hy38; subst hr38
   rw [hv38] at e38
   exact opG_yes rfl rfl (slot_ev e38 rfl) (vx (op_call rfl en_31 (ev2 (evc _ _) (evc _ _)) (between_ok _ _ _)) (And.intro rfl rfl))
  trivial
 intro a130 w131 vs129 rsf135 hA132 hH134 hS133; clear hA128 hS124
 obtain ⟨hs_0, hy_0⟩ := hH134 0 (by decide)
 obtain ⟨hv_0, hr_0⟩ := hy_0
 obtain ⟨hs_1, hy_1⟩ := hH134 1 (by decide)
 obtain ⟨hv_1, hr_1⟩ := hy_1
 obtain ⟨hs_2, hy_2⟩ := hH134 2 (by decide)
 obtain ⟨hv_2, hr_2⟩ := hy_2
 obtain ⟨hs_3, hy_3⟩ := hH134 3 (by decide)
 obtain ⟨hv_3, hr_3⟩ := hy_3
 obtain ⟨hs_4, hy_4⟩ := hH134 4 (by decide)
 obtain ⟨hv_4, hr_4⟩ := hy_4
 obtain ⟨hs_5, hy_5⟩ := hH134 5 (by decide)
 obtain ⟨hv_5, hr_5⟩ := hy_5
 obtain ⟨hs_6, hy_6⟩ := hH134 6 (by decide)
 obtain ⟨hv_6, hr_6⟩ := hy_6
 obtain ⟨hs_7, hy_7⟩ := hH134 7 (by decide)
 obtain ⟨hv_7, hr_7⟩ := hy_7
 obtain ⟨hs_8, hy_8⟩ := hH134 8 (by decide)
 obtain ⟨hv_8, hr_8⟩ := hy_8
 obtain ⟨hs_9, hy_9⟩ := hH134 9 (by decide)
 obtain ⟨hv_9, hr_9⟩ := hy_9
 obtain ⟨hs_10, hy_10⟩ := hH134 10 (by decide)
 obtain ⟨hv_10, hr_10⟩ := hy_10
 obtain ⟨hs_11, hy_11⟩ := hH134 11 (by decide)
 obtain ⟨hv_11, hr_11⟩ := hy_11
 obtain ⟨hs_12, hy_12⟩ := hH134 12 (by decide)
 obtain ⟨hv_12, hr_12⟩ := hy_12
 obtain ⟨hs_13, hy_13⟩ := hH134 13 (by decide)
 obtain ⟨hv_13, hr_13⟩ := hy_13
 obtain ⟨hs_14, hy_14⟩ := hH134 14 (by decide)
 obtain ⟨hv_14, hr_14⟩ := hy_14
 obtain ⟨hs_15, hy_15⟩ := hH134 15 (by decide)
 obtain ⟨hv_15, hr_15⟩ := hy_15
 obtain ⟨hs_16, hy_16⟩ := hH134 16 (by decide)
 obtain ⟨hv_16, hr_16⟩ := hy_16
 obtain ⟨hs_17, hy_17⟩ := hH134 17 (by decide)
 obtain ⟨hv_17, hr_17⟩ := hy_17
 obtain ⟨hs_18, hy_18⟩ := hH134 18 (by decide)
 obtain ⟨hv_18, hr_18⟩ := hy_18
 obtain ⟨hs_19, hy_19⟩ := hH134 19 (by decide)
 obtain ⟨hv_19, hr_19⟩ := hy_19
 obtain ⟨hs_20, hy_20⟩ := hH134 20 (by decide)
 obtain ⟨hv_20, hr_20⟩ := hy_20
 obtain ⟨hs_21, hy_21⟩ := hH134 21 (by decide)
 obtain ⟨hv_21, hr_21⟩ := hy_21
 obtain ⟨hs_22, hy_22⟩ := hH134 22 (by decide)
 obtain ⟨hv_22, hr_22⟩ := hy_22
 obtain ⟨hs_23, hy_23⟩ := hH134 23 (by decide)
 obtain ⟨hv_23, hr_23⟩ := hy_23
 obtain ⟨hs_24, hy_24⟩ := hH134 24 (by decide)
 obtain ⟨hv_24, hr_24⟩ := hy_24
 obtain ⟨hs_25, hy_25⟩ := hH134 25 (by decide)
 obtain ⟨hv_25, hr_25⟩ := hy_25
 obtain ⟨hs_26, hy_26⟩ := hH134 26 (by decide)
 obtain ⟨hv_26, hr_26⟩ := hy_26
 obtain ⟨hs_27, hy_27⟩ := hH134 27 (by decide)
 obtain ⟨hv_27, hr_27⟩ := hy_27
 obtain ⟨hs_28, hy_28⟩ := hH134 28 (by decide)
 obtain ⟨hv_28, hr_28⟩ := hy_28
 obtain ⟨hs_29, hy_29⟩ := hH134 29 (by decide)
 obtain ⟨hv_29, hr_29⟩ := hy_29
 obtain ⟨hs_30, hy_30⟩ := hH134 30 (by decide)
 obtain ⟨hv_30, hr_30⟩ := hy_30
 obtain ⟨hs_31, hy_31⟩ := hH134 31 (by decide)
 obtain ⟨hv_31, hr_31⟩ := hy_31
 obtain ⟨hs_32, hy_32⟩ := hH134 32 (by decide)
 obtain ⟨hv_32, hr_32⟩ := hy_32
 obtain ⟨hs_33, hy_33⟩ := hH134 33 (by decide)
 obtain ⟨hv_33, hr_33⟩ := hy_33
 obtain ⟨hs_34, hy_34⟩ := hH134 34 (by decide)
 obtain ⟨hv_34, hr_34⟩ := hy_34
 obtain ⟨hs_35, hy_35⟩ := hH134 35 (by decide)
 obtain ⟨hv_35, hr_35⟩ := hy_35
 obtain ⟨hs_36, hy_36⟩ := hH134 36 (by decide)
 obtain ⟨hv_36, hr_36⟩ := hy_36
 obtain ⟨hs_37, hy_37⟩ := hH134 37 (by decide)
 obtain ⟨hv_37, hr_37⟩ := hy_37
 obtain ⟨hs_38, hy_38⟩ := hH134 38 (by decide)
 obtain ⟨hv_38, hr_38⟩ := hy_38
 obtain ⟨hs_39, hy_39⟩ := hH134 39 (by decide)
 obtain ⟨hv_39, hr_39⟩ := hy_39
 obtain ⟨hs_40, hy_40⟩ := hH134 40 (by decide)
 obtain ⟨hv_40, hr_40⟩ := hy_40
 have hS136 : Sep NoB w w131 [(blk b119 42 [(Value.int .i64 ((lifeR (allowedF hotR madeR) (1 : Int).toNat 1000).1)), (Value.int .i64 ((lifeR (allowedF hotR madeR) (1 : Int).toNat 1000).2))]), (runsR true v103 lv104 madeR), (row u97 42 2 2 (pairs hotR)), (blk b83 42 [(Value.int .i64 (stLo hotP (leastR hotR madeR hotP))), (Value.int .i64 (stHi hotP (mostR hotR madeR hotP)))]), (blk b67 67 [(Value.int .i64 0), (Value.int .i64 1000), (Value.int .i64 1000), (Value.int .i64 1), (Value.int .i64 10), (Value.int .i64 20)]), (runsR true v48 lv49 madeR), (row u42 42 2 2 (pairs hotR)), (row u21 42 2 2 (pairs ([(2, 2), (3, 5)]))), (runsR true v14 lv15 madeR), (row u8 42 2 2 (pairs hotR))] := by rw [show catR rsf135 0 41 = ([] : List Res) by (try simp only [catR, hr_0, hr_1, hr_2, hr_3, hr_4, hr_5, hr_6, hr_7, hr_8, hr_9, hr_10, hr_11, hr_12, hr_13, hr_14, hr_15, hr_16, hr_17, hr_18, hr_19, hr_20, hr_21, hr_22, hr_23, hr_24, hr_25, hr_26, hr_27, hr_28, hr_29, hr_30, hr_31, hr_32, hr_33, hr_34, hr_35, hr_36, hr_37, hr_38, hr_39, hr_40]); (try rfl)] at hS133; exact hS133
 rw [hv_38] at hs_38
 have hA137 : Fr 75 [] [(70, (Value.bool true)), (7, (Value.int .i64 0)), (6, (bptr b119 0)), (5, (Value.int .i64 0)), (4, (bptr b83 0)), (3, (Value.int .i64 0)), (2, (Value.int .i64 ((3 : Nat) : Int))), (1, u21)] a130 := hA132.add (slot_ev hs_38 rfl); clear hA132
 rw [hv_39] at hs_39
 have hA138 : Fr 75 [] [(71, (Value.agg #[(Value.int .i64 ((lifeR (allowedF hotR madeR) (1 : Int).toNat 1000).1)), (Value.int .i64 ((lifeR (allowedF hotR madeR) (1 : Int).toNat 1000).2))])), (70, (Value.bool true)), (7, (Value.int .i64 0)), (6, (bptr b119 0)), (5, (Value.int .i64 0)), (4, (bptr b83 0)), (3, (Value.int .i64 0)), (2, (Value.int .i64 ((3 : Nat) : Int))), (1, u21)] a130 := hA137.add (slot_ev hs_39 rfl); clear hA137
 rw [hv_40] at hs_40
 have hA139 : Fr 75 [] [(72, (Value.agg #[(Value.int .i64 200), (Value.int .i64 334)])), (71, (Value.agg #[(Value.int .i64 ((lifeR (allowedF hotR madeR) (1 : Int).toNat 1000).1)), (Value.int .i64 ((lifeR (allowedF hotR madeR) (1 : Int).toNat 1000).2))])), (70, (Value.bool true)), (7, (Value.int .i64 0)), (6, (bptr b119 0)), (5, (Value.int .i64 0)), (4, (bptr b83 0)), (3, (Value.int .i64 0)), (2, (Value.int .i64 ((3 : Nat) : Int))), (1, u21)] a130 := hA138.add (slot_ev hs_40 rfl); clear hA138
 clear hH134 hS133 hs_0 hs_1 hs_2 hs_3 hs_4 hs_5 hs_6 hs_7 hs_8 hs_9 hs_10 hs_11 hs_12 hs_13 hs_14 hs_15 hs_16 hs_17 hs_18 hs_19 hs_20 hs_21 hs_22 hs_23 hs_24 hs_25 hs_26 hs_27 hs_28 hs_29 hs_30 hs_31 hs_32 hs_33 hs_34 hs_35 hs_36 hs_37 hs_38 hs_39 hs_40
 clear hr_0
 clear hv_0
 clear hr_1
 clear hv_1
 clear hr_2
 clear hv_2
 clear hr_3
 clear hv_3
 clear hr_4
 clear hv_4
 clear hr_5
 clear hv_5
 clear hr_6
 clear hv_6
 clear hr_7
 clear hv_7
 clear hr_8
 clear hv_8
 clear hr_9
 clear hv_9
 clear hr_10
 clear hv_10
 clear hr_11
 clear hv_11
 clear hr_12
 clear hv_12
 clear hr_13
 clear hv_13
 clear hr_14
 clear hv_14
 clear hr_15
 clear hv_15
 clear hr_16
 clear hv_16
 clear hr_17
 clear hv_17
 clear hr_18
 clear hv_18
 clear hr_19
 clear hv_19
 clear hr_20
 clear hv_20
 clear hr_21
 clear hv_21
 clear hr_22
 clear hv_22
 clear hr_23
 clear hv_23
 clear hr_24
 clear hv_24
 clear hr_25
 clear hv_25
 clear hr_26
 clear hv_26
 clear hr_27
 clear hv_27
 clear hr_28
 clear hv_28
 clear hr_29
 clear hv_29
 clear hr_30
 clear hv_30
 clear hr_31
 clear hv_31
 clear hr_32
 clear hv_32
 clear hr_33
 clear hv_33
 clear hr_34
 clear hv_34
 clear hr_35
 clear hv_35
 clear hr_36
 clear hv_36
 clear hr_37
 clear hv_37
 clear hr_38
 clear hv_38
 clear hr_39
 clear hv_39
 clear hr_40
 clear hv_40
 refine stg hA139 (op_eqlP tw_42 rfl (hA139.ev rfl) (hA139.ev rfl)) rfl rfl rfl rfl (by decide) fun a140 hA141 => ?_; clear hA139 a130
 have hd142 : (decide ((((lifeR (allowedF hotR madeR) (1 : Int).toNat 1000).1) : Int) = 200) && decide ((((lifeR (allowedF hotR madeR) (1 : Int).toNat 1000).2) : Int) = 334)) = true := (by first | decide | (rw [low_hot, high_hot]; decide) | (rw [life_hot1, life_hot2]; decide))
 rw [hd142] at hA141
 have hq143 := hd142; simp only [Bool.and_eq_true, Bool.and_eq_false_iff, decide_eq_true_eq, decide_eq_false_iff_not] at hq143
 refine st hA141 (op_pick_t rfl (hA141.ev rfl) (hA141.ev rfl)) rfl rfl (by decide) fun a144 hA145 => ?_; clear hA141 a140
 refine st hA145 (op_assign rfl (hA145.ev rfl)) rfl rfl (by decide) fun a146 hA147 => ?_; clear hA145 a144
 refine wl_nil ?_
 refine then_n ?_
 refine c_ret ?_
 refine fin_run hA147 (.inl rfl) (run_results1 hA147 rfl (.tmp rfl)) ?_
 exact ⟨rfl, hS136.ext⟩
end Go.Proofs.Ytkkglkdnnfegkaa

namespace Go.Proofs.Ytkkglkdnnfegkaa
open Go.RowKit Go.Eng
theorem ratesF_len (R : List (Int × Int)) (rs : List RunD) : (ratesF R rs).length = R.length := outF_len _ _ _
end Go.Proofs.Ytkkglkdnnfegkaa

namespace Go.Proofs.Ytkkglkdnnfegkaa
open Go.RowKit Go.Shelf Go.Eng
theorem en_16 : ∀ args w, (callFunc 16 args).run Try.prog w = .ok (.enter 16 args) w := enters_of Try.func16 (by kernel_rfl) rfl
theorem en_17 : ∀ args w, (callFunc 17 args).run Try.prog w = .ok (.enter 17 args) w := enters_of Try.func17 (by kernel_rfl) rfl
theorem en_19 : ∀ args w, (callFunc 19 args).run Try.prog w = .ok (.enter 19 args) w := enters_of Try.func19 (by kernel_rfl) rfl
theorem en_20 : ∀ args w, (callFunc 20 args).run Try.prog w = .ok (.enter 20 args) w := enters_of Try.func20 (by kernel_rfl) rfl
theorem en_33 : ∀ args w, (callFunc 33 args).run Try.prog w = .ok (.enter 33 args) w := enters_of Try.func33 (by kernel_rfl) rfl
theorem en_27 : ∀ args w, (callFunc 27 args).run Try.prog w = .ok (.enter 27 args) w := enters_of Try.func27 (by kernel_rfl) rfl
theorem un_5 : Try.prog.underlying 5 = some (.int .u8) := by kernel_rfl
theorem un_61 : Try.prog.underlying 61 = some (.int .u32) := by kernel_rfl
theorem bs_56_0_  : Instr.fill (fun i => some (i * 3, 3)) ((Array.range (0 * 3)).map ((Value.agg #[(Value.int .i64 0), (Value.int .i64 0), (Value.int .i64 0)]).cells[· % (Value.agg #[(Value.int .i64 0), (Value.int .i64 0), (Value.int .i64 0)]).cells.size]!)) [] = some (([] : List Value).toArray) := by kernel_rfl
theorem el_56 : elK Try.prog 56 = some ((Value.agg #[(Value.int .i64 0), (Value.int .i64 0), (Value.int .i64 0)]), 3, 24) := by kernel_rfl
theorem un_52 : Try.prog.underlying 52 = some (.int .u16) := by kernel_rfl
end Go.Proofs.Ytkkglkdnnfegkaa

namespace Go.Proofs.Ytkkglkdnnfegkaa
open Go.RowKit Go.Eng
theorem hours_ge {r s : Int} (hr : 0 ≤ r) (hs : 0 ≤ s) : -1 ≤ hoursF r s := by
  unfold hoursF
  split
  · omega
  · split
    · omega
    · have := Int.tdiv_nonneg (a := s + r - 1) (b := r) (by omega) (by omega); omega
theorem lifeU_inv {A : List (List Int)} {band : Nat} {s : Int} (h : ∀ i, -1 ≤ hoursF ((A.getD i []).getD band 0) s) : ∀ k, ((lifeU A band s k).1.1 = -1 ∧ (lifeU A band s k).1.2 = -1) ∨ (0 ≤ (lifeU A band s k).1.1 ∧ (lifeU A band s k).1.1 ≤ (lifeU A band s k).1.2)
  | 0 => .inl ⟨rfl, rfl⟩
  | k + 1 => by
    have ih := lifeU_inv h k
    have hk := h k
    by_cases e : hoursF ((A.getD k []).getD band 0) s = -1
    · rw [lifeU_y e]; exact ih
    · rw [lifeU_n e]
      right
      simp only [withF]
      rcases ih with ⟨h1, h2⟩ | ⟨h1, h2⟩
      · rw [h1, h2]; simp only [decide_true, Bool.and_self, if_true]; omega
      · have : (decide ((lifeU A band s k).1.1 = -1) && decide ((lifeU A band s k).1.2 = -1)) = false := by
          rw [decide_eq_false (by omega : ¬ (lifeU A band s k).1.1 = -1)]; rfl
        rw [this]; simp only [Bool.false_eq_true, if_false]; omega
theorem lifeU_lo {A : List (List Int)} {band k : Nat} {s : Int} (h : ∀ i, -1 ≤ hoursF ((A.getD i []).getD band 0) s) (hn : ¬ hoursF ((A.getD k []).getD band 0) s < 0) :
    lifeU A band s (k + 1) = (((if (lifeU A band s k).1.1 < 0 ∨ hoursF ((A.getD k []).getD band 0) s < (lifeU A band s k).1.1 then hoursF ((A.getD k []).getD band 0) s else (lifeU A band s k).1.1), max (lifeU A band s k).1.2 (hoursF ((A.getD k []).getD band 0) s)), (lifeU A band s k).2) := by
  rw [lifeU_n (by omega)]
  rcases lifeU_inv h k with ⟨h1, h2⟩ | ⟨h1, h2⟩
  · rw [h1, h2]; simp only [withF, decide_true, Bool.and_self, if_true]
    rw [if_pos (.inl (by decide)), Int.max_eq_right (by omega)]
  · have : (decide ((lifeU A band s k).1.1 = -1) && decide ((lifeU A band s k).1.2 = -1)) = false := by
      rw [decide_eq_false (by omega : ¬ (lifeU A band s k).1.1 = -1)]; rfl
    simp only [withF, this, Bool.false_eq_true, if_false]
    by_cases hc : hoursF ((A.getD k []).getD band 0) s < (lifeU A band s k).1.1
    · rw [if_pos (.inr hc), Int.min_eq_right (by omega)]
    · rw [if_neg (by omega), Int.min_eq_left (by omega)]
theorem lifeU_neg {A : List (List Int)} {band k : Nat} {s : Int} (h : ∀ i, -1 ≤ hoursF ((A.getD i []).getD band 0) s) (hn : hoursF ((A.getD k []).getD band 0) s < 0) : lifeU A band s (k + 1) = ((lifeU A band s k).1, true) := lifeU_y (by have := h k; omega)
end Go.Proofs.Ytkkglkdnnfegkaa

namespace Go.Proofs.Ytkkglkdnnfegkaa
open Go.RowKit Go.Shelf Go.Eng
def planB (R : List (Int × Int)) (plan : List Seg) : Bool := allSegB R.length plan && decide (plan.length ≤ 8)
def readyB (R : List (Int × Int)) (rs : List RunD) (plan : List Seg) : Bool := thinB R rs plan.length && decide (enterF R rs = 0) && planB R plan
theorem ready_is {R : List (Int × Int)} {rs : List RunD} {plan : List Seg} (h : readyB R rs plan = true) : ThinV R rs plan.length ∧ enterF R rs = 0 ∧ plan.length ≤ 8 ∧ allSegB R.length plan = true := by
 simp only [readyB, planB, Bool.and_eq_true, decide_eq_true_eq] at h
 exact ⟨thin_of h.1.1, h.1.2, h.2.2, h.2.1⟩
set_option maxHeartbeats 1000000 in
theorem IsPlan_ok (w : World) (R : List (Int × Int)) (vr : Value) (hm : SlAt w vr 2 R.length (pairs R)) (plan : List Seg) (vp : Value) (hp : SlAt w vp 3 plan.length (trips plan)) (hR6 : R.length ≤ 6) (hp12 : plan.length ≤ 12) :
  Calls Try.prog 33 #[(Value.agg #[vr]), vp] w (Ret fun v w' => v = .bool (planB R plan) ∧ Ext NoB w w') := by
 refine calls_enter Try.func33 rfl fun a0 hA0 => ?_
 replace hA0 : Fr 22 [] [(0, (Value.agg #[vr])), (1, vp)] a0 := hA0
 have hS0 : Sep NoB w w [(sl vr 2 R.length (pairs R)), (sl vp 3 plan.length (trips plan))] := sep_ro ⟨rfl, hm, rfl, hp, trivial⟩
 refine c_seq ?_
 refine c_region ?_
 refine stw hA0 (op_box hS0 rfl (hA0.ev rfl) (cs := [vr]) rfl) rfl rfl (by decide) ?_
 rintro a1 _ w3 ⟨b4, rfl, hS5⟩ hA2; clear hA0 hS0 a0
 refine st hA2 (op_assign rfl (evc _ _)) rfl rfl (by decide) fun a6 hA7 => ?_; clear hA2 a1
 refine wl_nil ?_
 refine then_n ?_
 refine c_seq ?_
 refine c_seq ?_
 refine c_region ?_
 refine st hA7 (op_assign rfl (evc _ _)) rfl rfl (by decide) fun a8 hA9 => ?_; clear hA7 a6
 refine wl_nil ?_
 refine then_n ?_
 refine c_block ?_
 have hA10 := hA9.as [(5, (Value.int .i64 0)), (2, (bptr b4 0)), (1, vp)] rfl; clear hA9
 refine c_loop (G := Nat) (fun (k : Nat) a_ w_ => Fr 22 [] [(5, (Value.int .i64 (k : Int))), (2, (bptr b4 0)), (1, vp)] a_ ∧ Sep NoB w w_ [(blk b4 24 [vr]), (sl vr 2 R.length (pairs R)), (sl vp 3 plan.length (trips plan))] ∧ (k ≤ plan.length) ∧ (∀ i, i < k → segB R.length (plan.getD i (0, 0, 0)) = true)) (fun k => plan.length - k) 0 ⟨hA10.as _ rfl, hS5, by omega, (fun _ h => absurd h (Nat.not_lt_zero _))⟩ ?_
 clear hA10 hS5 a8
 rintro k a11 w13 ⟨hA12, hS14, hkk, hsg⟩
 refine c_seq ?_
 refine c_seq ?_
 refine c_region ?_
 refine st hA12 (op_move rfl (hA12.ev rfl)) rfl rfl (by decide) fun a15 hA16 => ?_; clear hA12 a11
 refine st hA16 (op_move rfl (hA16.ev rfl)) rfl rfl (by decide) fun a17 hA18 => ?_; clear hA16 a15
 refine st hA18 (op_lenS rfl un_51 (hA18.ev rfl) (hS14.sk 2 rfl)) rfl rfl (by decide) fun a19 hA20 => ?_; clear hA18 a17
 refine st hA20 (op_lss rfl (hA20.ev rfl) (hA20.ev rfl)) rfl rfl (by decide) fun a21 hA22 => ?_; clear hA20 a19
 refine wl_nil ?_
 refine then_n ?_
 by_cases hb23 : (k : Int) < (plan.length : Int)
 ·skip
  rw [decide_eq_true hb23] at hA22
  refine c_true hA22 rfl ?_
  refine c_skip ?_
  refine then_n ?_
  refine c_seq ?_
  refine c_block ?_
  refine c_seq ?_
  have hA24 := hA22.as [(5, (Value.int .i64 (k : Int))), (2, (bptr b4 0)), (1, vp)] rfl; clear hA22
  refine c_drawV mixed hA24 hS14 5 [[], [], [], [1, 2], [3]] [(fun (vs25 : Nat → Value) (v_ : Value) (rs_ : List Res) => v_ = (Value.agg #[vr]) ∧ rs_ = []), (fun (vs25 : Nat → Value) (v_ : Value) (rs_ : List Res) => v_ = vp ∧ rs_ = []), (fun (vs25 : Nat → Value) (v_ : Value) (rs_ : List Res) => v_ = (Value.int .i64 (k : Int)) ∧ rs_ = []), (fun (vs25 : Nat → Value) (v_ : Value) (rs_ : List Res) => v_ = (eptr vp (k * 3)) ∧ rs_ = []), (fun (vs25 : Nat → Value) (v_ : Value) (rs_ : List Res) => v_ = (Value.agg #[(Value.int .i64 ((plan.getD k (0, 0, 0)).1)), (Value.int .i64 ((plan.getD k (0, 0, 0)).2.1)), (Value.int .i64 ((plan.getD k (0, 0, 0)).2.2))]) ∧ rs_ = [])] (by decide +kernel) (by decide +kernel) rfl rfl ⟨(fun _ _ _ _ _ h_ => h_), (fun _ _ _ _ _ h_ => h_), (fun _ _ _ _ _ h_ => h_), (fun _ _ _ _ _ h_ => h_), (fun _ _ _ _ _ h_ => h_), trivial⟩ ?_ ?_
  ·skip
   refine ⟨fun a w vs25 hA hS hd => ?_, ?_⟩
   ·skip
    exact opG_of rfl (vv (op_loadA rfl ty_24 (hA.ev rfl) (hS.bk 0 rfl) (l := [vr]) rfl rfl) (And.intro rfl rfl))
   refine ⟨fun a w vs25 hA hS hd => ?_, ?_⟩
   ·skip
    exact opG_of rfl (vv (op_move rfl (hA.ev rfl)) (And.intro rfl rfl))
   refine ⟨fun a w vs25 hA hS hd => ?_, ?_⟩
   ·skip
    exact opG_of rfl (vv (op_move rfl (hA.ev rfl)) (And.intro rfl rfl))
   refine ⟨fun a w vs25 hA hS hd => ?_, ?_⟩
   ·skip
    obtain ⟨e1, rs1, hy1, hp1⟩ := hd 1 (by decide)
    obtain ⟨hv1, hr1⟩ := hy1; subst hr1
    rw [hv1] at e1
    obtain ⟨e2, rs2, hy2, hp2⟩ := hd 2 (by decide)
    obtain ⟨hv2, hr2⟩ := hy2; subst hr2
    rw [hv2] at e2
    exact opG_of rfl (vv (op_indexS rfl un_51 ty_56 (tmp_ev (slot_ev e1 rfl)) (i := k) (tmp_ev (slot_ev e2 rfl)) (hS.sk 2 rfl) (by decide) (by omega)) (And.intro rfl rfl))
   refine ⟨fun a w vs25 hA hS hd => ?_, ?_⟩
   ·skip
    obtain ⟨e3, rs3, hy3, hp3⟩ := hd 3 (by decide)
    obtain ⟨hv3, hr3⟩ := hy3; subst hr3
    rw [hv3] at e3
    exact opG_of rfl (vv (op_loadAE rfl ty_56 (tmp_ev (slot_ev e3 rfl)) (hS.sk 2 rfl) (trips_all (by omega)) rfl (by decide)) (And.intro rfl rfl))
   trivial
  intro a26 w27 vs25 rsf31 hA28 hH30 hS29; clear hA24 hS14
  obtain ⟨hs_0, hy_0⟩ := hH30 0 (by decide)
  obtain ⟨hv_0, hr_0⟩ := hy_0
  obtain ⟨hs_1, hy_1⟩ := hH30 1 (by decide)
  obtain ⟨hv_1, hr_1⟩ := hy_1
  obtain ⟨hs_2, hy_2⟩ := hH30 2 (by decide)
  obtain ⟨hv_2, hr_2⟩ := hy_2
  obtain ⟨hs_3, hy_3⟩ := hH30 3 (by decide)
  obtain ⟨hv_3, hr_3⟩ := hy_3
  obtain ⟨hs_4, hy_4⟩ := hH30 4 (by decide)
  obtain ⟨hv_4, hr_4⟩ := hy_4
  have hS32 : Sep NoB w w27 [(blk b4 24 [vr]), (sl vr 2 R.length (pairs R)), (sl vp 3 plan.length (trips plan))] := by rw [show catR rsf31 0 5 = ([] : List Res) by (try simp only [catR, hr_0, hr_1, hr_2, hr_3, hr_4]); (try rfl)] at hS29; exact hS29
  rw [hv_0] at hs_0
  have hA33 : Fr 22 [] [(12, (Value.agg #[vr])), (5, (Value.int .i64 (k : Int))), (2, (bptr b4 0)), (1, vp)] a26 := hA28.add (slot_ev hs_0 rfl); clear hA28
  rw [hv_4] at hs_4
  have hA34 : Fr 22 [] [(16, (Value.agg #[(Value.int .i64 ((plan.getD k (0, 0, 0)).1)), (Value.int .i64 ((plan.getD k (0, 0, 0)).2.1)), (Value.int .i64 ((plan.getD k (0, 0, 0)).2.2))])), (12, (Value.agg #[vr])), (5, (Value.int .i64 (k : Int))), (2, (bptr b4 0)), (1, vp)] a26 := hA33.add (slot_ev hs_4 rfl); clear hA33
  clear hH30 hS29 hs_0 hs_1 hs_2 hs_3 hs_4
  clear hr_0
  clear hv_0
  clear hr_1
  clear hv_1
  clear hr_2
  clear hv_2
  clear hr_3
  clear hv_3
  clear hr_4
  clear hv_4
  refine stw hA34 (op_call rfl en_62 (ev2 (hA34.ev rfl) (hA34.ev rfl)) (IsSegment_ok _ R _ (hS32.sk 1 rfl) _ _ _ (by omega))) rfl rfl (by decide) ?_
  rintro a35 _ w37 ⟨rfl, hE38⟩ hA36; have hS39 := hS32.step hE38; clear hE38 hA34 hS32 a26
  refine st hA36 (op_not rfl (hA36.ev rfl)) rfl rfl (by decide) fun a40 hA41 => ?_; clear hA36 a35
  refine wl_nil ?_
  refine then_n ?_
  rcases Bool.eq_false_or_eq_true ((segB R.length ((plan.getD k (0, 0, 0)).1, (plan.getD k (0, 0, 0)).2.1, (plan.getD k (0, 0, 0)).2.2))) with hb42 | hb42
  ·skip
   rw [hb42] at hA41
   refine c_false hA41 rfl ?_
   refine c_skip ?_
   refine blk_n ?_
   refine then_n ?_
   refine c_region ?_
   refine st hA41 (op_move rfl (hA41.ev rfl)) rfl rfl (by decide) fun a43 hA44 => ?_; clear hA41 a40
   refine st hA44 (op_add rfl (hA44.ev rfl) (evc _ _) (by omega) (by omega)) rfl rfl (by decide) fun a45 hA46 => ?_; clear hA44 a43
   refine st hA46 (op_assign rfl (hA46.ev rfl)) rfl rfl (by decide) fun a47 hA48 => ?_; clear hA46 a45
   refine wl_nil ?_
   exact then_n ⟨k + 1, ⟨hA48.as _ rfl, hS39, by omega, (fun i hi => by rcases Nat.lt_succ_iff_lt_or_eq.1 hi with h | h; exact hsg i h; subst h; assumption)⟩, by omega⟩
  ·skip
   rw [hb42] at hA41
   refine c_true hA41 rfl ?_
   refine c_seq ?_
   have hA49 := hA41.as [] rfl; clear hA41
   refine c_region ?_
   refine st hA49 (op_assign rfl (evc _ _)) rfl rfl (by decide) fun a50 hA51 => ?_; clear hA49 a40
   refine wl_nil ?_
   refine then_n ?_
   refine c_ret ?_
   refine blk_ret ?_
   refine then_ret ?_
   refine then_ret ?_
   refine blk_ret ?_
   refine then_ret ?_
   refine fin_run hA51 (.inl rfl) (run_results1 hA51 rfl (.tmp rfl)) ?_
   exact ⟨congrArg Value.bool (by unfold planB allSegB; first | (rw [all_yes (p := fun i => segB R.length (plan.getD i (0, 0, 0))) (fun i hi => hsg i (by omega)), Bool.true_and]; (rw [Bool.eq_iff_iff]; (try simp only [Bool.true_and, Bool.false_and, Bool.and_true, Bool.and_false, Bool.false_or, Bool.true_or, Bool.or_false, Bool.or_true, true_and, and_true, false_and, and_false, false_or, or_false, true_or, or_true, Bool.and_eq_true, Bool.or_eq_true, Bool.not_eq_true', decide_eq_true_eq, decide_eq_false_iff_not, Bool.false_eq_true, Bool.true_eq_false, Bool.not_true, Bool.not_false, eq_self_iff_true, true_iff, false_iff, iff_true, iff_false, not_true, not_false_eq_true]); omega)) | (rw [all_no (k := k) (p := fun i => segB R.length (plan.getD i (0, 0, 0))) (by omega) (by assumption), Bool.false_and])), hS39.ext⟩
 ·skip
  rw [decide_eq_false hb23] at hA22
  refine c_false hA22 rfl ?_
  refine c_exit ?_
  refine then_exit ?_
  refine then_exit ?_
  refine blk_hit ?_
  refine then_n ?_
  refine c_seq ?_
  have hA52 := hA22.as [(1, vp)] rfl; clear hA22
  refine c_region ?_
  refine st hA52 (op_move rfl (hA52.ev rfl)) rfl rfl (by decide) fun a53 hA54 => ?_; clear hA52 a21
  refine st hA54 (op_lenS rfl un_51 (hA54.ev rfl) (hS14.sk 2 rfl)) rfl rfl (by decide) fun a55 hA56 => ?_; clear hA54 a53
  refine st hA56 (op_leq rfl (hA56.ev rfl) (evc _ _)) rfl rfl (by decide) fun a57 hA58 => ?_; clear hA56 a55
  refine st hA58 (op_assign rfl (hA58.ev rfl)) rfl rfl (by decide) fun a59 hA60 => ?_; clear hA58 a57
  refine wl_nil ?_
  refine then_n ?_
  refine c_ret ?_
  refine fin_run hA60 (.inl rfl) (run_results1 hA60 rfl (.tmp rfl)) ?_
  exact ⟨congrArg Value.bool (by unfold planB allSegB; first | (rw [all_yes (p := fun i => segB R.length (plan.getD i (0, 0, 0))) (fun i hi => hsg i (by omega)), Bool.true_and]; (rw [Bool.eq_iff_iff]; (try simp only [Bool.true_and, Bool.false_and, Bool.and_true, Bool.and_false, Bool.false_or, Bool.true_or, Bool.or_false, Bool.or_true, true_and, and_true, false_and, and_false, false_or, or_false, true_or, or_true, Bool.and_eq_true, Bool.or_eq_true, Bool.not_eq_true', decide_eq_true_eq, decide_eq_false_iff_not, Bool.false_eq_true, Bool.true_eq_false, Bool.not_true, Bool.not_false, eq_self_iff_true, true_iff, false_iff, iff_true, iff_false, not_true, not_false_eq_true]); omega)) | (rw [all_no (k := k) (p := fun i => segB R.length (plan.getD i (0, 0, 0))) (by omega) (by assumption), Bool.false_and])), hS14.ext⟩
set_option maxHeartbeats 1000000 in
theorem ready_ok (w : World) (R : List (Int × Int)) (vr : Value) (hm : SlAt w vr 2 R.length (pairs R)) (rs : List RunD) (lv : List Value) (vu : Value) (hx : RunsAt w vu lv rs) (plan : List Seg) (vp : Value) (hp : SlAt w vp 3 plan.length (trips plan)) :
  Calls Try.prog 27 #[(Value.agg #[vr]), vu, vp] w (Ret fun v w' => v = .bool (readyB R rs plan) ∧ Ext NoB w w') := by
 refine calls_enter Try.func27 rfl fun a0 hA0 => ?_
 replace hA0 : Fr 22 [] [(0, (Value.agg #[vr])), (1, vu), (2, vp)] a0 := hA0
 have hS0 : Sep NoB w w [(sl vr 2 R.length (pairs R)), (runsR false vu lv rs), (sl vp 3 plan.length (trips plan))] := sep_ro ⟨rfl, hm, rfl, hx, rfl, hp, trivial⟩
 refine c_seq ?_
 refine c_region ?_
 refine stw hA0 (op_box hS0 rfl (hA0.ev rfl) (cs := [vr]) rfl) rfl rfl (by decide) ?_
 rintro a1 _ w3 ⟨b4, rfl, hS5⟩ hA2; clear hA0 hS0 a0
 refine st hA2 (op_assign rfl (evc _ _)) rfl rfl (by decide) fun a6 hA7 => ?_; clear hA2 a1
 refine wl_nil ?_
 refine then_n ?_
 refine c_seq ?_
 refine c_region ?_
 refine st hA7 (op_loadA rfl ty_24 (hA7.ev rfl) (hS5.bk 0 rfl) (l := [vr]) rfl rfl) rfl rfl (by decide) fun a8 hA9 => ?_; clear hA7 a6
 refine st hA9 (op_move rfl (hA9.ev rfl)) rfl rfl (by decide) fun a10 hA11 => ?_; clear hA9 a8
 refine st hA11 (op_move rfl (hA11.ev rfl)) rfl rfl (by decide) fun a12 hA13 => ?_; clear hA11 a10
 refine stw hA13 (op_call rfl en_16 (ev3 (hA13.ev rfl) (hA13.ev rfl) (hA13.ev rfl)) (Thin_ok _ R _ (hS5.sk 1 rfl) rs _ _ (runs_at (hS5.ok 2 _ rfl)) plan _ (hS5.sk 3 rfl))) rfl rfl (by decide) ?_
 rintro a14 _ w16 ⟨rfl, hE17⟩ hA15; have hS18 := hS5.step hE17; clear hE17 hA13 hS5 a12
 refine st hA15 (op_move rfl (hA15.ev rfl)) rfl rfl (by decide) fun a19 hA20 => ?_; clear hA15 a14
 rcases Bool.eq_false_or_eq_true ((thinB R rs plan.length)) with hb21 | hb21
 ·skip
  rw [hb21] at hA20
  have hth := thin_of (R := R) (rs := rs) (pl := plan.length) (by assumption); have h6 := hth.mat; have h12 := hth.plan
  refine stg hA20 (op_loadA rfl ty_24 (hA20.ev rfl) (hS18.bk 0 rfl) (l := [vr]) rfl rfl) rfl rfl rfl rfl (by decide) fun a22 hA23 => ?_; clear hA20 a19
  refine stg hA23 (op_move rfl (hA23.ev rfl)) rfl rfl rfl rfl (by decide) fun a24 hA25 => ?_; clear hA23 a22
  refine stwg hA25 (op_call rfl en_41 (ev2 (hA25.ev rfl) (hA25.ev rfl)) (fault_ok _ R _ (hS18.sk 1 rfl) rs _ _ (runs_at (hS18.ok 2 _ rfl)))) rfl rfl rfl rfl (by decide) ?_
  rintro a26 _ w28 ⟨rfl, hE29⟩ hA27; have hS30 := hS18.step hE29; clear hE29 hA25 hS18 a24
  refine stg hA27 (op_eql rfl (hA27.ev rfl) (evc _ _)) rfl rfl rfl rfl (by decide) fun a31 hA32 => ?_; clear hA27 a26
  refine st hA32 (op_pick_t rfl (hA32.ev rfl) (hA32.ev rfl)) rfl rfl (by decide) fun a33 hA34 => ?_; clear hA32 a31
  refine st hA34 (op_move rfl (hA34.ev rfl)) rfl rfl (by decide) fun a35 hA36 => ?_; clear hA34 a33
  by_cases hb37 : (enterF R rs) = 0
  ·skip
   rw [decide_eq_true hb37] at hA36
   refine stg hA36 (op_loadA rfl ty_24 (hA36.ev rfl) (hS30.bk 0 rfl) (l := [vr]) rfl rfl) rfl rfl rfl rfl (by decide) fun a38 hA39 => ?_; clear hA36 a35
   refine stg hA39 (op_move rfl (hA39.ev rfl)) rfl rfl rfl rfl (by decide) fun a40 hA41 => ?_; clear hA39 a38
   refine stwg hA41 (op_call rfl en_33 (ev2 (hA41.ev rfl) (hA41.ev rfl)) (IsPlan_ok _ R _ (hS30.sk 1 rfl) plan _ (hS30.sk 3 rfl) (by omega) (by omega))) rfl rfl rfl rfl (by decide) ?_
   rintro a42 _ w44 ⟨rfl, hE45⟩ hA43; have hS46 := hS30.step hE45; clear hE45 hA41 hS30 a40
   refine st hA43 (op_pick_t rfl (hA43.ev rfl) (hA43.ev rfl)) rfl rfl (by decide) fun a47 hA48 => ?_; clear hA43 a42
   refine st hA48 (op_assign rfl (hA48.ev rfl)) rfl rfl (by decide) fun a49 hA50 => ?_; clear hA48 a47
   refine wl_nil ?_
   refine then_n ?_
   refine c_ret ?_
   refine fin_run hA50 (.inl rfl) (run_results1 hA50 rfl (.tmp rfl)) ?_
   exact ⟨congrArg Value.bool (by unfold readyB; simp [*]), hS46.ext⟩
  ·skip
   rw [decide_eq_false hb37] at hA36
   refine skp hA36 rfl rfl rfl rfl rfl (by decide) fun a51 hA52 => ?_; clear hA36 a35
   refine skp hA52 rfl rfl rfl rfl rfl (by decide) fun a53 hA54 => ?_; clear hA52 a51
   refine skp hA54 rfl rfl rfl rfl rfl (by decide) fun a55 hA56 => ?_; clear hA54 a53
   refine st hA56 (op_pick_f rfl (hA56.ev rfl) (evc _ _)) rfl rfl (by decide) fun a57 hA58 => ?_; clear hA56 a55
   refine st hA58 (op_assign rfl (hA58.ev rfl)) rfl rfl (by decide) fun a59 hA60 => ?_; clear hA58 a57
   refine wl_nil ?_
   refine then_n ?_
   refine c_ret ?_
   refine fin_run hA60 (.inl rfl) (run_results1 hA60 rfl (.tmp rfl)) ?_
   exact ⟨congrArg Value.bool (by unfold readyB; simp [*]), hS30.ext⟩
 ·skip
  rw [hb21] at hA20
  refine skp hA20 rfl rfl rfl rfl rfl (by decide) fun a61 hA62 => ?_; clear hA20 a19
  refine skp hA62 rfl rfl rfl rfl rfl (by decide) fun a63 hA64 => ?_; clear hA62 a61
  refine skp hA64 rfl rfl rfl rfl rfl (by decide) fun a65 hA66 => ?_; clear hA64 a63
  refine skp hA66 rfl rfl rfl rfl rfl (by decide) fun a67 hA68 => ?_; clear hA66 a65
  refine st hA68 (op_pick_f rfl (hA68.ev rfl) (evc _ _)) rfl rfl (by decide) fun a69 hA70 => ?_; clear hA68 a67
  refine st hA70 (op_move rfl (hA70.ev rfl)) rfl rfl (by decide) fun a71 hA72 => ?_; clear hA70 a69
  refine skp hA72 rfl rfl rfl rfl rfl (by decide) fun a73 hA74 => ?_; clear hA72 a71
  refine skp hA74 rfl rfl rfl rfl rfl (by decide) fun a75 hA76 => ?_; clear hA74 a73
  refine skp hA76 rfl rfl rfl rfl rfl (by decide) fun a77 hA78 => ?_; clear hA76 a75
  refine st hA78 (op_pick_f rfl (hA78.ev rfl) (evc _ _)) rfl rfl (by decide) fun a79 hA80 => ?_; clear hA78 a77
  refine st hA80 (op_assign rfl (hA80.ev rfl)) rfl rfl (by decide) fun a81 hA82 => ?_; clear hA80 a79
  refine wl_nil ?_
  refine then_n ?_
  refine c_ret ?_
  refine fin_run hA82 (.inl rfl) (run_results1 hA82 rfl (.tmp rfl)) ?_
  exact ⟨congrArg Value.bool (by unfold readyB; simp [*]), hS18.ext⟩
end Go.Proofs.Ytkkglkdnnfegkaa

namespace Go.Proofs.Ytkkglkdnnfegkaa
open Go.RowKit Go.Eng
def rateAt (R : List (Int × Int)) (l : List Int) (i : Nat) : Bool := (decide ((R.getD i (0, 0)).1 ≤ l.getD i 0) && decide (l.getD i 0 ≤ (R.getD i (0, 0)).2)) && (decide (i = 0) || decide (l.getD (i - 1) 0 ≤ l.getD i 0))
def areB (R : List (Int × Int)) (l : List Int) : Bool := decide (l.length = R.length) && (List.range l.length).all fun i => rateAt R l i
theorem areB_yes {R : List (Int × Int)} {l : List Int} (h : l.length = R.length) (ha : ∀ i, i < l.length → rateAt R l i = true) : areB R l = true := by
  unfold areB; rw [decide_eq_true h, all_yes ha]; rfl
end Go.Proofs.Ytkkglkdnnfegkaa

namespace Go.Proofs.Ytkkglkdnnfegkaa
open Go.RowKit Go.Eng
end Go.Proofs.Ytkkglkdnnfegkaa

namespace Go.Proofs.Ytkkglkdnnfegkaa
open Go.RowKit Go.Eng
theorem areB_is {R : List (Int × Int)} {l : List Int} (h : areB R l = true) : l.length = R.length ∧ ∀ i, i < l.length → rateAt R l i = true := by
  simp only [areB, Bool.and_eq_true, decide_eq_true_eq] at h
  exact ⟨h.1, fun i hi => List.all_eq_true.1 h.2 i (List.mem_range.2 hi)⟩
theorem rateAt_is {R : List (Int × Int)} {l : List Int} {i : Nat} (h : rateAt R l i = true) : ((R.getD i (0, 0)).1 ≤ l.getD i 0 ∧ l.getD i 0 ≤ (R.getD i (0, 0)).2) ∧ (i = 0 ∨ l.getD (i - 1) 0 ≤ l.getD i 0) := by
  simpa only [rateAt, Bool.and_eq_true, Bool.or_eq_true, decide_eq_true_eq] using h
theorem rateAt_of {R : List (Int × Int)} {l : List Int} {i : Nat} (h : ((R.getD i (0, 0)).1 ≤ l.getD i 0 ∧ l.getD i 0 ≤ (R.getD i (0, 0)).2) ∧ (i = 0 ∨ l.getD (i - 1) 0 ≤ l.getD i 0)) : rateAt R l i = true := by
  simpa only [rateAt, Bool.and_eq_true, Bool.or_eq_true, decide_eq_true_eq] using h
theorem getD_takeI {l p : List Int} (h : l.take p.length = p) {i : Nat} (hi : i < p.length) : l.getD i 0 = p.getD i 0 := by
  rw [← take_getD hi, h]
theorem take_ext {l p : List Int} (h : l.take p.length = p) (hl : p.length < l.length) : l.take (p ++ [l.getD p.length 0]).length = p ++ [l.getD p.length 0] := by
  have e : l[p.length]? = some l[p.length] := List.getElem?_eq_getElem hl
  simp only [List.length_append, List.length_cons, List.length_nil, Nat.zero_add]
  rw [List.take_add_one, h, e]
  simp [List.getD, e]
theorem take_of_ext {l p : List Int} {x : Int} (h : l.take (p ++ [x]).length = p ++ [x]) : l.take p.length = p ∧ l.getD p.length 0 = x ∧ p.length < l.length := by
  have hlen : p.length + 1 ≤ l.length := by
    have := congrArg List.length h
    simp only [List.length_take, List.length_append, List.length_cons, List.length_nil] at this
    omega
  refine ⟨?_, ?_, by omega⟩
  · have e := congrArg (List.take p.length) h
    rw [List.take_take, List.length_append, Nat.min_eq_left (Nat.le_add_right ..)] at e
    rw [e]; simp
  · rw [getD_takeI h (i := p.length) (by simp)]; simp [List.getD]
theorem low_is {R : List (Int × Int)} {l p : List Int} (h : l.take p.length = p) : lowF R p p.length = lowF R l p.length := (lowF_take h).symm
theorem rateAt_low {R : List (Int × Int)} {l : List Int} {b : Nat} : rateAt R l b = true ↔ lowF R l b ≤ l.getD b 0 ∧ l.getD b 0 ≤ (R.getD b (0, 0)).2 := by
  constructor
  · intro h
    have := rateAt_is h
    unfold lowF
    split <;> omega
  · intro h
    apply rateAt_of
    unfold lowF at h
    split at h <;> omega
theorem mem_rl {R : List (Int × Int)} : ∀ (m : Nat) (p l : List Int), p.length + m = R.length → (l ∈ rlF R m p ↔ l.take p.length = p ∧ l.length = R.length ∧ ∀ i, p.length ≤ i → i < R.length → rateAt R l i = true)
  | 0, p, l, hb => by
    simp only [rlF, List.mem_singleton]
    constructor
    · rintro rfl
      exact ⟨List.take_length, by omega, fun i h1 h2 => by omega⟩
    · rintro ⟨h1, h2, _⟩
      rw [← h1, List.take_of_length_le (by omega)]
  | m + 1, p, l, hb => by
    simp only [rlF, List.mem_flatMap, List.mem_range]
    constructor
    · rintro ⟨t, ht, hl⟩
      obtain ⟨h1, h2, h3⟩ := (mem_rl m _ l (by simp; omega)).1 hl
      obtain ⟨e1, e2, e3⟩ := take_of_ext h1
      refine ⟨e1, h2, fun i hi hi2 => ?_⟩
      by_cases hp : i = p.length
      · subst hp
        rw [rateAt_low, ← low_is e1, e2]
        unfold cntF at ht; omega
      · exact h3 i (by simp; omega) hi2
    · rintro ⟨h1, h2, h3⟩
      have hr := rateAt_low.1 (h3 p.length (Nat.le_refl _) (by omega))
      rw [← low_is h1] at hr
      have e : lowF R p p.length + (((l.getD p.length 0 - lowF R p p.length).toNat : Nat) : Int) = l.getD p.length 0 := by omega
      refine ⟨(l.getD p.length 0 - lowF R p p.length).toNat, by unfold cntF; omega, ?_⟩
      rw [e]
      exact (mem_rl m _ l (by simp; omega)).2 ⟨take_ext h1 (by omega), h2, fun i hi hi2 => h3 i (by simp at hi; omega) hi2⟩
theorem mem_rlists {R : List (Int × Int)} {l : List Int} : l ∈ rlistsF R ↔ areB R l = true := by
  unfold rlistsF
  rw [mem_rl R.length [] l (by simp)]
  constructor
  · rintro ⟨_, h2, h3⟩
    exact areB_yes h2 (fun i hi => h3 i (Nat.zero_le _) (by omega))
  · intro h
    obtain ⟨h1, h2⟩ := areB_is h
    exact ⟨by simp, h1, fun i _ hi => h2 i (by omega)⟩
theorem mem_rallow {R : List (Int × Int)} {rs : List RunD} {l : List Int} : l ∈ rallowF R rs ↔ areB R l = true ∧ allowB rs l = true := by
  unfold rallowF
  rw [List.mem_filter, mem_rlists]
theorem getD_memL {A : List (List Int)} {k : Nat} (h : k < A.length) : A.getD k [] ∈ A := by
  simp only [List.getD, List.getElem?_eq_getElem h, Option.getD_some]
  exact List.getElem_mem h
theorem allow_take {R : List (Int × Int)} {rs : List RunD} (hR : MatV R) (hV : RunsV R.length rs) {k : Nat} (h : k < (allowedF R rs).length) : areB R (((allowedF R rs).getD k []).take R.length) = true ∧ allowB rs (((allowedF R rs).getD k []).take R.length) = true := by
  have hl := rallow_len hR hV
  rw [← rallow_at hR hV (k := k) (by omega)]
  exact mem_rallow.1 (getD_memL (by omega))
section
variable {plan : List Seg} {A : List (List Int)}
theorem least_mem : ∀ q, 0 < q → ∃ k, k < q ∧ leastF plan A q = A.getD k []
  | q + 1, _ => by
    unfold leastF; split
    · exact ⟨q, by omega, rfl⟩
    · rename_i h
      obtain ⟨k, hk, e⟩ := least_mem q (by omega)
      exact ⟨k, by omega, e⟩
theorem most_mem : ∀ q, 0 < q → ∃ k, k < q ∧ mostF plan A q = A.getD k []
  | q + 1, _ => by
    unfold mostF; split
    · exact ⟨q, by omega, rfl⟩
    · rename_i h
      obtain ⟨k, hk, e⟩ := most_mem q (by omega)
      exact ⟨k, by omega, e⟩
theorem least_le : ∀ q k, k < q → stLo plan (leastF plan A q) ≤ stLo plan (A.getD k [])
  | q + 1, k, hk => by
    unfold leastF; split
    · rename_i h
      by_cases e : k = q
      · subst e; exact Int.le_refl _
      · rcases h with h | h
        · omega
        · have := least_le q k (by omega); omega
    · rename_i h
      by_cases e : k = q
      · subst e; omega
      · exact least_le q k (by omega)
theorem most_ge : ∀ q k, k < q → stHi plan (A.getD k []) ≤ stHi plan (mostF plan A q)
  | q + 1, k, hk => by
    unfold mostF; split
    · rename_i h
      by_cases e : k = q
      · subst e; exact Int.le_refl _
      · rcases h with h | h
        · omega
        · have := most_ge q k (by omega); omega
    · rename_i h
      by_cases e : k = q
      · subst e; omega
      · exact most_ge q k (by omega)
end
section
variable {R : List (Int × Int)} {rs : List RunD} {plan : List Seg} (hR : MatV R) (hV : RunsV R.length rs) (hpos : 0 < (allowedF R rs).length) (hs : ∀ i, i < plan.length → SegV R.length (plan.getD i (0, 0, 0)))
include hR hV hpos hs
omit hs
omit hR hV in
theorem leastR_mem (plan : List Seg) : ∃ k, k < (allowedF R rs).length ∧ leastR R rs plan = (allowedF R rs).getD k [] := least_mem _ hpos
omit hR hV in
theorem mostR_mem (plan : List Seg) : ∃ k, k < (allowedF R rs).length ∧ mostR R rs plan = (allowedF R rs).getD k [] := most_mem _ hpos
end
end Go.Proofs.Ytkkglkdnnfegkaa

namespace Go.Proofs.Ytkkglkdnnfegkaa
open Go.RowKit Go.Eng
def stS (f : Int × Int → Int) (r : List Int) : List Seg → Int
  | [] => 0
  | s :: l => r.getD s.1.toNat 0 * f s.2 + stS f r l
theorem stS_app (f : Int × Int → Int) (r : List Int) : ∀ a b : List Seg, stS f r (a ++ b) = stS f r a + stS f r b
  | [], b => by simp [stS]
  | s :: a, b => by simp only [List.cons_append, stS, stS_app f r a b]; omega
theorem stU_S (f : Int × Int → Int) (r : List Int) (segs : List Seg) : ∀ k, k ≤ segs.length → stU segs r f k = stS f r (segs.take k)
  | 0, _ => by simp [stU, stS]
  | k + 1, h => by
    have e : segs[k]? = some segs[k] := List.getElem?_eq_getElem (by omega)
    have e2 : segs.getD k (0, 0, 0) = segs[k] := by simp [List.getD, e]
    rw [List.take_add_one, e, stS_app, ← stU_S f r segs k (by omega)]
    simp only [stU, e2, Option.toList_some, stS]; omega
theorem lo_S (segs : List Seg) (r : List Int) : stLo segs r = stS Prod.fst r segs := by
  rw [← stU_lo, stU_S _ _ _ _ (Nat.le_refl _), List.take_length]
theorem hi_S (segs : List Seg) (r : List Int) : stHi segs r = stS Prod.snd r segs := by
  rw [← stU_hi, stU_S _ _ _ _ (Nat.le_refl _), List.take_length]
theorem split_at {α : Type} {l : List α} {i : Nat} {d : α} (h : i < l.length) : l = l.take i ++ (l.getD i d :: l.drop (i + 1)) := by
  have e : l[i]? = some l[i] := List.getElem?_eq_getElem h
  simp only [List.getD, e, Option.getD_some]
  rw [← List.drop_eq_getElem_cons h, List.take_append_drop]
def replAt (l : List Seg) (i : Nat) (s : Seg) : List Seg := l.take i ++ [s] ++ l.drop (i + 1)
theorem stS_repl (f : Int × Int → Int) (r : List Int) {l : List Seg} {i : Nat} (h : i < l.length) (s : Seg) : stS f r (replAt l i s) = stS f r l + r.getD s.1.toNat 0 * f s.2 - r.getD (l.getD i (0, 0, 0)).1.toNat 0 * f (l.getD i (0, 0, 0)).2 := by
  unfold replAt
  conv => rhs; rw [split_at (d := ((0, 0, 0) : Seg)) h, stS_app]
  rw [stS_app, stS_app]
  have e : (l.take i ++ (l.getD i (0, 0, 0) :: l.drop (i + 1))).getD i (0, 0, 0) = l.getD i (0, 0, 0) := by rw [← split_at h]
  simp only [e, stS]; omega
theorem getD_setL {α : Type} {l : List α} {k i : Nat} {x d : α} (hk : k < l.length) : (l.set k x).getD i d = if i = k then x else l.getD i d := by
  simp only [List.getD, List.getElem?_set]
  by_cases e : k = i
  · subst e; rw [if_pos rfl, if_pos rfl, if_pos hk]; rfl
  · rw [if_neg e, if_neg (fun h => e h.symm)]
end Go.Proofs.Ytkkglkdnnfegkaa

namespace Go.Proofs.Ytkkglkdnnfegkaa
open Go.RowKit Go.Eng
def Sub (A B : List (List Int)) : Prop := ∀ k, k < A.length → ∃ j, j < B.length ∧ A.getD k [] = B.getD j []
section
variable {R : List (Int × Int)} {rs rs' : List RunD} (hpos : 0 < (allowedF R rs').length) (hsub : Sub (allowedF R rs') (allowedF R rs))
include hpos hsub
end
theorem hours_neg {r s : Int} (hr : 0 ≤ r) (hs : 0 ≤ s) : hoursF r s = -1 ↔ r = 0 ∧ s ≠ 0 := by
  unfold hoursF
  split
  · constructor
    · intro h; omega
    · intro h; exact absurd (by assumption) h.2
  · split
    · constructor
      · intro _; exact ⟨by assumption, by assumption⟩
      · intro _; rfl
    · have := Int.tdiv_nonneg (a := s + r - 1) (b := r) (by omega) (by omega)
      constructor
      · intro h; omega
      · intro h; exact absurd h.1 (by assumption)
theorem hours_ok' {r s : Int} (hr : 0 ≤ r) (hs : 0 ≤ s) (h : 0 ≤ hoursF r s) : s ≤ r * hoursF r s ∧ ∀ n, 0 ≤ n → n < hoursF r s → r * n < s := by
  unfold hoursF at *
  by_cases h0 : s = 0
  · rw [if_pos h0]; exact ⟨by omega, fun n h1 h2 => by omega⟩
  · rw [if_neg h0] at h ⊢
    by_cases h1 : r = 0
    · rw [if_pos h1] at h; omega
    · rw [if_neg h1] at h ⊢
      rw [Int.tdiv_eq_ediv_of_nonneg (by omega)] at h ⊢
      have e := Int.mul_ediv_add_emod (s + r - 1) r
      have e2 := Int.emod_lt_of_pos (s + r - 1) (show 0 < r by omega)
      have e3 := Int.emod_nonneg (s + r - 1) h1
      refine ⟨by omega, fun n h2 h3 => ?_⟩
      have h4 : r * n ≤ r * ((s + r - 1) / r - 1) := Int.mul_le_mul_of_nonneg_left (by omega) hr
      rw [Int.mul_sub] at h4; omega
section
variable {A : List (List Int)} {band : Nat} {s : Int}
def hrs (A : List (List Int)) (band : Nat) (s : Int) (k : Nat) : Int := hoursF ((A.getD k []).getD band 0) s
theorem life_spec (h : ∀ i, -1 ≤ hrs A band s i) : ∀ q, ((lifeU A band s q).2 = true ↔ ∃ k, k < q ∧ hrs A band s k = -1) ∧
    (((lifeU A band s q).1.1 = -1 ∧ (lifeU A band s q).1.2 = -1 ∧ ∀ k, k < q → hrs A band s k = -1) ∨
     (0 ≤ (lifeU A band s q).1.1 ∧ (lifeU A band s q).1.1 ≤ (lifeU A band s q).1.2 ∧ (∀ k, k < q → 0 ≤ hrs A band s k → (lifeU A band s q).1.1 ≤ hrs A band s k ∧ hrs A band s k ≤ (lifeU A band s q).1.2) ∧ (∃ k, k < q ∧ hrs A band s k = (lifeU A band s q).1.1) ∧ (∃ k, k < q ∧ hrs A band s k = (lifeU A band s q).1.2)))
  | 0 => ⟨by simp [lifeU], .inl ⟨rfl, rfl, fun k hk => by omega⟩⟩
  | q + 1 => by
    obtain ⟨i1, i2⟩ := life_spec h q
    have hq := h q
    by_cases hn : hrs A band s q < 0
    · have e := lifeU_neg h hn
      rw [e]
      refine ⟨⟨fun _ => ⟨q, by omega, by omega⟩, fun _ => rfl⟩, ?_⟩
      rcases i2 with ⟨a, b, c⟩ | ⟨a, b, c, ⟨k1, d1, d2⟩, ⟨k2, d3, d4⟩⟩
      · exact .inl ⟨a, b, fun k hk => by
          by_cases e : k = q
          · subst e; omega
          · exact c k (by omega)⟩
      · exact .inr ⟨a, b, fun k hk h0 => by
          by_cases e : k = q
          · subst e; omega
          · exact c k (by omega) h0, ⟨k1, by omega, d2⟩, ⟨k2, by omega, d4⟩⟩
    · have e : lifeU A band s (q + 1) = (((if (lifeU A band s q).1.1 < 0 ∨ hrs A band s q < (lifeU A band s q).1.1 then hrs A band s q else (lifeU A band s q).1.1), max (lifeU A band s q).1.2 (hrs A band s q)), (lifeU A band s q).2) := lifeU_lo h hn
      rw [e]
      refine ⟨⟨fun hh => by obtain ⟨k, hk, e⟩ := i1.1 hh; exact ⟨k, by omega, e⟩, fun ⟨k, hk, e2⟩ => i1.2 ⟨k, by
        have : k ≠ q := fun hh => by subst hh; omega
        omega, e2⟩⟩, .inr ?_⟩
      simp only
      have hb : ∀ k, k < q + 1 → k = q ∨ k < q := fun k hk => by omega
      rcases i2 with ⟨a, b, c⟩ | ⟨a, b, c, ⟨k1, d1, d2⟩, ⟨k2, d3, d4⟩⟩
      · rw [if_pos (.inl (by omega)), b, Int.max_eq_right (by omega)]
        refine ⟨by omega, by omega, fun k hk h0 => ?_, ⟨q, by omega, rfl⟩, ⟨q, by omega, rfl⟩⟩
        rcases hb k hk with rfl | hk
        · omega
        · have := c k hk; omega
      · by_cases hc : hrs A band s q < (lifeU A band s q).1.1
        · rw [if_pos (.inr hc), Int.max_eq_left (by omega)]
          refine ⟨by omega, by omega, fun k hk h0 => ?_, ⟨q, by omega, rfl⟩, ⟨k2, by omega, d4⟩⟩
          rcases hb k hk with rfl | hk
          · omega
          · have := c k hk h0; omega
        · rw [if_neg (by omega)]
          by_cases hc2 : hrs A band s q ≤ (lifeU A band s q).1.2
          · rw [Int.max_eq_left hc2]
            refine ⟨by omega, by omega, fun k hk h0 => ?_, ⟨k1, by omega, d2⟩, ⟨k2, by omega, d4⟩⟩
            rcases hb k hk with rfl | hk
            · omega
            · exact c k hk h0
          · rw [Int.max_eq_right (by omega)]
            refine ⟨by omega, by omega, fun k hk h0 => ?_, ⟨k1, by omega, d2⟩, ⟨q, by omega, rfl⟩⟩
            rcases hb k hk with rfl | hk
            · omega
            · have := c k hk h0; omega
structure LifeV (A : List (List Int)) (band : Nat) (s : Int) (x : Int × Int) : Prop where
  all : ∀ k, k < A.length → 0 ≤ hrs A band s k → 0 ≤ x.1 ∧ x.1 ≤ hrs A band s k ∧ (x.2 = -1 ∨ hrs A band s k ≤ x.2)
  nev : ∀ k, k < A.length → hrs A band s k = -1 → x.2 = -1
  lo : x.1 = -1 ∨ ∃ k, k < A.length ∧ hrs A band s k = x.1 ∧ 0 ≤ x.1
  hi : (x.2 = -1 ∧ ((∃ k, k < A.length ∧ hrs A band s k = -1) ∨ A.length = 0)) ∨ (∃ k, k < A.length ∧ hrs A band s k = x.2 ∧ 0 ≤ x.2) ∧ (∀ k, k < A.length → 0 ≤ hrs A band s k) ∧ 0 ≤ x.1 ∧ x.1 ≤ x.2
theorem life_is (h : ∀ i, -1 ≤ hrs A band s i) : LifeV A band s (lifeR A band s) := by
  obtain ⟨i1, i2⟩ := life_spec h A.length
  unfold lifeR
  by_cases hn : (lifeU A band s A.length).2 = true
  · rw [if_pos hn]
    rcases i2 with ⟨a, b, c⟩ | ⟨a, b, c, ⟨k1, d1, d2⟩, _⟩
    · exact ⟨fun k hk h0 => by have := c k hk; omega, fun _ _ _ => rfl, .inl a, .inl ⟨rfl, .inl (i1.1 hn)⟩⟩
    · exact ⟨fun k hk h0 => ⟨a, (c k hk h0).1, .inl rfl⟩, fun _ _ _ => rfl, .inr ⟨k1, d1, d2, a⟩, .inl ⟨rfl, .inl (i1.1 hn)⟩⟩
  · rw [if_neg hn]
    have hno : ∀ k, k < A.length → 0 ≤ hrs A band s k := fun k hk => by
      have h1 := h k
      by_cases e : hrs A band s k = -1
      · exact absurd (i1.2 ⟨k, hk, e⟩) hn
      · omega
    rcases i2 with ⟨a, b, c⟩ | ⟨a, b, c, ⟨k1, d1, d2⟩, ⟨k2, d3, d4⟩⟩
    · exact ⟨fun k hk h0 => by have := c k hk; omega, fun k hk e => by have := hno k hk; omega, .inl a, .inl ⟨b, .inr (by
        by_cases e : A.length = 0
        · exact e
        · have h1 := c 0 (by omega); have h2 := hno 0 (by omega); omega)⟩⟩
    · exact ⟨fun k hk h0 => ⟨a, (c k hk h0).1, .inr (c k hk h0).2⟩, fun k hk e => by have := hno k hk; omega, .inr ⟨k1, d1, d2, a⟩, .inr ⟨⟨k2, d3, d4, by simp only; omega⟩, hno, a, b⟩⟩
end
end Go.Proofs.Ytkkglkdnnfegkaa

namespace Go.Proofs.Ytkkglkdnnfegkaa
open Go.RowKit Go.Eng
theorem poss_09 {R : List (Int × Int)} {rs : List RunD} (he : enterF R rs = 0) : possF R rs = 0 ∨ possF R rs = 9 := by
  by_cases h : (allowedF R rs).length = 0
  · exact .inr (poss_9 he h)
  · exact .inl (poss_0 he (by omega))
end Go.Proofs.Ytkkglkdnnfegkaa

namespace Go.Proofs.Ytkkglkdnnfegkaa
open Go.RowKit Go.Eng
theorem plan1 {R : List (Int × Int)} {rs : List RunD} {b : Nat} {x : Int} (hc : possF R rs = 0) (hb : b < R.length) (h0 : 0 ≤ x) (h1 : x ≤ 1000000) : planF R rs [((b : Int), x, x)] = 0 := by
  refine plan_0 hc (by simp) ?_
  simp only [allSegB, List.all_eq_true, List.mem_range, List.length_cons, List.length_nil]
  intro i hi
  obtain rfl : i = 0 := by omega
  simp only [segB, uptoB, List.getD_cons_zero, Bool.and_eq_true, decide_eq_true_eq]
  omega
theorem st1_lo (b : Nat) (x y : Int) (r : List Int) : stLo [((b : Int), x, y)] r = r.getD b 0 * x := by rw [lo_S]; simp [stS]
theorem st1_hi (b : Nat) (x y : Int) (r : List Int) : stHi [((b : Int), x, y)] r = r.getD b 0 * y := by rw [hi_S]; simp [stS]
section
variable {R : List (Int × Int)} {rs : List RunD} {b : Nat} {s : Int} (hR : MatV R) (hpos : 0 < (allowedF R rs).length) (hs : 0 ≤ s ∧ s ≤ 4294967295)
include hR in
theorem al_bd (k : Nat) (hk : k < (allowedF R rs).length) : 0 ≤ ((allowedF R rs).getD k []).getD b 0 ∧ ((allowedF R rs).getD k []).getD b 0 ≤ 1000 := (allowed_rates hR hk).1.2 b
include hR hs in
theorem hrs_ge (i : Nat) : -1 ≤ hrs (allowedF R rs) b s i := by
  by_cases hi : i < (allowedF R rs).length
  · exact hours_ge (al_bd hR i hi).1 hs.1
  · have : (allowedF R rs).getD i [] = [] := by simp [List.getD, List.getElem?_eq_none (Nat.le_of_not_lt hi)]
    show -1 ≤ hoursF _ _
    rw [this]; exact hours_ge (by simp) hs.1
theorem hours_le {r : Int} (hr : 0 ≤ r ∧ r ≤ 1000) (hs : 0 ≤ s ∧ s ≤ 4294967295) : hoursF r s ≤ 5000000000 := by
  unfold hoursF
  split
  · omega
  · split
    · omega
    · have := Int.tdiv_le_self r (show 0 ≤ s + r - 1 by omega)
      omega
include hR hs in
theorem life_v : LifeV (allowedF R rs) b s (lifeR (allowedF R rs) b s) := life_is (hrs_ge hR hs)
include hR hs in
theorem life_bd : (-1 ≤ (lifeR (allowedF R rs) b s).1 ∧ (lifeR (allowedF R rs) b s).1 ≤ 5000000000) ∧ -1 ≤ (lifeR (allowedF R rs) b s).2 ∧ (lifeR (allowedF R rs) b s).2 ≤ 5000000000 ∧ ((lifeR (allowedF R rs) b s).2 = -1 ∨ (0 ≤ (lifeR (allowedF R rs) b s).1 ∧ (lifeR (allowedF R rs) b s).1 ≤ (lifeR (allowedF R rs) b s).2)) := by
  have h := life_v (rs := rs) (b := b) hR hs
  have hle : ∀ k, k < (allowedF R rs).length → hrs (allowedF R rs) b s k ≤ 5000000000 := fun k hk => hours_le (al_bd hR k hk) hs
  refine ⟨?_, ?_⟩
  · rcases h.lo with e | ⟨k, hk, e, h0⟩
    · omega
    · have := hle k hk; omega
  · rcases h.hi with ⟨e, _⟩ | ⟨⟨k, hk, e, h0⟩, _, h1, h2⟩
    · exact ⟨by omega, by omega, .inl e⟩
    · have := hle k hk; exact ⟨by omega, by omega, .inr ⟨h1, h2⟩⟩
include hR hs hpos in
theorem life_hi (h2 : ¬ (lifeR (allowedF R rs) b s).2 = -1) : s ≤ stLo [((b : Int), (lifeR (allowedF R rs) b s).2, (lifeR (allowedF R rs) b s).2)] (leastR R rs [((b : Int), (lifeR (allowedF R rs) b s).2, (lifeR (allowedF R rs) b s).2)]) := by
  have h := life_v (rs := rs) (b := b) hR hs
  rw [st1_lo]
  obtain ⟨k, hk, e⟩ := leastR_mem hpos [((b : Int), (lifeR (allowedF R rs) b s).2, (lifeR (allowedF R rs) b s).2)]
  rw [e]
  rcases h.hi with ⟨e, _⟩ | ⟨_, hall, _, _⟩
  · exact absurd e h2
  · have a := hall k hk
    have c := (h.all k hk a).2.2.resolve_left h2
    have hb := al_bd (b := b) hR k hk
    have d := (hours_ok' hb.1 hs.1 a).1
    exact Int.le_trans d (Int.mul_le_mul_of_nonneg_left c hb.1)
include hR hs hpos in
theorem life_lo (h0 : 0 ≤ (lifeR (allowedF R rs) b s).1 - 1) : stHi [((b : Int), (lifeR (allowedF R rs) b s).1 - 1, (lifeR (allowedF R rs) b s).1 - 1)] (mostR R rs [((b : Int), (lifeR (allowedF R rs) b s).1 - 1, (lifeR (allowedF R rs) b s).1 - 1)]) < s := by
  have h := life_v (rs := rs) (b := b) hR hs
  rw [st1_hi]
  obtain ⟨k, hk, e⟩ := mostR_mem hpos [((b : Int), (lifeR (allowedF R rs) b s).1 - 1, (lifeR (allowedF R rs) b s).1 - 1)]
  rw [e]
  have hb := al_bd (b := b) hR k hk
  by_cases a : 0 ≤ hrs (allowedF R rs) b s k
  · have c := (h.all k hk a).2.1
    exact (hours_ok' hb.1 hs.1 a).2 _ h0 (by show _ < hrs (allowedF R rs) b s k; omega)
  · have a2 : hrs (allowedF R rs) b s k = -1 := by have := hrs_ge (rs := rs) (b := b) hR hs k; omega
    obtain ⟨e1, e2⟩ := (hours_neg hb.1 hs.1).1 a2
    rw [e1, Int.zero_mul]; omega
end
theorem rem_nat {n : Int} {m : Nat} (h0 : 0 ≤ n) (hm : 0 < m) : ∃ b : Nat, n.tmod (m : Int) = (b : Int) ∧ b < m := by
  have h1 := Int.tmod_nonneg (m : Int) h0
  have h2 := Int.tmod_lt_of_pos n (show (0 : Int) < (m : Int) by omega)
  exact ⟨(n.tmod (m : Int)).toNat, by omega, by omega⟩
end Go.Proofs.Ytkkglkdnnfegkaa

namespace Go.Proofs.Ytkkglkdnnfegkaa
open Go.RowKit Go.Eng
theorem set_repl {l : List Seg} {i : Nat} (h : i < l.length) (s : Seg) : l.set i s = replAt l i s := by
  unfold replAt
  rw [List.set_eq_take_append_cons_drop, if_pos h, List.append_assoc]; rfl
theorem stS_set (f : Int × Int → Int) (r : List Int) {l : List Seg} {i : Nat} (h : i < l.length) (s : Seg) : stS f r (l.set i s) = stS f r l + r.getD s.1.toNat 0 * f s.2 - r.getD (l.getD i (0, 0, 0)).1.toNat 0 * f (l.getD i (0, 0, 0)).2 := by
  rw [set_repl h, stS_repl f r h]
theorem trips_setAt : ∀ (xs : List Seg) (i : Nat) (h : i < xs.length) (v : Int), setFrom (trips xs) (i * 3) [.int .i64 v] = trips (xs.set i (v, (xs.getD i (0, 0, 0)).2.1, (xs.getD i (0, 0, 0)).2.2)) ∧ setFrom (trips xs) (i * 3 + 1) [.int .i64 v] = trips (xs.set i ((xs.getD i (0, 0, 0)).1, v, (xs.getD i (0, 0, 0)).2.2)) ∧ setFrom (trips xs) (i * 3 + 2) [.int .i64 v] = trips (xs.set i ((xs.getD i (0, 0, 0)).1, (xs.getD i (0, 0, 0)).2.1, v))
  | x :: xs, 0, _, v => ⟨rfl, rfl, rfl⟩
  | x :: xs, i + 1, h, v => by
    obtain ⟨h1, h2, h3⟩ := trips_setAt xs i (by simpa using h) v
    simp only [setFrom_one] at h1 h2 h3 ⊢
    have e : ∀ j u, (trips (x :: xs)).set ((i + 1) * 3 + j) u = .int .i64 x.1 :: .int .i64 x.2.1 :: .int .i64 x.2.2 :: (trips xs).set (i * 3 + j) u := fun j u => by
      rw [trips_cons, show (i + 1) * 3 + j = (i * 3 + j) + 1 + 1 + 1 by omega]; rfl
    refine ⟨?_, ?_, ?_⟩
    · have := e 0 (.int .i64 v); simp only [Nat.add_zero] at this
      rw [this, h1]; rfl
    · rw [e 1, h2]; rfl
    · rw [e 2, h3]; rfl
def long1 (plan : List Seg) (k : Nat) (y : Int) : List Seg := plan.set k ((plan.getD k (0, 0, 0)).1, (plan.getD k (0, 0, 0)).2.1, min 1000000 ((plan.getD k (0, 0, 0)).2.2 + y))
def longF (plan : List Seg) (k : Nat) (y : Int) : List Seg := plan.set k ((plan.getD k (0, 0, 0)).1, min (min 1000000 ((plan.getD k (0, 0, 0)).2.2 + y)) ((plan.getD k (0, 0, 0)).2.1 + y.tdiv 2), min 1000000 ((plan.getD k (0, 0, 0)).2.2 + y))
def hotF (plan : List Seg) (n k : Nat) : List Seg := plan.set k (min ((n : Int) - 1) ((plan.getD k (0, 0, 0)).1 + 1), (plan.getD k (0, 0, 0)).2.1, (plan.getD k (0, 0, 0)).2.2)
section
variable {plan : List Seg} {k : Nat} {y : Int} (hk : k < plan.length)
include hk
theorem long1_at : (long1 plan k y).getD k (0, 0, 0) = ((plan.getD k (0, 0, 0)).1, (plan.getD k (0, 0, 0)).2.1, min 1000000 ((plan.getD k (0, 0, 0)).2.2 + y)) := by
  unfold long1; rw [getD_setL hk, if_pos rfl]
theorem long1_f : ((long1 plan k y).getD k (0, 0, 0)).2.1 = (plan.getD k (0, 0, 0)).2.1 ∧ ((long1 plan k y).getD k (0, 0, 0)).2.2 = min 1000000 ((plan.getD k (0, 0, 0)).2.2 + y) := by
  rw [long1_at hk]; exact ⟨rfl, rfl⟩
theorem longF_of : (long1 plan k y).set k (((long1 plan k y).getD k (0, 0, 0)).1, min ((long1 plan k y).getD k (0, 0, 0)).2.2 (((long1 plan k y).getD k (0, 0, 0)).2.1 + y.tdiv 2), ((long1 plan k y).getD k (0, 0, 0)).2.2) = longF plan k y := by
  rw [long1_at hk]; unfold long1 longF; rw [List.set_set]
end
theorem long1_len (plan : List Seg) (k : Nat) (y : Int) : (long1 plan k y).length = plan.length := by simp [long1]
theorem longF_len (plan : List Seg) (k : Nat) (y : Int) : (longF plan k y).length = plan.length := by simp [longF]
theorem hotF_len (plan : List Seg) (n k : Nat) : (hotF plan n k).length = plan.length := by simp [hotF]
theorem segB_of {n : Nat} {s : Seg} (h : SegV n s) : segB n s = true := by
  have h1 := h.b; have h2 := h.h
  simp only [segB, uptoB, Bool.and_eq_true, decide_eq_true_eq]; omega
theorem all_set {n : Nat} {plan : List Seg} {k : Nat} {s : Seg} (hk : k < plan.length) (hs : ∀ i, i < plan.length → SegV n (plan.getD i (0, 0, 0))) (h : SegV n s) : allSegB n (plan.set k s) = true := by
  refine all_yes fun i hi => ?_
  rw [getD_setL hk]
  rw [List.length_set] at hi
  split
  · exact segB_of h
  · exact segB_of (hs i hi)
section
variable {R : List (Int × Int)} {rs : List RunD} {plan : List Seg} {k : Nat} {y : Int} (hR : MatV R) (hR1 : 1 ≤ R.length) (hk : k < plan.length) (hp8 : plan.length ≤ 8) (hs : ∀ i, i < plan.length → SegV R.length (plan.getD i (0, 0, 0))) (hy : 0 ≤ y ∧ y ≤ 65535)
include hk hp8 hs hy in
theorem long_ok (hc : possF R rs = 0) : planF R rs (longF plan k y) = 0 := by
  have h := (hs k hk).h; have hb := (hs k hk).b
  have hd : y.tdiv 2 = y / 2 := Int.tdiv_eq_ediv_of_nonneg hy.1
  exact plan_0 hc (by rw [longF_len]; exact hp8) (all_set hk hs ⟨hb, by simp only; omega⟩)
include hk hp8 hs hR1 in
theorem hotter_ok (hc : possF R rs = 0) : planF R rs (hotF plan R.length k) = 0 := by
  have h := (hs k hk).h; have hb := (hs k hk).b
  exact plan_0 hc (by rw [hotF_len]; exact hp8) (all_set hk hs ⟨by simp only; omega, h⟩)
theorem one_ok {i : Nat} (hi : i < plan.length) (hs : ∀ i, i < plan.length → SegV R.length (plan.getD i (0, 0, 0))) (hc : possF R rs = 0) : planF R rs [plan.getD i (0, 0, 0)] = 0 := by
  refine plan_0 hc (by simp) (all_yes fun j hj => ?_)
  simp only [List.length_cons, List.length_nil] at hj
  obtain rfl : j = 0 := by omega
  exact segB_of (hs i hi)
theorem ends_mono {p q : List Seg} (hpos : 0 < (allowedF R rs).length) (h : ∀ k, k < (allowedF R rs).length → stLo p ((allowedF R rs).getD k []) ≤ stLo q ((allowedF R rs).getD k []) ∧ stHi p ((allowedF R rs).getD k []) ≤ stHi q ((allowedF R rs).getD k [])) :
    stLo p (leastR R rs p) ≤ stLo q (leastR R rs q) ∧ stHi p (mostR R rs p) ≤ stHi q (mostR R rs q) := by
  obtain ⟨k1, h1, e1⟩ := leastR_mem hpos q
  obtain ⟨k2, h2, e2⟩ := mostR_mem hpos p
  rw [e1, e2]
  exact ⟨Int.le_trans (least_le _ _ h1) (h k1 h1).1, Int.le_trans (h k2 h2).2 (most_ge _ _ h2)⟩
include hR hk hs hy in
theorem long_ge (hpos : 0 < (allowedF R rs).length) : stLo plan (leastR R rs plan) ≤ stLo (longF plan k y) (leastR R rs (longF plan k y)) ∧ stHi plan (mostR R rs plan) ≤ stHi (longF plan k y) (mostR R rs (longF plan k y)) := by
  refine ends_mono hpos fun j hj => ?_
  have hr := (allowed_rates hR hj).1.2 (plan.getD k (0, 0, 0)).1.toNat
  have h := (hs k hk).h
  have hd : y.tdiv 2 = y / 2 := Int.tdiv_eq_ediv_of_nonneg hy.1
  rw [lo_S, lo_S, hi_S, hi_S]
  unfold longF
  rw [stS_set _ _ hk, stS_set _ _ hk]
  have m1 := Int.mul_le_mul_of_nonneg_left (show (plan.getD k (0, 0, 0)).2.1 ≤ min (min 1000000 ((plan.getD k (0, 0, 0)).2.2 + y)) ((plan.getD k (0, 0, 0)).2.1 + y.tdiv 2) by omega) hr.1
  have m2 := Int.mul_le_mul_of_nonneg_left (show (plan.getD k (0, 0, 0)).2.2 ≤ min 1000000 ((plan.getD k (0, 0, 0)).2.2 + y) by omega) hr.1
  simp only
  omega
include hR hk hs in
theorem hot_ge (hV : RunsV R.length rs) (hpos : 0 < (allowedF R rs).length) : stLo plan (leastR R rs plan) ≤ stLo (hotF plan R.length k) (leastR R rs (hotF plan R.length k)) ∧ stHi plan (mostR R rs plan) ≤ stHi (hotF plan R.length k) (mostR R rs (hotF plan R.length k)) := by
  refine ends_mono hpos fun j hj => ?_
  have h := (hs k hk).h; have hb := (hs k hk).b
  have har := allow_take hR hV hj
  have hup : ((allowedF R rs).getD j []).getD (plan.getD k (0, 0, 0)).1.toNat 0 ≤ ((allowedF R rs).getD j []).getD (min ((R.length : Int) - 1) ((plan.getD k (0, 0, 0)).1 + 1)).toNat 0 := by
    by_cases e : (plan.getD k (0, 0, 0)).1 = (R.length : Int) - 1
    · rw [show min ((R.length : Int) - 1) ((plan.getD k (0, 0, 0)).1 + 1) = (plan.getD k (0, 0, 0)).1 by omega]; exact Int.le_refl _
    · rw [show (min ((R.length : Int) - 1) ((plan.getD k (0, 0, 0)).1 + 1)).toNat = (plan.getD k (0, 0, 0)).1.toNat + 1 by omega]
      have hl := (areB_is har.1).1
      have := rateAt_is ((areB_is har.1).2 ((plan.getD k (0, 0, 0)).1.toNat + 1) (by omega))
      rw [take_getD (by omega), Nat.add_sub_cancel, take_getD (by omega)] at this
      omega
  rw [lo_S, lo_S, hi_S, hi_S]
  unfold hotF
  rw [stS_set _ _ hk, stS_set _ _ hk]
  have m1 := Int.mul_le_mul_of_nonneg_right hup h.1
  have m2 := Int.mul_le_mul_of_nonneg_right hup (show 0 ≤ (plan.getD k (0, 0, 0)).2.2 by omega)
  simp only
  omega
end
def sumP (R : List (Int × Int)) (rs : List RunD) (plan : List Seg) : Nat → Int × Int
  | 0 => (0, 0)
  | i + 1 => ((sumP R rs plan i).1 + stLo [plan.getD i (0, 0, 0)] (leastR R rs [plan.getD i (0, 0, 0)]), (sumP R rs plan i).2 + stHi [plan.getD i (0, 0, 0)] (mostR R rs [plan.getD i (0, 0, 0)]))
section
variable {R : List (Int × Int)} {rs : List RunD} {plan : List Seg} (hR : MatV R) (hpos : 0 < (allowedF R rs).length) (hs : ∀ i, i < plan.length → SegV R.length (plan.getD i (0, 0, 0)))
theorem one_S (f : Int × Int → Int) (r : List Int) (s : Seg) : stS f r [s] = r.getD s.1.toNat 0 * f s.2 := by simp [stS]
include hR hs in
theorem one_bd {i : Nat} (hi : i < plan.length) : (0 ≤ stLo [plan.getD i (0, 0, 0)] (leastR R rs [plan.getD i (0, 0, 0)]) ∧ stLo [plan.getD i (0, 0, 0)] (leastR R rs [plan.getD i (0, 0, 0)]) ≤ 1000000000) ∧ (0 ≤ stHi [plan.getD i (0, 0, 0)] (mostR R rs [plan.getD i (0, 0, 0)]) ∧ stHi [plan.getD i (0, 0, 0)] (mostR R rs [plan.getD i (0, 0, 0)]) ≤ 1000000000) := by
  have h := (hs i hi).h
  rw [lo_S, hi_S, one_S, one_S]
  exact ⟨mul_bd ((leastR_rates hR).2 _) (by omega), mul_bd ((mostR_rates hR).2 _) (by omega)⟩
include hR hs in
theorem sumP_bd : ∀ k, k ≤ plan.length → (0 ≤ (sumP R rs plan k).1 ∧ (sumP R rs plan k).1 ≤ 1000000000 * (k : Int)) ∧ (0 ≤ (sumP R rs plan k).2 ∧ (sumP R rs plan k).2 ≤ 1000000000 * (k : Int))
  | 0, _ => by simp [sumP]
  | k + 1, h => by
    have ih := sumP_bd k (by omega)
    have h1 := one_bd (rs := rs) hR hs (i := k) (by omega)
    simp only [sumP]; omega
theorem sumP_le : ∀ k, k ≤ plan.length → (∀ j, j < (allowedF R rs).length → (sumP R rs plan k).1 ≤ stS Prod.fst ((allowedF R rs).getD j []) (plan.take k) ∧ stS Prod.snd ((allowedF R rs).getD j []) (plan.take k) ≤ (sumP R rs plan k).2)
  | 0, _, j, hj => by simp [sumP, stS]
  | k + 1, h, j, hj => by
    have ih := sumP_le k (by omega) j hj
    have e : plan[k]? = some plan[k] := List.getElem?_eq_getElem (by omega)
    have e2 : plan.getD k (0, 0, 0) = plan[k] := by simp [List.getD, e]
    have a := least_le (plan := [plan.getD k (0, 0, 0)]) (A := allowedF R rs) _ j hj
    have b := most_ge (plan := [plan.getD k (0, 0, 0)]) (A := allowedF R rs) _ j hj
    rw [lo_S _ ((allowedF R rs).getD j [])] at a
    rw [hi_S _ ((allowedF R rs).getD j [])] at b
    rw [List.take_add_one, e, Option.toList_some, stS_app, stS_app, ← e2]
    simp only [sumP]
    have a2 : stLo [plan.getD k (0, 0, 0)] (leastR R rs [plan.getD k (0, 0, 0)]) ≤ stS Prod.fst ((allowedF R rs).getD j []) [plan.getD k (0, 0, 0)] := a
    have b2 : stS Prod.snd ((allowedF R rs).getD j []) [plan.getD k (0, 0, 0)] ≤ stHi [plan.getD k (0, 0, 0)] (mostR R rs [plan.getD k (0, 0, 0)]) := b
    omega
include hpos in
theorem sum_ends {k : Nat} (hk : k = plan.length) : (sumP R rs plan k).1 ≤ stLo plan (leastR R rs plan) ∧ stHi plan (mostR R rs plan) ≤ (sumP R rs plan k).2 := by
  subst hk
  obtain ⟨k1, h1, e1⟩ := leastR_mem hpos plan
  obtain ⟨k2, h2, e2⟩ := mostR_mem hpos plan
  rw [e1, e2, lo_S, hi_S]
  have a := (sumP_le (R := R) (rs := rs) (plan := plan) plan.length (Nat.le_refl _) k1 h1).1
  have b := (sumP_le (R := R) (rs := rs) (plan := plan) plan.length (Nat.le_refl _) k2 h2).2
  rw [List.take_length] at a b
  exact ⟨a, b⟩
end
theorem trips_cut1 {xs : List Seg} {i : Nat} (h : i < xs.length) : ((trips xs).drop (i * 3)).take ((i + 1 - i) * 3) = trips [xs.getD i (0, 0, 0)] := by
  rw [Nat.add_sub_cancel_left, Nat.one_mul, trips_all h]; rfl
end Go.Proofs.Ytkkglkdnnfegkaa
