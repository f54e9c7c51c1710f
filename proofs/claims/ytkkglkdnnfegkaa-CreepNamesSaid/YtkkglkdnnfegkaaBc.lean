/-
  The ranges of rates: as the program makes them, and as the statement does.
  Lives, as the reference tells them.
  Rates that are some of a material.
  Rates of a list, as an array.
  Lists of rates: which they are; the ends of a stretch.
  Stretches as sums; segments that are cut; what all runs allow.
  Ranges of rates, stretches and lives, as bounds that are reached.
  The rates that are shown for an end of a stretch; lists that are cut.
  Runs that are copied and changed: the structs in new memory, the segments where they were.
  Lives and the stretches of plans of one segment; longer and hotter plans.
  Longer and hotter plans; plans in parts.
  One more run; runs one of whose segments is cut.
  The doubtful runs: lists of numbers by size, what covers a list of rates' faults, the first list that does.
  Runs but some; how many are doubtful.
  The chapter's examples and errors, computed; runs that are all zero.
-/
import Derived.Test.YtkkglkdnnfegkaaBb
import Derived.Test.YtkkglkdnnfegkaaEngb
import Derived.Test.YtkkglkdnnfegkaaEnga
set_option linter.unusedSimpArgs false
set_option linter.unusedVariables false
namespace Go.Proofs.Ytkkglkdnnfegkaa
open Go.RowKit Go.Shelf Go.Eng
theorem en_31 : ∀ args w, (callFunc 31 args).run Try.prog w = .ok (.enter 31 args) w := enters_of Try.func31 (by kernel_rfl) rfl
theorem bs_42_2_0iia_1iia (x0_0 : Int) (x0_1 : Int) (x1_0 : Int) (x1_1 : Int) : Instr.fill (fun i => some (i * 2, 2)) ((Array.range (2 * 2)).map ((Value.agg #[(Value.int .i64 0), (Value.int .i64 0)]).cells[· % (Value.agg #[(Value.int .i64 0), (Value.int .i64 0)]).cells.size]!)) [(0, .agg #[(.int .i64 x0_0), (.int .i64 x0_1)]), (1, .agg #[(.int .i64 x1_0), (.int .i64 x1_1)])] = some (([(.int .i64 x0_0), (.int .i64 x0_1), (.int .i64 x1_0), (.int .i64 x1_1)] : List Value).toArray) := by kernel_rfl
theorem bd_33_0s (x0_0 : Value) (hx0_0 : IsSl x0_0) (w : World) : (Instr.build 33 #[(0, x0_0)]).run Try.prog w = .ok (.agg #[x0_0]) w := by obtain ⟨Ax0_0, Bx0_0, Cx0_0, rfl⟩ := hx0_0; kernel_rfl
theorem bs_67_2_0iiia_1iiia (x0_0 : Int) (x0_1 : Int) (x0_2 : Int) (x1_0 : Int) (x1_1 : Int) (x1_2 : Int) : Instr.fill (fun i => some (i * 3, 3)) ((Array.range (2 * 3)).map ((Value.agg #[(Value.int .i64 0), (Value.int .i64 0), (Value.int .i64 0)]).cells[· % (Value.agg #[(Value.int .i64 0), (Value.int .i64 0), (Value.int .i64 0)]).cells.size]!)) [(0, .agg #[(.int .i64 x0_0), (.int .i64 x0_1), (.int .i64 x0_2)]), (1, .agg #[(.int .i64 x1_0), (.int .i64 x1_1), (.int .i64 x1_2)])] = some (([(.int .i64 x0_0), (.int .i64 x0_1), (.int .i64 x0_2), (.int .i64 x1_0), (.int .i64 x1_1), (.int .i64 x1_2)] : List Value).toArray) := by kernel_rfl
theorem bs_96_2_0viia_1viia (x0_0 : Value) (x0_1 : Int) (x0_2 : Int) (x1_0 : Value) (x1_1 : Int) (x1_2 : Int) : Instr.fill (fun i => some (i * 3, 3)) ((Array.range (2 * 3)).map ((Value.agg #[(Value.slice none 0 0), (Value.int .i64 0), (Value.int .i64 0)]).cells[· % (Value.agg #[(Value.slice none 0 0), (Value.int .i64 0), (Value.int .i64 0)]).cells.size]!)) [(0, .agg #[x0_0, (.int .i64 x0_1), (.int .i64 x0_2)]), (1, .agg #[x1_0, (.int .i64 x1_1), (.int .i64 x1_2)])] = some (([x0_0, (.int .i64 x0_1), (.int .i64 x0_2), x1_0, (.int .i64 x1_1), (.int .i64 x1_2)] : List Value).toArray) := by kernel_rfl
theorem hot_ok (w : World) :
  Calls Try.prog 51 #[] w (Ret fun v w' => ∃ u, v = .agg #[u] ∧ Sep NoB w w' [row u 42 2 2 (pairs hotR)]) := by
 refine calls_enter Try.func51 rfl fun a0 hA0 => ?_
 replace hA0 : Fr 5 [] [] a0 := hA0
 have hS0 : Sep NoB w w [] := Sep.start _ _
 refine c_seq ?_
 refine c_region ?_
 refine stw hA0 (op_alloc hS0 rfl ze_33 (cs := [(Value.slice none 0 0)]) rfl) rfl rfl (by decide) ?_
 rintro a1 _ w3 ⟨b4, rfl, hS5⟩ hA2; clear hA0 hS0 a0
 refine wl_nil ?_
 refine then_n ?_
 refine c_seq ?_
 refine c_region ?_
 refine stw hA2 (op_call rfl en_31 (ev2 (evc _ _) (evc _ _)) (between_ok _ _ _)) rfl rfl (by decide) ?_
 rintro a6 _ w8 ⟨rfl, hE9⟩ hA7; have hS10 := hS5.step hE9; clear hE9 hA2 hS5 a1
 refine stw hA7 (op_call rfl en_31 (ev2 (evc _ _) (evc _ _)) (between_ok _ _ _)) rfl rfl (by decide) ?_
 rintro a11 _ w13 ⟨rfl, hE14⟩ hA12; have hS15 := hS10.step hE14; clear hE14 hA7 hS10 a6
 refine stw hA12 (op_buildSlice hS15 rfl (pv2 (hA12.ev rfl) (hA12.ev rfl)) un_28 ty_42 ze_42 (by decide) (cs := [(Value.int .i64 1), (Value.int .i64 3), (Value.int .i64 2), (Value.int .i64 8)]) (bs_42_2_0iia_1iia _ _ _ _)) rfl rfl (by decide) ?_
 rintro a16 _ w18 ⟨b19, rfl, hS20⟩ hA17; clear hA12 hS15 a11
 refine st hA17 (op_build rfl (pv1 (hA17.ev rfl)) (bd_33_0s _ ⟨_, _, _, rfl⟩)) rfl rfl (by decide) fun a21 hA22 => ?_; clear hA17 a16
 refine sts hA22 (op_store hS20 rfl ty_33 (hA22.ev rfl) (hA22.ev rfl) (i := 1) rfl (vs := [(Value.slice (some ⟨b19, 0, none⟩) 2 2)]) rfl rfl (all_c rfl all_n) (Nat.le_of_ble_eq_true rfl)) rfl rfl ?_
 intro _ w23 hS24 hA25; clear hA22
 have hS26 : Sep NoB w w23 [(blk b19 42 [(Value.int .i64 1), (Value.int .i64 3), (Value.int .i64 2), (Value.int .i64 8)]), (blk b4 33 [(Value.slice (some ⟨b19, 0, none⟩) 2 2)])] := hS24; clear hS24 hS20
 refine wl_nil ?_
 refine then_n ?_
 refine c_ret ?_
 refine fin_run hA25 (.inl rfl) (run_results1 hA25 rfl (.cellA rfl ty_33 (hS26.bk 1 rfl) (l := [(Value.slice (some ⟨b19, 0, none⟩) 2 2)]) rfl rfl)) ?_
 have hz : Sep NoB w w23 [blk b19 42 _] := hS26.keep [0] (by decide) _ rfl rfl
 exact ⟨_, rfl, (hz.blk_row (i := 0) (sz := 2) (n := 2) rfl rfl (by decide)).keep [0] (by decide) [row _ 42 2 2 (pairs hotR)] rfl rfl⟩
set_option maxHeartbeats 1000000 in
theorem made_ok (w : World) :
  Calls Try.prog 52 #[] w (Ret fun v w' => ∃ lv, Sep NoB w w' [runsR true v lv madeR]) := by
 refine calls_enter Try.func52 rfl fun a0 hA0 => ?_
 replace hA0 : Fr 14 [] [] a0 := hA0
 have hS0 : Sep NoB w w [] := Sep.start _ _
 refine c_seq ?_
 refine c_region ?_
 refine st hA0 (op_assign rfl (evc _ _)) rfl rfl (by decide) fun a1 hA2 => ?_; clear hA0 a0
 refine wl_nil ?_
 refine then_n ?_
 refine c_seq ?_
 refine c_region ?_
 refine stw hA2 (op_call rfl en_31 (ev2 (evc _ _) (evc _ _)) (between_ok _ _ _)) rfl rfl (by decide) ?_
 rintro a3 _ w5 ⟨rfl, hE6⟩ hA4; have hS7 := hS0.step hE6; clear hE6 hA2 hS0 a1
 refine st hA4 (op_build rfl (pv2 (evc _ _) (hA4.ev rfl)) (bd_67_0i_1iia _ _ _)) rfl rfl (by decide) fun a8 hA9 => ?_; clear hA4 a3
 refine stw hA9 (op_call rfl en_31 (ev2 (evc _ _) (evc _ _)) (between_ok _ _ _)) rfl rfl (by decide) ?_
 rintro a10 _ w12 ⟨rfl, hE13⟩ hA11; have hS14 := hS7.step hE13; clear hE13 hA9 hS7 a8
 refine st hA11 (op_build rfl (pv2 (evc _ _) (hA11.ev rfl)) (bd_67_0i_1iia _ _ _)) rfl rfl (by decide) fun a15 hA16 => ?_; clear hA11 a10
 refine stw hA16 (op_buildSlice hS14 rfl (pv2 (hA16.ev rfl) (hA16.ev rfl)) un_58 ty_67 ze_67 (by decide) (cs := [(Value.int .i64 0), (Value.int .i64 100), (Value.int .i64 100), (Value.int .i64 1), (Value.int .i64 10), (Value.int .i64 10)]) (bs_67_2_0iiia_1iiia _ _ _ _ _ _)) rfl rfl (by decide) ?_
 rintro a17 _ w19 ⟨b20, rfl, hS21⟩ hA18; clear hA16 hS14 a15
 refine stw hA18 (op_call rfl en_31 (ev2 (evc _ _) (evc _ _)) (between_ok _ _ _)) rfl rfl (by decide) ?_
 rintro a22 _ w24 ⟨rfl, hE25⟩ hA23; have hS26 := hS21.step hE25; clear hE25 hA18 hS21 a17
 refine st hA23 (op_build rfl (pv2 (hA23.ev rfl) (hA23.ev rfl)) (bd_96_0s_1iia _ ⟨_, _, _, rfl⟩ _ _)) rfl rfl (by decide) fun a27 hA28 => ?_; clear hA23 a22
 refine stw hA28 (op_call rfl en_31 (ev2 (evc _ _) (evc _ _)) (between_ok _ _ _)) rfl rfl (by decide) ?_
 rintro a29 _ w31 ⟨rfl, hE32⟩ hA30; have hS33 := hS26.step hE32; clear hE32 hA28 hS26 a27
 refine st hA30 (op_build rfl (pv2 (evc _ _) (hA30.ev rfl)) (bd_67_0i_1iia _ _ _)) rfl rfl (by decide) fun a34 hA35 => ?_; clear hA30 a29
 refine stw hA35 (op_buildSlice hS33 rfl (pv1 (hA35.ev rfl)) un_58 ty_67 ze_67 (by decide) (cs := [(Value.int .i64 1), (Value.int .i64 20), (Value.int .i64 30)]) (bs_67_1_0iiia _ _ _)) rfl rfl (by decide) ?_
 rintro a36 _ w38 ⟨b39, rfl, hS40⟩ hA37; clear hA35 hS33 a34
 refine stw hA37 (op_call rfl en_31 (ev2 (evc _ _) (evc _ _)) (between_ok _ _ _)) rfl rfl (by decide) ?_
 rintro a41 _ w43 ⟨rfl, hE44⟩ hA42; have hS45 := hS40.step hE44; clear hE44 hA37 hS40 a36
 refine st hA42 (op_build rfl (pv2 (hA42.ev rfl) (hA42.ev rfl)) (bd_96_0s_1iia _ ⟨_, _, _, rfl⟩ _ _)) rfl rfl (by decide) fun a46 hA47 => ?_; clear hA42 a41
 refine stw hA47 (op_buildSlice hS45 rfl (pv2 (hA47.ev rfl) (hA47.ev rfl)) un_35 ty_96 ze_96 (by decide) (cs := [(Value.slice (some ⟨b20, 0, none⟩) 2 2), (Value.int .i64 220), (Value.int .i64 250), (Value.slice (some ⟨b39, 0, none⟩) 1 1), (Value.int .i64 90), (Value.int .i64 100)]) (bs_96_2_0viia_1viia _ _ _ _ _ _)) rfl rfl (by decide) ?_
 rintro a48 _ w50 ⟨b51, rfl, hS52⟩ hA49; clear hA47 hS45 a46
 refine st hA49 (op_assign rfl (hA49.ev rfl)) rfl rfl (by decide) fun a53 hA54 => ?_; clear hA49 a48
 refine wl_nil ?_
 refine then_n ?_
 refine c_ret ?_
 refine fin_run hA54 (.inl rfl) (run_results1 hA54 rfl (.tmp rfl)) ?_
 have h0 := hS52.keep [0, 2, 1] (by decide) _ rfl rfl
 have h1 := ((h0.blk_row (i := 0) (sz := 3) (n := 2) rfl rfl (by decide)).blk_row (i := 1) (sz := 3) (n := 2) rfl rfl (by decide)).blk_row (i := 2) (sz := 3) (n := 1) rfl rfl (by decide)
 have h2 := (h1.keep [1, 2, 0] (by decide) [row (Value.slice (some ⟨b20, 0, none⟩) 2 2) 67 3 2 (trips [(0, 100, 100), (1, 10, 10)]), row (Value.slice (some ⟨b39, 0, none⟩) 1 1) 67 3 1 (trips [(1, 20, 30)]), row (Value.slice (some ⟨b51, 0, none⟩) 2 2) 96 3 2 (vtrips (runV [(Value.slice (some ⟨b20, 0, none⟩) 2 2), (Value.slice (some ⟨b39, 0, none⟩) 1 1)] madeR))] rfl rfl).segs_nil
 have h3 := (h2.keep [1, 0, 2, 3] (by decide) _ rfl rfl).segs_snoc (x := ⟨[(0, 100, 100), (1, 10, 10)], 220, 250⟩)
 have h4 := (h3.keep [1, 0, 2] (by decide) _ rfl rfl).segs_snoc (x := ⟨[(1, 20, 30)], 90, 100⟩)
 have h5 := (h4.keep [1, 0] (by decide) [row (Value.slice (some ⟨b51, 0, none⟩) 2 2) 96 3 2 (vtrips (runV [(Value.slice (some ⟨b20, 0, none⟩) 2 2), (Value.slice (some ⟨b39, 0, none⟩) 1 1)] madeR)), segsR true [(Value.slice (some ⟨b20, 0, none⟩) 2 2), (Value.slice (some ⟨b39, 0, none⟩) 1 1)] madeR] rfl rfl).runs_join rfl
 exact ⟨_, h5⟩
end Go.Proofs.Ytkkglkdnnfegkaa

namespace Go.Proofs.Ytkkglkdnnfegkaa
open Go.RowKit Go.Shelf Go.Eng
theorem en_51 : ∀ args w, (callFunc 51 args).run Try.prog w = .ok (.enter 51 args) w := enters_of Try.func51 (by kernel_rfl) rfl
theorem en_52 : ∀ args w, (callFunc 52 args).run Try.prog w = .ok (.enter 52 args) w := enters_of Try.func52 (by kernel_rfl) rfl
theorem en_18 : ∀ args w, (callFunc 18 args).run Try.prog w = .ok (.enter 18 args) w := enters_of Try.func18 (by kernel_rfl) rfl
theorem en_28 : ∀ args w, (callFunc 28 args).run Try.prog w = .ok (.enter 28 args) w := enters_of Try.func28 (by kernel_rfl) rfl
theorem en_23 : ∀ args w, (callFunc 23 args).run Try.prog w = .ok (.enter 23 args) w := enters_of Try.func23 (by kernel_rfl) rfl
theorem life_fine (R : List (Int × Int)) (rs : List RunD) (lv : List Value) (vr vu : Value) (w : World) (hm : SlAt w vr 2 R.length (pairs R)) (hx : RunsAt w vu lv rs) (hlen : R.length ≤ 1000000) (hrl : rs.length ≤ 1000000) (band s : Int) (he : lifeE R rs band s = 0) : Calls Try.prog 23 #[.agg #[vr], vu, .int .i64 band, .int .i64 s] w (Ret fun v w' => v = .tuple #[.agg #[.int .i64 (lifeR (allowedF R rs) band.toNat s).1, .int .i64 (lifeR (allowedF R rs) band.toNat s).2], .int .i64 0] ∧ Ext NoB w w') := by
 have hp : possF R rs = 0 := by
  by_cases h : possF R rs = 0
  ·exact h
  ·rw [life_p h] at he; exact absurd he h
 refine (life_any R rs lv vr vu w hm hx hlen hrl band s hp).mono (Ret.mono fun v w' h => ?_)
 rcases h with ⟨h, _⟩ | ⟨_, h⟩
 ·rw [he] at h; exact absurd h (by decide)
 ·exact h
theorem life_no (R : List (Int × Int)) (rs : List RunD) (lv : List Value) (vr vu : Value) (w : World) (hm : SlAt w vr 2 R.length (pairs R)) (hx : RunsAt w vu lv rs) (hlen : R.length ≤ 1000000) (hrl : rs.length ≤ 1000000) (band s : Int) (he : lifeE R rs band s ≠ 0) : Calls Try.prog 23 #[.agg #[vr], vu, .int .i64 band, .int .i64 s] w (Ret fun v w' => v = .tuple #[.agg #[.int .i64 0, .int .i64 0], .int .i64 (lifeE R rs band s)] ∧ Ext NoB w w') := by
 by_cases hp : possF R rs = 0
 ·refine (life_any R rs lv vr vu w hm hx hlen hrl band s hp).mono (Ret.mono fun v w' h => ?_)
  rcases h with ⟨h1, h⟩ | ⟨h, _⟩
  ·rw [h1]; exact h
  ·exact absurd h he
 ·have := life_bad R rs lv vr vu w hm hx hlen hrl band s hp
  rw [life_p hp]; exact this
set_option maxHeartbeats 4000000 in
theorem awake_ok (w : World) :
  Calls Try.prog 17 #[] w (Ret fun v w' => v = .bool true ∧ Ext NoB w w') := by
 refine calls_enter Try.func17 rfl fun a0 hA0 => ?_
 replace hA0 : Fr 75 [] [] a0 := hA0
 have hS0 : Sep NoB w w [] := Sep.start _ _
 refine c_seq ?_
 refine c_region ?_
 refine st hA0 (op_assign rfl (evc _ _)) rfl rfl (by decide) fun a1 hA2 => ?_; clear hA0 a0
 refine wl_nil ?_
 refine then_n ?_
 refine c_seq ?_
 refine c_region ?_
 refine stw hA2 (op_call rfl en_51 ev0 (hot_ok _)) rfl rfl (by decide) ?_
 rintro a3 _ w5 ⟨u8, rfl, hT6⟩ hA4; have hS7 := hS0.callS hT6 rfl; clear hT6 hA2 hS0 a1
 refine stw hA4 (op_call rfl en_52 ev0 (made_ok _)) rfl rfl (by decide) ?_
 rintro a9 v14 w11 ⟨lv15, hT12⟩ hA10; have hS13 := hS7.callS hT12 rfl; clear hT12 hA4 hS7 a3
 refine stw hA10 (op_call rfl en_18 (ev2 (hA10.ev rfl) (hA10.ev rfl)) (rates_ok hotR madeR lv15 u8 v14 _ (SlAt.of_row (hS13.ok_row 1 rfl)) (runs_at (hS13.ok 0 _ rfl)) (by decide) (by decide) poss_hot)) rfl rfl (by decide) ?_
 rintro a16 _ w18 ⟨u21, rfl, hT19⟩ hA17
 rw [rates_hot] at hT19; rw [many_hot] at hA17
 have hS20 : Sep NoB w w18 [(row u21 42 2 2 (pairs ([(2, 2), (3, 5)]))), (runsR true v14 lv15 madeR), (row u8 42 2 2 (pairs hotR))] := hS13.callS hT19 rfl; clear hT19 hA10 hS13 a9
 refine st hA17 (op_move rfl (hA17.ev rfl)) rfl rfl (by decide) fun a22 hA23 => ?_; clear hA17 a16
 refine st hA23 (op_extract rfl (hA23.ev rfl) rfl) rfl rfl (by decide) fun a24 hA25 => ?_; clear hA23 a22
 refine st hA25 (op_extract rfl (hA25.ev rfl) rfl) rfl rfl (by decide) fun a26 hA27 => ?_; clear hA25 a24
 refine st hA27 (op_extract rfl (hA27.ev rfl) rfl) rfl rfl (by decide) fun a28 hA29 => ?_; clear hA27 a26
 refine st hA29 (op_assign rfl (hA29.ev rfl)) rfl rfl (by decide) fun a30 hA31 => ?_; clear hA29 a28
 refine st hA31 (op_assign rfl (hA31.ev rfl)) rfl rfl (by decide) fun a32 hA33 => ?_; clear hA31 a30
 refine st hA33 (op_assign rfl (hA33.ev rfl)) rfl rfl (by decide) fun a34 hA35 => ?_; clear hA33 a32
 refine wl_nil ?_
 refine then_n ?_
 refine c_seq ?_
 have hA36 := hA35.as [(3, (Value.int .i64 0)), (2, (Value.int .i64 ((3 : Nat) : Int))), (1, u21)] rfl; clear hA35
 refine c_region ?_
 refine stw hA36 (op_call rfl en_51 ev0 (hot_ok _)) rfl rfl (by decide) ?_
 rintro a37 _ w39 ⟨u42, rfl, hT40⟩ hA38; have hS41 := hS20.callS hT40 rfl; clear hT40 hA36 hS20 a34
 refine stw hA38 (op_call rfl en_52 ev0 (made_ok _)) rfl rfl (by decide) ?_
 rintro a43 v48 w45 ⟨lv49, hT46⟩ hA44; have hS47 := hS41.callS hT46 rfl; clear hT46 hA38 hS41 a37
 refine stw hA44 (op_call rfl en_31 (ev2 (evc _ _) (evc _ _)) (between_ok _ _ _)) rfl rfl (by decide) ?_
 rintro a50 _ w52 ⟨rfl, hE53⟩ hA51; have hS54 := hS47.step hE53; clear hE53 hA44 hS47 a43
 refine st hA51 (op_build rfl (pv2 (evc _ _) (hA51.ev rfl)) (bd_67_0i_1iia _ _ _)) rfl rfl (by decide) fun a55 hA56 => ?_; clear hA51 a50
 refine stw hA56 (op_call rfl en_31 (ev2 (evc _ _) (evc _ _)) (between_ok _ _ _)) rfl rfl (by decide) ?_
 rintro a57 _ w59 ⟨rfl, hE60⟩ hA58; have hS61 := hS54.step hE60; clear hE60 hA56 hS54 a55
 refine st hA58 (op_build rfl (pv2 (evc _ _) (hA58.ev rfl)) (bd_67_0i_1iia _ _ _)) rfl rfl (by decide) fun a62 hA63 => ?_; clear hA58 a57
 refine stw hA63 (op_buildSlice hS61 rfl (pv2 (hA63.ev rfl) (hA63.ev rfl)) un_58 ty_67 ze_67 (by decide) (cs := [(Value.int .i64 0), (Value.int .i64 1000), (Value.int .i64 1000), (Value.int .i64 1), (Value.int .i64 10), (Value.int .i64 20)]) (bs_67_2_0iiia_1iiia _ _ _ _ _ _)) rfl rfl (by decide) ?_
 rintro a64 _ w66 ⟨b67, rfl, hS68⟩ hA65; clear hA63 hS61 a62
 refine stw hA65 (op_call rfl en_28 (ev3 (hA65.ev rfl) (hA65.ev rfl) (hA65.ev rfl)) (stretch_fine hotR madeR lv49 u42 v48 _ (SlAt.of_row (hS68.ok_row 2 rfl)) (runs_at (hS68.ok 1 _ rfl)) (by decide) (by decide) hotP (Value.slice (some ⟨b67, 0, none⟩) 2 2) (SlAt.of_blk (hS68.bk 0 rfl) rfl (Nat.le_of_ble_eq_true rfl)) (by decide) plan_hot)) rfl rfl (by decide) ?_
 rintro a69 _ w71 ⟨rfl, hE72⟩ hA70; have hS73 := hS68.step hE72; clear hE72 hA65 hS68 a64
 refine st hA70 (op_move rfl (hA70.ev rfl)) rfl rfl (by decide) fun a74 hA75 => ?_; clear hA70 a69
 refine st hA75 (op_extract rfl (hA75.ev rfl) rfl) rfl rfl (by decide) fun a76 hA77 => ?_; clear hA75 a74
 refine st hA77 (op_extract rfl (hA77.ev rfl) rfl) rfl rfl (by decide) fun a78 hA79 => ?_; clear hA77 a76
 refine stw hA79 (op_alloc hS73 rfl ze_42 (cs := [(Value.int .i64 0), (Value.int .i64 0)]) rfl) rfl rfl (by decide) ?_
 rintro a80 _ w82 ⟨b83, rfl, hS84⟩ hA81; clear hA79 hS73 a78
 refine sts hA81 (op_store hS84 rfl ty_42 (hA81.ev rfl) (hA81.ev rfl) (i := 0) rfl (vs := [(Value.int .i64 (stLo hotP (leastR hotR madeR hotP))), (Value.int .i64 (stHi hotP (mostR hotR madeR hotP)))]) rfl rfl rfl (Nat.le_of_ble_eq_true rfl)) rfl rfl ?_
 intro _ w85 hS86 hA87; clear hA81
 have hS88 : Sep NoB w w85 [(blk b83 42 [(Value.int .i64 (stLo hotP (leastR hotR madeR hotP))), (Value.int .i64 (stHi hotP (mostR hotR madeR hotP)))]), (blk b67 67 [(Value.int .i64 0), (Value.int .i64 1000), (Value.int .i64 1000), (Value.int .i64 1), (Value.int .i64 10), (Value.int .i64 20)]), (runsR true v48 lv49 madeR), (row u42 42 2 2 (pairs hotR)), (row u21 42 2 2 (pairs ([(2, 2), (3, 5)]))), (runsR true v14 lv15 madeR), (row u8 42 2 2 (pairs hotR))] := hS86; clear hS86 hS84
 refine st hA87 (op_assign rfl (hA87.ev rfl)) rfl rfl (by decide) fun a89 hA90 => ?_; clear hA87 a80
 refine wl_nil ?_
 refine then_n ?_
 refine c_seq ?_
 have hA91 := hA90.as [(5, (Value.int .i64 0)), (4, (bptr b83 0)), (3, (Value.int .i64 0)), (2, (Value.int .i64 ((3 : Nat) : Int))), (1, u21)] rfl; clear hA90
 refine c_region ?_
 refine stw hA91 (op_call rfl en_51 ev0 (hot_ok _)) rfl rfl (by decide) ?_
 rintro a92 _ w94 ⟨u97, rfl, hT95⟩ hA93; have hS96 := hS88.callS hT95 rfl; clear hT95 hA91 hS88 a89
 refine stw hA93 (op_call rfl en_52 ev0 (made_ok _)) rfl rfl (by decide) ?_
 rintro a98 v103 w100 ⟨lv104, hT101⟩ hA99; have hS102 := hS96.callS hT101 rfl; clear hT101 hA93 hS96 a92
 refine stw hA99 (op_call rfl en_23 (ev4 (hA99.ev rfl) (hA99.ev rfl) (evc _ _) (evc _ _)) (life_fine hotR madeR lv104 u97 v103 _ (SlAt.of_row (hS102.ok_row 1 rfl)) (runs_at (hS102.ok 0 _ rfl)) (by decide) (by decide) 1 1000 life_hot)) rfl rfl (by decide) ?_
 rintro a105 _ w107 ⟨rfl, hE108⟩ hA106; have hS109 := hS102.step hE108; clear hE108 hA99 hS102 a98
 refine st hA106 (op_move rfl (hA106.ev rfl)) rfl rfl (by decide) fun a110 hA111 => ?_; clear hA106 a105
 refine st hA111 (op_extract rfl (hA111.ev rfl) rfl) rfl rfl (by decide) fun a112 hA113 => ?_; clear hA111 a110
 refine st hA113 (op_extract rfl (hA113.ev rfl) rfl) rfl rfl (by decide) fun a114 hA115 => ?_; clear hA113 a112
 refine stw hA115 (op_alloc hS109 rfl ze_42 (cs := [(Value.int .i64 0), (Value.int .i64 0)]) rfl) rfl rfl (by decide) ?_
 rintro a116 _ w118 ⟨b119, rfl, hS120⟩ hA117; clear hA115 hS109 a114
 refine sts hA117 (op_store hS120 rfl ty_42 (hA117.ev rfl) (hA117.ev rfl) (i := 0) rfl (vs := [(Value.int .i64 ((lifeR (allowedF hotR madeR) (1 : Int).toNat 1000).1)), (Value.int .i64 ((lifeR (allowedF hotR madeR) (1 : Int).toNat 1000).2))]) rfl rfl rfl (Nat.le_of_ble_eq_true rfl)) rfl rfl ?_
 intro _ w121 hS122 hA123; clear hA117
 have hS124 : Sep NoB w w121 [(blk b119 42 [(Value.int .i64 ((lifeR (allowedF hotR madeR) (1 : Int).toNat 1000).1)), (Value.int .i64 ((lifeR (allowedF hotR madeR) (1 : Int).toNat 1000).2))]), (runsR true v103 lv104 madeR), (row u97 42 2 2 (pairs hotR)), (blk b83 42 [(Value.int .i64 (stLo hotP (leastR hotR madeR hotP))), (Value.int .i64 (stHi hotP (mostR hotR madeR hotP)))]), (blk b67 67 [(Value.int .i64 0), (Value.int .i64 1000), (Value.int .i64 1000), (Value.int .i64 1), (Value.int .i64 10), (Value.int .i64 20)]), (runsR true v48 lv49 madeR), (row u42 42 2 2 (pairs hotR)), (row u21 42 2 2 (pairs ([(2, 2), (3, 5)]))), (runsR true v14 lv15 madeR), (row u8 42 2 2 (pairs hotR))] := hS122; clear hS122 hS120
 refine st hA123 (op_assign rfl (hA123.ev rfl)) rfl rfl (by decide) fun a125 hA126 => ?_; clear hA123 a116
 refine wl_nil ?_
 refine then_n ?_
 refine c_seq ?_
 have hA127 := hA126.as [(7, (Value.int .i64 0)), (6, (bptr b119 0)), (5, (Value.int .i64 0)), (4, (bptr b83 0)), (3, (Value.int .i64 0)), (2, (Value.int .i64 ((3 : Nat) : Int))), (1, u21)] rfl; clear hA126
 have hA128 := hA127.as [(7, (Value.int .i64 0)), (6, (bptr b119 0)), (5, (Value.int .i64 0)), (4, (bptr b83 0)), (3, (Value.int .i64 0)), (2, (Value.int .i64 ((3 : Nat) : Int))), (1, u21)] rfl; clear hA127
 refine c_drawn mixed hA128 hS124 41 [[], [0], [1], [2], [2, 3], [2, 4], [5], [6], [6, 7], [6, 8], [6, 9], [10], [11], [11, 12], [11, 13], [11], [11, 14, 15], [11, 16], [17], [18], [18, 19], [18, 20], [18], [18, 21, 22], [18, 23], [24], [25], [25, 26], [25, 27], [28], [29], [29], [29, 30, 31], [29, 32], [33], [34], [34, 35], [34, 36], [37], [38], [38]] [(Yd.val (Value.int .i64 0)), (Yd.val (Value.bool true)), (Yd.val (Value.bool true)), (Yd.val (Value.int .i64 ((3 : Nat) : Int))), (Yd.val (Value.bool true)), (Yd.val (Value.bool true)), (Yd.val (Value.bool true)), (Yd.val u21), (Yd.val (Value.int .i64 ((2 : Nat) : Int))), (Yd.val (Value.bool true)), (Yd.val (Value.bool true)), (Yd.val (Value.bool true)), (Yd.val u21), (Yd.val (eptr u21 (0 * 2))), (Yd.val (Value.agg #[(Value.int .i64 ((([(2, 2), (3, 5)]).getD 0 (0, 0)).1)), (Value.int .i64 ((([(2, 2), (3, 5)]).getD 0 (0, 0)).2))])), (Yd.val (Value.agg #[(Value.int .i64 2), (Value.int .i64 2)])), (Yd.val (Value.bool true)), (Yd.val (Value.bool true)), (Yd.val (Value.bool true)), (Yd.val u21), (Yd.val (eptr u21 (1 * 2))), (Yd.val (Value.agg #[(Value.int .i64 ((([(2, 2), (3, 5)]).getD 1 (0, 0)).1)), (Value.int .i64 ((([(2, 2), (3, 5)]).getD 1 (0, 0)).2))])), (Yd.val (Value.agg #[(Value.int .i64 3), (Value.int .i64 5)])), (Yd.val (Value.bool true)), (Yd.val (Value.bool true)), (Yd.val (Value.bool true)), (Yd.val (Value.int .i64 0)), (Yd.val (Value.bool true)), (Yd.val (Value.bool true)), (Yd.val (Value.bool true)), (Yd.val (Value.agg #[(Value.int .i64 (stLo hotP (leastR hotR madeR hotP))), (Value.int .i64 (stHi hotP (mostR hotR madeR hotP)))])), (Yd.val (Value.agg #[(Value.int .i64 2030), (Value.int .i64 2100)])), (Yd.val (Value.bool true)), (Yd.val (Value.bool true)), (Yd.val (Value.bool true)), (Yd.val (Value.int .i64 0)), (Yd.val (Value.bool true)), (Yd.val (Value.bool true)), (Yd.val (Value.bool true)), (Yd.val (Value.agg #[(Value.int .i64 ((lifeR (allowedF hotR madeR) (1 : Int).toNat 1000).1)), (Value.int .i64 ((lifeR (allowedF hotR madeR) (1 : Int).toNat 1000).2))])), (Yd.val (Value.agg #[(Value.int .i64 200), (Value.int .i64 334)]))] (by decide +kernel) rfl rfl ?_ ?_
 ·skip
  refine ⟨fun a w hA hS hd => by exact opG_of rfl (dv (op_move rfl (hA.ev rfl)) hS rfl), ?_⟩
  refine ⟨fun a w hA hS hd => by have e0 := has_ev (hd 0 (by decide)) rfl (fun _ h => h); exact opG_of rfl (dv (op_eql rfl (tmp_ev e0) (evc _ _)) hS rfl), ?_⟩
  refine ⟨fun a w hA hS hd => by have e1 := has_ev (hd 1 (by decide)) rfl (fun _ h => h); exact opG_of rfl (dv (op_move rfl (tmp_ev e1)) hS rfl), ?_⟩
  refine ⟨fun a w hA hS hd => by have e2 := has_ev (hd 2 (by decide)) rfl (fun _ h => h); exact opG_yes rfl rfl e2 (dv (op_move rfl (hA.ev rfl)) hS rfl), ?_⟩
  refine ⟨fun a w hA hS hd => by have e2 := has_ev (hd 2 (by decide)) rfl (fun _ h => h); have e3 := has_ev (hd 3 (by decide)) rfl (fun _ h => h); exact opG_yes rfl rfl e2 (dv (op_eql rfl (tmp_ev e3) (evc _ _)) hS (by show Value.bool _ = _; simp only [decide_eq_true (show ((3 : Nat) : Int) = 3 from (by decide)), decide_true, decide_false, Bool.not_true, Bool.not_false])), ?_⟩
  refine ⟨fun a w hA hS hd => by have e2 := has_ev (hd 2 (by decide)) rfl (fun _ h => h); have e4 := has_ev (hd 4 (by decide)) rfl (fun _ h => h); exact opG_of rfl (dv (op_pick_t rfl (tmp_ev e2) (tmp_ev e4)) hS rfl), ?_⟩
  refine ⟨fun a w hA hS hd => by have e5 := has_ev (hd 5 (by decide)) rfl (fun _ h => h); exact opG_of rfl (dv (op_move rfl (tmp_ev e5)) hS rfl), ?_⟩
  refine ⟨fun a w hA hS hd => by have e6 := has_ev (hd 6 (by decide)) rfl (fun _ h => h); exact opG_yes rfl rfl e6 (dv (op_move rfl (hA.ev rfl)) hS rfl), ?_⟩
  refine ⟨fun a w hA hS hd => by have e6 := has_ev (hd 6 (by decide)) rfl (fun _ h => h); have e7 := has_ev (hd 7 (by decide)) rfl (fun _ h => h); exact opG_yes rfl rfl e6 (dv (op_lenS rfl un_28 (tmp_ev e7) (SlAt.of_row (hS.ok_row 7 rfl))) hS rfl), ?_⟩
  refine ⟨fun a w hA hS hd => by have e6 := has_ev (hd 6 (by decide)) rfl (fun _ h => h); have e8 := has_ev (hd 8 (by decide)) rfl (fun _ h => h); exact opG_yes rfl rfl e6 (dv (op_eql rfl (tmp_ev e8) (evc _ _)) hS (by show Value.bool _ = _; simp only [decide_eq_true (show ((2 : Nat) : Int) = 2 from (by decide)), decide_true, decide_false, Bool.not_true, Bool.not_false])), ?_⟩
  refine ⟨fun a w hA hS hd => by have e6 := has_ev (hd 6 (by decide)) rfl (fun _ h => h); have e9 := has_ev (hd 9 (by decide)) rfl (fun _ h => h); exact opG_of rfl (dv (op_pick_t rfl (tmp_ev e6) (tmp_ev e9)) hS rfl), ?_⟩
  refine ⟨fun a w hA hS hd => by have e10 := has_ev (hd 10 (by decide)) rfl (fun _ h => h); exact opG_of rfl (dv (op_move rfl (tmp_ev e10)) hS rfl), ?_⟩
  refine ⟨fun a w hA hS hd => by have e11 := has_ev (hd 11 (by decide)) rfl (fun _ h => h); exact opG_yes rfl rfl e11 (dv (op_move rfl (hA.ev rfl)) hS rfl), ?_⟩
  refine ⟨fun a w hA hS hd => by have e11 := has_ev (hd 11 (by decide)) rfl (fun _ h => h); have e12 := has_ev (hd 12 (by decide)) rfl (fun _ h => h); exact opG_yes rfl rfl e11 (dv (op_indexS rfl un_28 ty_42 (tmp_ev e12) (i := 0) (show _ = Value.int .i64 ((0 : Nat) : Int) from (evc _ _)) (SlAt.of_row (hS.ok_row 7 rfl)) (by decide) (by decide)) hS rfl), ?_⟩
  refine ⟨fun a w hA hS hd => by have e11 := has_ev (hd 11 (by decide)) rfl (fun _ h => h); have e13 := has_ev (hd 13 (by decide)) rfl (fun _ h => h); exact opG_yes rfl rfl e11 (dv (op_loadAE rfl ty_42 (tmp_ev e13) (SlAt.of_row (hS.ok_row 7 rfl)) (pairs_all (by decide)) rfl (by decide)) hS rfl), ?_⟩
  refine ⟨fun a w hA hS hd => by have e11 := has_ev (hd 11 (by decide)) rfl (fun _ h => h); exact opG_yes rfl rfl e11 (dx (op_call rfl en_31 (ev2 (evc _ _) (evc _ _)) (between_ok _ _ _)) hS (fun _ => rfl)), ?_⟩
  refine ⟨fun a w hA hS hd => by have e11 := has_ev (hd 11 (by decide)) rfl (fun _ h => h); have e14 := has_ev (hd 14 (by decide)) rfl (fun _ h => h); have e15 := has_ev (hd 15 (by decide)) rfl (fun _ h => h); exact opG_yes rfl rfl e11 (dv (op_eqlP tw_42 rfl (tmp_ev e14) (tmp_ev e15)) hS (by show Value.bool _ = _; simp only [(show (decide ((((([(2, 2), (3, 5)]).getD 0 (0, 0)).1) : Int) = 2) && decide ((((([(2, 2), (3, 5)]).getD 0 (0, 0)).2) : Int) = 2)) = true from (by first | decide | (rw [low_hot, high_hot]; decide) | (rw [life_hot1, life_hot2]; decide))), decide_true, decide_false, Bool.not_true, Bool.not_false])), ?_⟩
  refine ⟨fun a w hA hS hd => by have e11 := has_ev (hd 11 (by decide)) rfl (fun _ h => h); have e16 := has_ev (hd 16 (by decide)) rfl (fun _ h => h); exact opG_of rfl (dv (op_pick_t rfl (tmp_ev e11) (tmp_ev e16)) hS rfl), ?_⟩
  refine ⟨fun a w hA hS hd => by have e17 := has_ev (hd 17 (by decide)) rfl (fun _ h => h); exact opG_of rfl (dv (op_move rfl (tmp_ev e17)) hS rfl), ?_⟩
  refine ⟨fun a w hA hS hd => by have e18 := has_ev (hd 18 (by decide)) rfl (fun _ h => h); exact opG_yes rfl rfl e18 (dv (op_move rfl (hA.ev rfl)) hS rfl), ?_⟩
  refine ⟨fun a w hA hS hd => by have e18 := has_ev (hd 18 (by decide)) rfl (fun _ h => h); have e19 := has_ev (hd 19 (by decide)) rfl (fun _ h => h); exact opG_yes rfl rfl e18 (dv (op_indexS rfl un_28 ty_42 (tmp_ev e19) (i := 1) (show _ = Value.int .i64 ((1 : Nat) : Int) from (evc _ _)) (SlAt.of_row (hS.ok_row 7 rfl)) (by decide) (by decide)) hS rfl), ?_⟩
  refine ⟨fun a w hA hS hd => by have e18 := has_ev (hd 18 (by decide)) rfl (fun _ h => h); have e20 := has_ev (hd 20 (by decide)) rfl (fun _ h => h); exact opG_yes rfl rfl e18 (dv (op_loadAE rfl ty_42 (tmp_ev e20) (SlAt.of_row (hS.ok_row 7 rfl)) (pairs_all (by decide)) rfl (by decide)) hS rfl), ?_⟩
  refine ⟨fun a w hA hS hd => by have e18 := has_ev (hd 18 (by decide)) rfl (fun _ h => h); exact opG_yes rfl rfl e18 (dx (op_call rfl en_31 (ev2 (evc _ _) (evc _ _)) (between_ok _ _ _)) hS (fun _ => rfl)), ?_⟩
  refine ⟨fun a w hA hS hd => by have e18 := has_ev (hd 18 (by decide)) rfl (fun _ h => h); have e21 := has_ev (hd 21 (by decide)) rfl (fun _ h => h); have e22 := has_ev (hd 22 (by decide)) rfl (fun _ h => h); exact opG_yes rfl rfl e18 (dv (op_eqlP tw_42 rfl (tmp_ev e21) (tmp_ev e22)) hS (by show Value.bool _ = _; simp only [(show (decide ((((([(2, 2), (3, 5)]).getD 1 (0, 0)).1) : Int) = 3) && decide ((((([(2, 2), (3, 5)]).getD 1 (0, 0)).2) : Int) = 5)) = true from (by first | decide | (rw [low_hot, high_hot]; decide) | (rw [life_hot1, life_hot2]; decide))), decide_true, decide_false, Bool.not_true, Bool.not_false])), ?_⟩
  refine ⟨fun a w hA hS hd => by have e18 := has_ev (hd 18 (by decide)) rfl (fun _ h => h); have e23 := has_ev (hd 23 (by decide)) rfl (fun _ h => h); exact opG_of rfl (dv (op_pick_t rfl (tmp_ev e18) (tmp_ev e23)) hS rfl), ?_⟩
  refine ⟨fun a w hA hS hd => by have e24 := has_ev (hd 24 (by decide)) rfl (fun _ h => h); exact opG_of rfl (dv (op_move rfl (tmp_ev e24)) hS rfl), ?_⟩
  refine ⟨fun a w hA hS hd => by have e25 := has_ev (hd 25 (by decide)) rfl (fun _ h => h); exact opG_yes rfl rfl e25 (dv (op_move rfl (hA.ev rfl)) hS rfl), ?_⟩
  refine ⟨fun a w hA hS hd => by have e25 := has_ev (hd 25 (by decide)) rfl (fun _ h => h); have e26 := has_ev (hd 26 (by decide)) rfl (fun _ h => h); exact opG_yes rfl rfl e25 (dv (op_eql rfl (tmp_ev e26) (evc _ _)) hS rfl), ?_⟩
  refine ⟨fun a w hA hS hd => by have e25 := has_ev (hd 25 (by decide)) rfl (fun _ h => h); have e27 := has_ev (hd 27 (by decide)) rfl (fun _ h => h); exact opG_of rfl (dv (op_pick_t rfl (tmp_ev e25) (tmp_ev e27)) hS rfl), ?_⟩
  refine ⟨fun a w hA hS hd => by have e28 := has_ev (hd 28 (by decide)) rfl (fun _ h => h); exact opG_of rfl (dv (op_move rfl (tmp_ev e28)) hS rfl), ?_⟩
  refine ⟨fun a w hA hS hd => by have e29 := has_ev (hd 29 (by decide)) rfl (fun _ h => h); exact opG_yes rfl rfl e29 (dv (op_loadA rfl ty_42 (hA.ev rfl) (hS.bk 3 rfl) (l := [(Value.int .i64 (stLo hotP (leastR hotR madeR hotP))), (Value.int .i64 (stHi hotP (mostR hotR madeR hotP)))]) rfl rfl) hS rfl), ?_⟩
  refine ⟨fun a w hA hS hd => by have e29 := has_ev (hd 29 (by decide)) rfl (fun _ h => h); exact opG_yes rfl rfl e29 (dx (op_call rfl en_31 (ev2 (evc _ _) (evc _ _)) (between_ok _ _ _)) hS (fun _ => rfl)), ?_⟩
  refine ⟨fun a w hA hS hd => by have e29 := has_ev (hd 29 (by decide)) rfl (fun _ h => h); have e30 := has_ev (hd 30 (by decide)) rfl (fun _ h => h); have e31 := has_ev (hd 31 (by decide)) rfl (fun _ h => h); exact opG_yes rfl rfl e29 (dv (op_eqlP tw_42 rfl (tmp_ev e30) (tmp_ev e31)) hS (by show Value.bool _ = _; simp only [(show (decide (((stLo hotP (leastR hotR madeR hotP)) : Int) = 2030) && decide (((stHi hotP (mostR hotR madeR hotP)) : Int) = 2100)) = true from (by first | decide | (rw [low_hot, high_hot]; decide) | (rw [life_hot1, life_hot2]; decide))), decide_true, decide_false, Bool.not_true, Bool.not_false])), ?_⟩
  refine ⟨fun a w hA hS hd => by have e29 := has_ev (hd 29 (by decide)) rfl (fun _ h => h); have e32 := has_ev (hd 32 (by decide)) rfl (fun _ h => h); exact opG_of rfl (dv (op_pick_t rfl (tmp_ev e29) (tmp_ev e32)) hS rfl), ?_⟩
  refine ⟨fun a w hA hS hd => by have e33 := has_ev (hd 33 (by decide)) rfl (fun _ h => h); exact opG_of rfl (dv (op_move rfl (tmp_ev e33)) hS rfl), ?_⟩
  refine ⟨fun a w hA hS hd => by have e34 := has_ev (hd 34 (by decide)) rfl (fun _ h => h); exact opG_yes rfl rfl e34 (dv (op_move rfl (hA.ev rfl)) hS rfl), ?_⟩
  refine ⟨fun a w hA hS hd => by have e34 := has_ev (hd 34 (by decide)) rfl (fun _ h => h); have e35 := has_ev (hd 35 (by decide)) rfl (fun _ h => h); exact opG_yes rfl rfl e34 (dv (op_eql rfl (tmp_ev e35) (evc _ _)) hS rfl), ?_⟩
  refine ⟨fun a w hA hS hd => by have e34 := has_ev (hd 34 (by decide)) rfl (fun _ h => h); have e36 := has_ev (hd 36 (by decide)) rfl (fun _ h => h); exact opG_of rfl (dv (op_pick_t rfl (tmp_ev e34) (tmp_ev e36)) hS rfl), ?_⟩
  refine ⟨fun a w hA hS hd => by have e37 := has_ev (hd 37 (by decide)) rfl (fun _ h => h); exact opG_of rfl (dv (op_move rfl (tmp_ev e37)) hS rfl), ?_⟩
  refine ⟨fun a w hA hS hd => by have e38 := has_ev (hd 38 (by decide)) rfl (fun _ h => h); exact opG_yes rfl rfl e38 (dv (op_loadA rfl ty_42 (hA.ev rfl) (hS.bk 0 rfl) (l := [(Value.int .i64 ((lifeR (allowedF hotR madeR) (1 : Int).toNat 1000).1)), (Value.int .i64 ((lifeR (allowedF hotR madeR) (1 : Int).toNat 1000).2))]) rfl rfl) hS rfl), ?_⟩
  refine ⟨fun a w hA hS hd => by have e38 := has_ev (hd 38 (by decide)) rfl (fun _ h => h); exact opG_yes rfl rfl e38 (dx (op_call rfl en_31 (ev2 (evc _ _) (evc _ _)) (between_ok _ _ _)) hS (fun _ => rfl)), ?_⟩
  trivial
 intro a130 w131 hA132 hS133 hH134; clear hA128 hS124
 have hA135 := hA132.add (has_ev (hH134 38 (by decide)) rfl (fun _ h => h)); clear hA132
 have hA136 := hA135.add (has_ev (hH134 39 (by decide)) rfl (fun _ h => h)); clear hA135
 have hA137 := hA136.add (has_ev (hH134 40 (by decide)) rfl (fun _ h => h)); clear hA136
 clear hH134
 refine stg hA137 (op_eqlP tw_42 rfl (hA137.ev rfl) (hA137.ev rfl)) rfl rfl rfl rfl (by decide) fun a138 hA139 => ?_; clear hA137 a130
 have hd140 : (decide ((((lifeR (allowedF hotR madeR) (1 : Int).toNat 1000).1) : Int) = 200) && decide ((((lifeR (allowedF hotR madeR) (1 : Int).toNat 1000).2) : Int) = 334)) = true := (by first | decide | (rw [low_hot, high_hot]; decide) | (rw [life_hot1, life_hot2]; decide))
 rw [hd140] at hA139
 have hq141 := hd140; simp only [Bool.and_eq_true, Bool.and_eq_false_iff, decide_eq_true_eq, decide_eq_false_iff_not] at hq141
 refine st hA139 (op_pick_t rfl (hA139.ev rfl) (hA139.ev rfl)) rfl rfl (by decide) fun a142 hA143 => ?_; clear hA139 a138
 refine st hA143 (op_assign rfl (hA143.ev rfl)) rfl rfl (by decide) fun a144 hA145 => ?_; clear hA143 a142
 refine wl_nil ?_
 refine then_n ?_
 refine c_ret ?_
 refine fin_run hA145 (.inl rfl) (run_results1 hA145 rfl (.tmp rfl)) ?_
 exact ⟨rfl, hS133.ext⟩
end Go.Proofs.Ytkkglkdnnfegkaa

namespace Go.Proofs.Ytkkglkdnnfegkaa
open Go.RowKit Go.Eng
end Go.Proofs.Ytkkglkdnnfegkaa

namespace Go.Proofs.Ytkkglkdnnfegkaa
open Go.RowKit Go.Shelf Go.Eng
theorem en_17 : ∀ args w, (callFunc 17 args).run Try.prog w = .ok (.enter 17 args) w := enters_of Try.func17 (by kernel_rfl) rfl
theorem en_67 : ∀ args w, (callFunc 67 args).run Try.prog w = .ok (.enter 67 args) w := enters_of Try.func67 (by kernel_rfl) rfl
theorem en_38 : ∀ args w, (callFunc 38 args).run Try.prog w = .ok (.enter 38 args) w := enters_of Try.func38 (by kernel_rfl) rfl
theorem en_61 : ∀ args w, (callFunc 61 args).run Try.prog w = .ok (.enter 61 args) w := enters_of Try.func61 (by kernel_rfl) rfl
theorem en_32 : ∀ args w, (callFunc 32 args).run Try.prog w = .ok (.enter 32 args) w := enters_of Try.func32 (by kernel_rfl) rfl
theorem en_95 : ∀ args w, (callFunc 95 args).run Try.prog w = .ok (.enter 95 args) w := enters_of Try.func95 (by kernel_rfl) rfl
theorem en_76 : ∀ args w, (callFunc 76 args).run Try.prog w = .ok (.enter 76 args) w := enters_of Try.func76 (by kernel_rfl) rfl
theorem en_75 : ∀ args w, (callFunc 75 args).run Try.prog w = .ok (.enter 75 args) w := enters_of Try.func75 (by kernel_rfl) rfl
theorem en_74 : ∀ args w, (callFunc 74 args).run Try.prog w = .ok (.enter 74 args) w := enters_of Try.func74 (by kernel_rfl) rfl
theorem ty_38 : tyK Try.prog 38 = some (false, 1) := by kernel_rfl
theorem en_73 : ∀ args w, (callFunc 73 args).run Try.prog w = .ok (.enter 73 args) w := enters_of Try.func73 (by kernel_rfl) rfl
theorem en_72 : ∀ args w, (callFunc 72 args).run Try.prog w = .ok (.enter 72 args) w := enters_of Try.func72 (by kernel_rfl) rfl
theorem ty_120 : tyK Try.prog 120 = some (false, 1) := by kernel_rfl
theorem en_71 : ∀ args w, (callFunc 71 args).run Try.prog w = .ok (.enter 71 args) w := enters_of Try.func71 (by kernel_rfl) rfl
theorem ze_38 : (Try.prog.info? 38).bind (·.zero) = some (Value.slice none 0 0) := by kernel_rfl
theorem ze_120 : (Try.prog.info? 120).bind (·.zero) = some Value.nilFunc := by kernel_rfl
theorem en_43 : ∀ args w, (callFunc 43 args).run Try.prog w = .ok (.enter 43 args) w := enters_of Try.func43 (by kernel_rfl) rfl
theorem bs_3_2_0i_1i (x0_0 : Int) (x1_0 : Int) : Instr.fill (fun i => some (i * 1, 1)) ((Array.range (2 * 1)).map ((Value.int .i64 0).cells[· % (Value.int .i64 0).cells.size]!)) [(0, (.int .i64 x0_0)), (1, (.int .i64 x1_0))] = some (([(.int .i64 x0_0), (.int .i64 x1_0)] : List Value).toArray) := by kernel_rfl
theorem en_44 : ∀ args w, (callFunc 44 args).run Try.prog w = .ok (.enter 44 args) w := enters_of Try.func44 (by kernel_rfl) rfl
theorem bd_33_  (w : World) : (Instr.build 33 #[]).run Try.prog w = .ok (.agg #[(Value.slice none 0 0)]) w := by kernel_rfl
end Go.Proofs.Ytkkglkdnnfegkaa

namespace Go.Proofs.Ytkkglkdnnfegkaa
open Go.RowKit Go.Eng
def lstRo (lv : List Value) (ls : List (List Int)) : Res where
  S := (lstR lv ls).S
  p := (lstR lv ls).p
  own := false
  stable := (lstR lv ls).stable
  lt := (lstR lv ls).lt
end Go.Proofs.Ytkkglkdnnfegkaa

namespace Go.Proofs.Ytkkglkdnnfegkaa
open Go.RowKit Go.Eng
def rateAt (R : List (Int × Int)) (l : List Int) (i : Nat) : Bool := (decide ((R.getD i (0, 0)).1 ≤ l.getD i 0) && decide (l.getD i 0 ≤ (R.getD i (0, 0)).2)) && (decide (i = 0) || decide (l.getD (i - 1) 0 ≤ l.getD i 0))
def areB (R : List (Int × Int)) (l : List Int) : Bool := decide (l.length = R.length) && (List.range l.length).all fun i => rateAt R l i
theorem rateAt_y1 {R : List (Int × Int)} {l : List Int} {i : Nat} (h : (R.getD i (0, 0)).1 ≤ l.getD i 0 ∧ l.getD i 0 ≤ (R.getD i (0, 0)).2) (h2 : (i : Int) = 0 ∨ l.getD ((i : Int) - 1).toNat 0 ≤ l.getD i 0 ∨ ¬ 0 < (i : Int)) : rateAt R l i = true := by
  unfold rateAt
  rw [decide_eq_true h.1, decide_eq_true h.2]
  rw [toNat_pred] at h2
  simp only [Bool.true_and, Bool.or_eq_true, decide_eq_true_eq]
  omega
theorem rateAt_n1 {R : List (Int × Int)} {l : List Int} {i : Nat} (h : ¬ ((R.getD i (0, 0)).1 ≤ l.getD i 0 ∧ l.getD i 0 ≤ (R.getD i (0, 0)).2)) : rateAt R l i = false := by
  unfold rateAt
  rw [Bool.and_eq_false_iff, Bool.and_eq_false_iff, decide_eq_false_iff_not, decide_eq_false_iff_not]
  left; omega
theorem rateAt_n2 {R : List (Int × Int)} {l : List Int} {i : Nat} (h0 : 0 < (i : Int)) (h : l.getD i 0 < l.getD ((i : Int) - 1).toNat 0) : rateAt R l i = false := by
  unfold rateAt
  rw [toNat_pred] at h
  rw [Bool.and_eq_false_iff, Bool.or_eq_false_iff, decide_eq_false_iff_not, decide_eq_false_iff_not]
  right; omega
theorem areB_yes {R : List (Int × Int)} {l : List Int} (h : l.length = R.length) (ha : ∀ i, i < l.length → rateAt R l i = true) : areB R l = true := by
  unfold areB; rw [decide_eq_true h, all_yes ha]; rfl
theorem areB_no {R : List (Int × Int)} {l : List Int} {k : Nat} (hk : k < l.length) (h : rateAt R l k = false) : areB R l = false := by
  unfold areB; rw [all_no hk h, Bool.and_false]
theorem areB_len {R : List (Int × Int)} {l : List Int} (h : ¬ l.length = R.length) : areB R l = false := by
  unfold areB; rw [decide_eq_false h, Bool.false_and]
end Go.Proofs.Ytkkglkdnnfegkaa

namespace Go.Proofs.Ytkkglkdnnfegkaa
open Go.RowKit Go.Shelf Go.Eng
end Go.Proofs.Ytkkglkdnnfegkaa

namespace Go.Proofs.Ytkkglkdnnfegkaa
open Go.RowKit Go.Eng
def padU (l : List Int) (k : Nat) : List Int := (List.range 3).map fun i => if i < k then l.getD i 0 else 0
def padF (l : List Int) : List Int := padU l l.length
theorem padU_len (l : List Int) (k : Nat) : (padU l k).length = 3 := by simp [padU]
theorem padU_succ {l : List Int} {k : Nat} (h : k < 3) : (padU l k).set k (l.getD k 0) = padU l (k + 1) := by
  apply List.ext_getElem (by simp [padU])
  intro i h1 h2
  by_cases e : i = k
  · subst e; simp [padU]
  · rw [List.getElem_set_ne (fun h => e h.symm)]
    simp only [padU, List.getElem_map, List.getElem_range]
    by_cases h3 : i < k
    · rw [if_pos h3, if_pos (by omega)]
    · rw [if_neg h3, if_neg (by omega)]
end Go.Proofs.Ytkkglkdnnfegkaa

namespace Go.Proofs.Ytkkglkdnnfegkaa
open Go.RowKit Go.Shelf Go.Eng
set_option maxHeartbeats 1000000 in
theorem own_ok (w : World) (R : List (Int × Int)) (vr : Value) (hm : SlAt w vr 2 R.length (pairs R)) (l : List Int) (xl : Value) (hxl : SlAt w xl 1 l.length (ints l)) (hR3 : R.length ≤ 3) :
  Calls Try.prog 67 #[(Value.agg #[vr]), xl] w (Ret fun v w' => ∃ arr, arr.length = 3 ∧ (areB R l = true → arr = padF l) ∧ v = .tuple #[.agg (ints arr).toArray, .bool (areB R l)] ∧ Ext NoB w w') := by
 refine calls_enter Try.func67 rfl fun a0 hA0 => ?_
 replace hA0 : Fr 56 [] [(0, (Value.agg #[vr])), (1, xl)] a0 := hA0
 have hS0 : Sep NoB w w [(sl xl 1 l.length (ints l)), (sl vr 2 R.length (pairs R))] := sep_ro ⟨rfl, hxl, rfl, hm, trivial⟩
 refine c_seq ?_
 refine c_region ?_
 refine stw hA0 (op_box hS0 rfl (hA0.ev rfl) (cs := [vr]) rfl) rfl rfl (by decide) ?_
 rintro a1 _ w3 ⟨b4, rfl, hS5⟩ hA2; clear hA0 hS0 a0
 refine stw hA2 (op_alloc hS5 rfl ze_104 (cs := (ints ([0, 0, 0]))) rfl) rfl rfl (by decide) ?_
 rintro a6 _ w8 ⟨b9, rfl, hS10⟩ hA7; clear hA2 hS5 a1
 refine st hA7 (op_assign rfl (evc _ _)) rfl rfl (by decide) fun a11 hA12 => ?_; clear hA7 a6
 refine wl_nil ?_
 refine then_n ?_
 refine c_seq ?_
 refine c_seq ?_
 refine c_region ?_
 refine st hA12 (op_move rfl (hA12.ev rfl)) rfl rfl (by decide) fun a13 hA14 => ?_; clear hA12 a11
 refine st hA14 (op_lenS rfl un_40 (hA14.ev rfl) (hS10.sk 2 rfl)) rfl rfl (by decide) fun a15 hA16 => ?_; clear hA14 a13
 refine st hA16 (op_field rfl fd_33_0 (hA16.ev rfl)) rfl rfl (by decide) fun a17 hA18 => ?_; clear hA16 a15
 refine st hA18 (op_load1 rfl ty_28 (hA18.ev rfl) (hS10.bk 1 rfl) rfl) rfl rfl (by decide) fun a19 hA20 => ?_; clear hA18 a17
 refine st hA20 (op_lenS rfl un_28 (hA20.ev rfl) (hS10.sk 3 rfl)) rfl rfl (by decide) fun a21 hA22 => ?_; clear hA20 a19
 refine st hA22 (op_neq rfl (hA22.ev rfl) (hA22.ev rfl)) rfl rfl (by decide) fun a23 hA24 => ?_; clear hA22 a21
 refine wl_nil ?_
 refine then_n ?_
 by_cases hb25 : (l.length : Int) = (R.length : Int)
 ·skip
  rw [decide_eq_true hb25] at hA24
  refine c_false hA24 rfl ?_
  refine c_skip ?_
  refine then_n ?_
  refine c_seq ?_
  refine c_seq ?_
  have hA26 := hA24.as [(4, (bptr b9 0)), (2, (bptr b4 0)), (1, xl)] rfl; clear hA24
  refine c_region ?_
  refine st hA26 (op_move rfl (hA26.ev rfl)) rfl rfl (by decide) fun a27 hA28 => ?_; clear hA26 a23
  refine st hA28 (op_lenS rfl un_40 (hA28.ev rfl) (hS10.sk 2 rfl)) rfl rfl (by decide) fun a29 hA30 => ?_; clear hA28 a27
  refine st hA30 (op_move rfl (evc _ _)) rfl rfl (by decide) fun a31 hA32 => ?_; clear hA30 a29
  refine wl_nil ?_
  refine then_n ?_
  refine c_block ?_
  have hA33 := hA32.as [(17, (Value.int .i64 0)), (16, (Value.int .i64 (l.length : Int))), (15, xl), (4, (bptr b9 0)), (2, (bptr b4 0)), (1, xl)] rfl; clear hA32
  refine c_loop (G := Nat) (fun (k : Nat) a_ w_ => Fr 56 [] [(17, (Value.int .i64 (k : Int))), (16, (Value.int .i64 (l.length : Int))), (15, xl), (4, (bptr b9 0)), (2, (bptr b4 0)), (1, xl)] a_ ∧ Sep NoB w w_ [(blk b9 104 (ints (padU l k))), (blk b4 33 [vr]), (sl xl 1 l.length (ints l)), (sl vr 2 R.length (pairs R))] ∧ (k ≤ l.length) ∧ (l.length = R.length) ∧ (∀ i, i < k → rateAt R l i = true)) (fun k => l.length - k) 0 ⟨hA33.as _ rfl, hS10, by omega, by omega, (fun _ h => absurd h (Nat.not_lt_zero _))⟩ ?_
  clear hA33 hS10 a31
  rintro k a34 w36 ⟨hA35, hS37, hkk, hln, hra_⟩
  refine c_seq ?_
  refine c_region ?_
  refine st hA35 (op_lss rfl (hA35.ev rfl) (hA35.ev rfl)) rfl rfl (by decide) fun a38 hA39 => ?_; clear hA35 a34
  refine wl_nil ?_
  refine then_n ?_
  refine c_seq ?_
  by_cases hb40 : (k : Int) < (l.length : Int)
  ·skip
   rw [decide_eq_true hb40] at hA39
   refine c_true hA39 rfl ?_
   refine c_skip ?_
   refine then_n ?_
   refine c_seq ?_
   refine c_block ?_
   refine c_seq ?_
   refine c_region ?_
   refine st hA39 (op_move rfl (hA39.ev rfl)) rfl rfl (by decide) fun a41 hA42 => ?_; clear hA39 a38
   refine st hA42 (op_indexS rfl un_40 ty_3 (hA42.ev rfl) (i := k) (hA42.ev rfl) (hS37.sk 2 rfl) (by decide) (by omega)) rfl rfl (by decide) fun a43 hA44 => ?_; clear hA42 a41
   refine st hA44 (op_load1E rfl ty_3 (hA44.ev rfl) (hS37.sk 2 rfl) (ints_at (by omega))) rfl rfl (by decide) fun a45 hA46 => ?_; clear hA44 a43
   refine st hA46 (op_assign rfl (hA46.ev rfl)) rfl rfl (by decide) fun a47 hA48 => ?_; clear hA46 a45
   refine st hA48 (op_assign rfl (hA48.ev rfl)) rfl rfl (by decide) fun a49 hA50 => ?_; clear hA48 a47
   refine wl_nil ?_
   refine then_n ?_
   refine c_seq ?_
   refine c_seq ?_
   have hA51 := hA50.as [(7, (Value.int .i64 (l.getD k 0))), (6, (Value.int .i64 (k : Int))), (17, (Value.int .i64 (k : Int))), (16, (Value.int .i64 (l.length : Int))), (15, xl), (4, (bptr b9 0)), (2, (bptr b4 0)), (1, xl)] rfl; clear hA50
   rcases Bool.eq_false_or_eq_true ((decide (((R.getD k (0, 0)).1) ≤ (l.getD k 0)) && decide ((l.getD k 0) ≤ ((R.getD k (0, 0)).2)))) with hb53 | hb53
   ·skip
    have hq54 := hb53; simp only [Bool.and_eq_true, Bool.and_eq_false_iff, decide_eq_true_eq, decide_eq_false_iff_not] at hq54
    have hA55 := hA51.as [(7, (Value.int .i64 (l.getD k 0))), (6, (Value.int .i64 (k : Int))), (17, (Value.int .i64 (k : Int))), (16, (Value.int .i64 (l.length : Int))), (15, xl), (4, (bptr b9 0)), (2, (bptr b4 0)), (1, xl)] rfl; clear hA51
    by_cases hb57 : 0 < (k : Int)
    ·skip
     have hA58 := hA55.as [(7, (Value.int .i64 (l.getD k 0))), (6, (Value.int .i64 (k : Int))), (17, (Value.int .i64 (k : Int))), (16, (Value.int .i64 (l.length : Int))), (15, xl), (4, (bptr b9 0)), (2, (bptr b4 0)), (1, xl)] rfl; clear hA55
     refine c_drawn mixed hA58 hS37 25 [[], [], [1], [], [2, 3], [4], [5], [], [7], [], [8, 9], [10], [11], [0, 6, 12], [13], [14], [15], [15, 16], [15, 17], [18], [18], [18], [18, 21], [18, 20, 22], [18, 23]] [(Yd.val (Value.int .i64 (l.getD k 0))), (Yd.val (bptr b4 0)), (Yd.val vr), (Yd.val (Value.int .i64 (k : Int))), (Yd.val (eptr vr (k * 2))), (Yd.val (eptr vr (k * 2 + 0))), (Yd.val (Value.int .i64 ((R.getD k (0, 0)).1))), (Yd.val (bptr b4 0)), (Yd.val vr), (Yd.val (Value.int .i64 (k : Int))), (Yd.val (eptr vr (k * 2))), (Yd.val (eptr vr (k * 2 + 1))), (Yd.val (Value.int .i64 ((R.getD k (0, 0)).2))), (Yd.val (Value.bool true)), (Yd.val (Value.bool (!true))), (Yd.val (Value.bool (!true))), (Yd.val (Value.int .i64 (k : Int))), (Yd.val (Value.bool true)), (Yd.val (Value.bool true)), (Yd.val (Value.int .i64 (l.getD k 0))), (Yd.val xl), (Yd.val (Value.int .i64 (k : Int))), (Yd.val (Value.int .i64 ((k : Int) - 1))), (Yd.val (eptr xl (((k : Int) - 1).toNat * 1))), (Yd.val (Value.int .i64 (l.getD (((k : Int) - 1).toNat) 0)))] (by decide +kernel) rfl rfl ?_ ?_
     ·skip
      refine ⟨fun a w hA hS hd => by exact opG_of rfl (dv (op_move rfl (hA.ev rfl)) hS rfl), ?_⟩
      refine ⟨fun a w hA hS hd => by exact opG_of rfl (dv (op_field rfl fd_33_0 (hA.ev rfl)) hS rfl), ?_⟩
      refine ⟨fun a w hA hS hd => by have e1 := has_ev (hd 1 (by decide)) rfl (fun _ h => h); exact opG_of rfl (dv (op_load1 rfl ty_28 (tmp_ev e1) (hS.bk 1 rfl) rfl) hS rfl), ?_⟩
      refine ⟨fun a w hA hS hd => by exact opG_of rfl (dv (op_move rfl (hA.ev rfl)) hS rfl), ?_⟩
      refine ⟨fun a w hA hS hd => by have e2 := has_ev (hd 2 (by decide)) rfl (fun _ h => h); have e3 := has_ev (hd 3 (by decide)) rfl (fun _ h => h); exact opG_of rfl (dv (op_indexS rfl un_28 ty_42 (tmp_ev e2) (i := k) (tmp_ev e3) (hS.sk 3 rfl) (by decide) (by omega)) hS rfl), ?_⟩
      refine ⟨fun a w hA hS hd => by have e4 := has_ev (hd 4 (by decide)) rfl (fun _ h => h); exact opG_of rfl (dv (op_fieldS rfl fd_42_0 (tmp_ev e4) (hS.sk 3 rfl) (by rw [((hS.sk 3 rfl)).1]; omega)) hS rfl), ?_⟩
      refine ⟨fun a w hA hS hd => by have e5 := has_ev (hd 5 (by decide)) rfl (fun _ h => h); exact opG_of rfl (dv (op_load1E rfl ty_3 (tmp_ev e5) (hS.sk 3 rfl) (pairs_at0 (by omega))) hS rfl), ?_⟩
      refine ⟨fun a w hA hS hd => by exact opG_of rfl (dv (op_field rfl fd_33_0 (hA.ev rfl)) hS rfl), ?_⟩
      refine ⟨fun a w hA hS hd => by have e7 := has_ev (hd 7 (by decide)) rfl (fun _ h => h); exact opG_of rfl (dv (op_load1 rfl ty_28 (tmp_ev e7) (hS.bk 1 rfl) rfl) hS rfl), ?_⟩
      refine ⟨fun a w hA hS hd => by exact opG_of rfl (dv (op_move rfl (hA.ev rfl)) hS rfl), ?_⟩
      refine ⟨fun a w hA hS hd => by have e8 := has_ev (hd 8 (by decide)) rfl (fun _ h => h); have e9 := has_ev (hd 9 (by decide)) rfl (fun _ h => h); exact opG_of rfl (dv (op_indexS rfl un_28 ty_42 (tmp_ev e8) (i := k) (tmp_ev e9) (hS.sk 3 rfl) (by decide) (by omega)) hS rfl), ?_⟩
      refine ⟨fun a w hA hS hd => by have e10 := has_ev (hd 10 (by decide)) rfl (fun _ h => h); exact opG_of rfl (dv (op_fieldS rfl fd_42_1 (tmp_ev e10) (hS.sk 3 rfl) (by rw [((hS.sk 3 rfl)).1]; omega)) hS rfl), ?_⟩
      refine ⟨fun a w hA hS hd => by have e11 := has_ev (hd 11 (by decide)) rfl (fun _ h => h); exact opG_of rfl (dv (op_load1E rfl ty_3 (tmp_ev e11) (hS.sk 3 rfl) (pairs_at1 (by omega))) hS rfl), ?_⟩
      refine ⟨fun a w hA hS hd => by have e0 := has_ev (hd 0 (by decide)) rfl (fun _ h => h); have e6 := has_ev (hd 6 (by decide)) rfl (fun _ h => h); have e12 := has_ev (hd 12 (by decide)) rfl (fun _ h => h); exact opG_of rfl (dv (op_call rfl en_56 (ev3 (tmp_ev e0) (tmp_ev e6) (tmp_ev e12)) (within_ok _ _ _ _)) hS (by show Value.bool _ = _; simp only [hb53, decide_true, decide_false, Bool.not_true, Bool.not_false])), ?_⟩
      refine ⟨fun a w hA hS hd => by have e13 := has_ev (hd 13 (by decide)) rfl (fun _ h => h); exact opG_of rfl (dv (op_not rfl (tmp_ev e13)) hS rfl), ?_⟩
      refine ⟨fun a w hA hS hd => by have e14 := has_ev (hd 14 (by decide)) rfl (fun _ h => h); exact opG_of rfl (dv (op_move rfl (tmp_ev e14)) hS rfl), ?_⟩
      refine ⟨fun a w hA hS hd => by have e15 := has_ev (hd 15 (by decide)) rfl (fun _ h => h); exact opG_yes rfl rfl e15 (dv (op_move rfl (hA.ev rfl)) hS rfl), ?_⟩
      refine ⟨fun a w hA hS hd => by have e15 := has_ev (hd 15 (by decide)) rfl (fun _ h => h); have e16 := has_ev (hd 16 (by decide)) rfl (fun _ h => h); exact opG_yes rfl rfl e15 (dv (op_gtr rfl (tmp_ev e16) (evc _ _)) hS (by show Value.bool _ = _; simp only [decide_eq_true hb57, decide_true, decide_false, Bool.not_true, Bool.not_false])), ?_⟩
      refine ⟨fun a w hA hS hd => by have e15 := has_ev (hd 15 (by decide)) rfl (fun _ h => h); have e17 := has_ev (hd 17 (by decide)) rfl (fun _ h => h); exact opG_yes rfl rfl e15 (dv (op_move rfl (tmp_ev e17)) hS rfl), ?_⟩
      refine ⟨fun a w hA hS hd => by have e18 := has_ev (hd 18 (by decide)) rfl (fun _ h => h); exact opG_yes rfl rfl e18 (dv (op_move rfl (hA.ev rfl)) hS rfl), ?_⟩
      refine ⟨fun a w hA hS hd => by have e18 := has_ev (hd 18 (by decide)) rfl (fun _ h => h); exact opG_yes rfl rfl e18 (dv (op_move rfl (hA.ev rfl)) hS rfl), ?_⟩
      refine ⟨fun a w hA hS hd => by have e18 := has_ev (hd 18 (by decide)) rfl (fun _ h => h); exact opG_yes rfl rfl e18 (dv (op_move rfl (hA.ev rfl)) hS rfl), ?_⟩
      refine ⟨fun a w hA hS hd => by have e18 := has_ev (hd 18 (by decide)) rfl (fun _ h => h); have e21 := has_ev (hd 21 (by decide)) rfl (fun _ h => h); exact opG_yes rfl rfl e18 (dv (op_sub rfl (tmp_ev e21) (evc _ _) (by omega) (by omega)) hS rfl), ?_⟩
      refine ⟨fun a w hA hS hd => by have e18 := has_ev (hd 18 (by decide)) rfl (fun _ h => h); have e20 := has_ev (hd 20 (by decide)) rfl (fun _ h => h); have e22 := has_ev (hd 22 (by decide)) rfl (fun _ h => h); exact opG_yes rfl rfl e18 (dv (op_indexS rfl un_40 ty_3 (tmp_ev e20) (i := ((k : Int) - 1).toNat) ((tmp_ev e22).trans (int_nat (by omega))) (hS.sk 2 rfl) (by decide) (by omega)) hS rfl), ?_⟩
      refine ⟨fun a w hA hS hd => by have e18 := has_ev (hd 18 (by decide)) rfl (fun _ h => h); have e23 := has_ev (hd 23 (by decide)) rfl (fun _ h => h); exact opG_yes rfl rfl e18 (dv (op_load1E rfl ty_3 (tmp_ev e23) (hS.sk 2 rfl) (ints_at (by omega))) hS rfl), ?_⟩
      trivial
     intro a60 w61 hA62 hS63 hH64; clear hA58 hS37
     have hA65 := hA62.add (has_ev (hH64 15 (by decide)) rfl (fun _ h => h)); clear hA62
     have hA66 := hA65.add (has_ev (hH64 18 (by decide)) rfl (fun _ h => h)); clear hA65
     have hA67 := hA66.add (has_ev (hH64 19 (by decide)) rfl (fun _ h => h)); clear hA66
     have hA68 := hA67.add (has_ev (hH64 24 (by decide)) rfl (fun _ h => h)); clear hA67
     clear hH64
     refine stg hA68 (op_lss rfl (hA68.ev rfl) (hA68.ev rfl)) rfl rfl rfl rfl (by decide) fun a69 hA70 => ?_; clear hA68 a60
     refine stg hA70 (op_pick_t rfl (hA70.ev rfl) (hA70.ev rfl)) rfl rfl rfl rfl (by decide) fun a71 hA72 => ?_; clear hA70 a69
     refine st hA72 (op_pick_f rfl (hA72.ev rfl) (hA72.ev rfl)) rfl rfl (by decide) fun a73 hA74 => ?_; clear hA72 a71
     refine wl_nil ?_
     refine then_n ?_
     by_cases hb75 : (l.getD k 0) < (l.getD (((k : Int) - 1).toNat) 0)
     ·skip
      rw [decide_eq_true hb75] at hA74
      refine c_true hA74 rfl ?_
      refine c_seq ?_
      have hA76 := hA74.as [(4, (bptr b9 0))] rfl; clear hA74
      refine c_region ?_
      refine st hA76 (op_loadA rfl ty_104 (hA76.ev rfl) (hS63.bk 0 rfl) (l := (ints (padU l k))) (drop_take_all _ _ (by rw [ints, List.length_map, padU_len])) (by rw [ints, List.length_map, padU_len])) rfl rfl (by decide) fun a77 hA78 => ?_; clear hA76 a73
      refine sts hA78 (op_store hS63 rfl ty_104 (hA78.ev rfl) (hA78.ev rfl) (i := 0) rfl (vs := (ints (padU l k))) rfl (by rw [ints, List.length_map, padU_len]) (ints_one _) (by rw [ints, List.length_map, padU_len]; omega)) rfl rfl ?_
      intro _ w79 hS80 hA82; have hS81 := hS80.blk_say (i := 0) rfl (cs' := (ints (padU l k))) (setFrom_all _ _ (by rfl)); clear hS80 hA78 hS63
      refine st hA82 (op_assign rfl (evc _ _)) rfl rfl (by decide) fun a83 hA84 => ?_; clear hA82 a77
      refine wl_nil ?_
      refine then_n ?_
      refine c_ret ?_
      refine then_ret ?_
      refine blk_ret ?_
      refine then_ret ?_
      refine then_ret ?_
      refine blk_ret ?_
      refine then_ret ?_
      refine fin_run hA84 (.inl rfl) (run_results2 hA84 rfl (.cellA rfl ty_104 (hS81.bk 0 rfl) (l := (ints (padU l k))) (drop_take_all _ _ (by rw [ints, List.length_map, padU_len])) (by rw [ints, List.length_map, padU_len])) (.tmp rfl)) ?_
      have hz : areB R l = false := by first | exact areB_len (by omega) | exact areB_no (k := k) (by omega) (rateAt_n1 (by omega)) | exact areB_no (k := k) (by omega) (rateAt_n2 (by omega) (by assumption))
      exact ⟨(padU l k), (by first | rfl | exact padU_len _ _), (fun h => absurd (hz.symm.trans h) (by decide)), by rw [hz], hS81.ext⟩
     ·skip
      rw [decide_eq_false hb75] at hA74
      refine c_false hA74 rfl ?_
      refine c_skip ?_
      refine then_n ?_
      have hA85 := hA74.as [(7, (Value.int .i64 (l.getD k 0))), (6, (Value.int .i64 (k : Int))), (17, (Value.int .i64 (k : Int))), (16, (Value.int .i64 (l.length : Int))), (15, xl), (4, (bptr b9 0)), (2, (bptr b4 0)), (1, xl)] rfl; clear hA74
      refine c_region ?_
      refine st hA85 (op_move rfl (hA85.ev rfl)) rfl rfl (by decide) fun a86 hA87 => ?_; clear hA85 a73
      refine st hA87 (op_move rfl (hA87.ev rfl)) rfl rfl (by decide) fun a88 hA89 => ?_; clear hA87 a86
      refine st hA89 (op_indexA rfl un_104 ty_3 (hA89.ev rfl) (i := k) (hA89.ev rfl) (by omega)) rfl rfl (by decide) fun a90 hA91 => ?_; clear hA89 a88
      refine sts hA91 (op_store hS63 rfl ty_3 (hA91.ev rfl) (hA91.ev rfl) (i := 0) rfl (vs := [(Value.int .i64 (l.getD k 0))]) rfl rfl rfl (by rw [ints, List.length_map, padU_len]; omega)) rfl rfl ?_
      intro _ w92 hS93 hA95; have hS94 := hS93.blk_say (i := 0) rfl (cs' := (ints (padU l (k + 1)))) (by rw [setFrom_one, Nat.mul_one, Nat.zero_add, ints_set, padU_succ (by omega)]); clear hS93 hA91 hS63
      refine wl_nil ?_
      refine blk_n ?_
      refine then_n ?_
      refine c_region ?_
      refine st hA95 (op_add rfl (hA95.ev rfl) (evc _ _) (by omega) (by omega)) rfl rfl (by decide) fun a96 hA97 => ?_; clear hA95 a90
      refine st hA97 (op_move rfl (hA97.ev rfl)) rfl rfl (by decide) fun a98 hA99 => ?_; clear hA97 a96
      refine wl_nil ?_
      exact then_n ⟨k + 1, ⟨hA99.as _ rfl, hS94, by omega, hln, (fun i hi => by rcases Nat.lt_succ_iff_lt_or_eq.1 hi with h | h; exact hra_ i h; subst h; exact rateAt_y1 (by omega) (by first | exact .inr (.inr (by assumption)) | exact .inr (.inl (by omega))))⟩, by omega⟩
    ·skip
     have hA100 := hA55.as [(7, (Value.int .i64 (l.getD k 0))), (6, (Value.int .i64 (k : Int))), (17, (Value.int .i64 (k : Int))), (16, (Value.int .i64 (l.length : Int))), (15, xl), (4, (bptr b9 0)), (2, (bptr b4 0)), (1, xl)] rfl; clear hA55
     refine c_drawn mixed hA100 hS37 25 [[], [], [1], [], [2, 3], [4], [5], [], [7], [], [8, 9], [10], [11], [0, 6, 12], [13], [14], [15], [15, 16], [15, 17], [18], [18], [18], [18, 21], [18, 20, 22], [18, 23]] [(Yd.val (Value.int .i64 (l.getD k 0))), (Yd.val (bptr b4 0)), (Yd.val vr), (Yd.val (Value.int .i64 (k : Int))), (Yd.val (eptr vr (k * 2))), (Yd.val (eptr vr (k * 2 + 0))), (Yd.val (Value.int .i64 ((R.getD k (0, 0)).1))), (Yd.val (bptr b4 0)), (Yd.val vr), (Yd.val (Value.int .i64 (k : Int))), (Yd.val (eptr vr (k * 2))), (Yd.val (eptr vr (k * 2 + 1))), (Yd.val (Value.int .i64 ((R.getD k (0, 0)).2))), (Yd.val (Value.bool true)), (Yd.val (Value.bool (!true))), (Yd.val (Value.bool (!true))), (Yd.val (Value.int .i64 (k : Int))), (Yd.val (Value.bool false)), (Yd.val (Value.bool false)), (Yd.val undef), (Yd.val undef), (Yd.val undef), (Yd.val undef), (Yd.val undef), (Yd.val undef)] (by decide +kernel) rfl rfl ?_ ?_
     ·skip
      refine ⟨fun a w hA hS hd => by exact opG_of rfl (dv (op_move rfl (hA.ev rfl)) hS rfl), ?_⟩
      refine ⟨fun a w hA hS hd => by exact opG_of rfl (dv (op_field rfl fd_33_0 (hA.ev rfl)) hS rfl), ?_⟩
      refine ⟨fun a w hA hS hd => by have e1 := has_ev (hd 1 (by decide)) rfl (fun _ h => h); exact opG_of rfl (dv (op_load1 rfl ty_28 (tmp_ev e1) (hS.bk 1 rfl) rfl) hS rfl), ?_⟩
      refine ⟨fun a w hA hS hd => by exact opG_of rfl (dv (op_move rfl (hA.ev rfl)) hS rfl), ?_⟩
      refine ⟨fun a w hA hS hd => by have e2 := has_ev (hd 2 (by decide)) rfl (fun _ h => h); have e3 := has_ev (hd 3 (by decide)) rfl (fun _ h => h); exact opG_of rfl (dv (op_indexS rfl un_28 ty_42 (tmp_ev e2) (i := k) (tmp_ev e3) (hS.sk 3 rfl) (by decide) (by omega)) hS rfl), ?_⟩
      refine ⟨fun a w hA hS hd => by have e4 := has_ev (hd 4 (by decide)) rfl (fun _ h => h); exact opG_of rfl (dv (op_fieldS rfl fd_42_0 (tmp_ev e4) (hS.sk 3 rfl) (by rw [((hS.sk 3 rfl)).1]; omega)) hS rfl), ?_⟩
      refine ⟨fun a w hA hS hd => by have e5 := has_ev (hd 5 (by decide)) rfl (fun _ h => h); exact opG_of rfl (dv (op_load1E rfl ty_3 (tmp_ev e5) (hS.sk 3 rfl) (pairs_at0 (by omega))) hS rfl), ?_⟩
      refine ⟨fun a w hA hS hd => by exact opG_of rfl (dv (op_field rfl fd_33_0 (hA.ev rfl)) hS rfl), ?_⟩
      refine ⟨fun a w hA hS hd => by have e7 := has_ev (hd 7 (by decide)) rfl (fun _ h => h); exact opG_of rfl (dv (op_load1 rfl ty_28 (tmp_ev e7) (hS.bk 1 rfl) rfl) hS rfl), ?_⟩
      refine ⟨fun a w hA hS hd => by exact opG_of rfl (dv (op_move rfl (hA.ev rfl)) hS rfl), ?_⟩
      refine ⟨fun a w hA hS hd => by have e8 := has_ev (hd 8 (by decide)) rfl (fun _ h => h); have e9 := has_ev (hd 9 (by decide)) rfl (fun _ h => h); exact opG_of rfl (dv (op_indexS rfl un_28 ty_42 (tmp_ev e8) (i := k) (tmp_ev e9) (hS.sk 3 rfl) (by decide) (by omega)) hS rfl), ?_⟩
      refine ⟨fun a w hA hS hd => by have e10 := has_ev (hd 10 (by decide)) rfl (fun _ h => h); exact opG_of rfl (dv (op_fieldS rfl fd_42_1 (tmp_ev e10) (hS.sk 3 rfl) (by rw [((hS.sk 3 rfl)).1]; omega)) hS rfl), ?_⟩
      refine ⟨fun a w hA hS hd => by have e11 := has_ev (hd 11 (by decide)) rfl (fun _ h => h); exact opG_of rfl (dv (op_load1E rfl ty_3 (tmp_ev e11) (hS.sk 3 rfl) (pairs_at1 (by omega))) hS rfl), ?_⟩
      refine ⟨fun a w hA hS hd => by have e0 := has_ev (hd 0 (by decide)) rfl (fun _ h => h); have e6 := has_ev (hd 6 (by decide)) rfl (fun _ h => h); have e12 := has_ev (hd 12 (by decide)) rfl (fun _ h => h); exact opG_of rfl (dv (op_call rfl en_56 (ev3 (tmp_ev e0) (tmp_ev e6) (tmp_ev e12)) (within_ok _ _ _ _)) hS (by show Value.bool _ = _; simp only [hb53, decide_true, decide_false, Bool.not_true, Bool.not_false])), ?_⟩
      refine ⟨fun a w hA hS hd => by have e13 := has_ev (hd 13 (by decide)) rfl (fun _ h => h); exact opG_of rfl (dv (op_not rfl (tmp_ev e13)) hS rfl), ?_⟩
      refine ⟨fun a w hA hS hd => by have e14 := has_ev (hd 14 (by decide)) rfl (fun _ h => h); exact opG_of rfl (dv (op_move rfl (tmp_ev e14)) hS rfl), ?_⟩
      refine ⟨fun a w hA hS hd => by have e15 := has_ev (hd 15 (by decide)) rfl (fun _ h => h); exact opG_yes rfl rfl e15 (dv (op_move rfl (hA.ev rfl)) hS rfl), ?_⟩
      refine ⟨fun a w hA hS hd => by have e15 := has_ev (hd 15 (by decide)) rfl (fun _ h => h); have e16 := has_ev (hd 16 (by decide)) rfl (fun _ h => h); exact opG_yes rfl rfl e15 (dv (op_gtr rfl (tmp_ev e16) (evc _ _)) hS (by show Value.bool _ = _; simp only [decide_eq_false hb57, decide_true, decide_false, Bool.not_true, Bool.not_false])), ?_⟩
      refine ⟨fun a w hA hS hd => by have e15 := has_ev (hd 15 (by decide)) rfl (fun _ h => h); have e17 := has_ev (hd 17 (by decide)) rfl (fun _ h => h); exact opG_yes rfl rfl e15 (dv (op_move rfl (tmp_ev e17)) hS rfl), ?_⟩
      refine ⟨fun a w hA hS hd => by have e18 := has_ev (hd 18 (by decide)) rfl (fun _ h => h); exact opG_no rfl rfl e18 rfl (dskip hS rfl), ?_⟩
      refine ⟨fun a w hA hS hd => by have e18 := has_ev (hd 18 (by decide)) rfl (fun _ h => h); exact opG_no rfl rfl e18 rfl (dskip hS rfl), ?_⟩
      refine ⟨fun a w hA hS hd => by have e18 := has_ev (hd 18 (by decide)) rfl (fun _ h => h); exact opG_no rfl rfl e18 rfl (dskip hS rfl), ?_⟩
      refine ⟨fun a w hA hS hd => by have e18 := has_ev (hd 18 (by decide)) rfl (fun _ h => h); have e21 := has_ev (hd 21 (by decide)) rfl (fun _ h => h); exact opG_no rfl rfl e18 rfl (dskip hS rfl), ?_⟩
      refine ⟨fun a w hA hS hd => by have e18 := has_ev (hd 18 (by decide)) rfl (fun _ h => h); have e20 := has_ev (hd 20 (by decide)) rfl (fun _ h => h); have e22 := has_ev (hd 22 (by decide)) rfl (fun _ h => h); exact opG_no rfl rfl e18 rfl (dskip hS rfl), ?_⟩
      refine ⟨fun a w hA hS hd => by have e18 := has_ev (hd 18 (by decide)) rfl (fun _ h => h); have e23 := has_ev (hd 23 (by decide)) rfl (fun _ h => h); exact opG_no rfl rfl e18 rfl (dskip hS rfl), ?_⟩
      trivial
     intro a102 w103 hA104 hS105 hH106; clear hA100 hS37
     have hA107 := hA104.add (has_ev (hH106 15 (by decide)) rfl (fun _ h => h)); clear hA104
     have hA108 := hA107.add (has_ev (hH106 18 (by decide)) rfl (fun _ h => h)); clear hA107
     have hA109 := hA108.add (has_ev (hH106 19 (by decide)) rfl (fun _ h => h)); clear hA108
     have hA110 := hA109.add (has_ev (hH106 24 (by decide)) rfl (fun _ h => h)); clear hA109
     clear hH106
     refine skp hA110 rfl rfl rfl rfl rfl (by decide) fun a111 hA112 => ?_; clear hA110 a102
     refine stg hA112 (op_pick_f rfl (hA112.ev rfl) (evc _ _)) rfl rfl rfl rfl (by decide) fun a113 hA114 => ?_; clear hA112 a111
     refine st hA114 (op_pick_f rfl (hA114.ev rfl) (hA114.ev rfl)) rfl rfl (by decide) fun a115 hA116 => ?_; clear hA114 a113
     refine wl_nil ?_
     refine then_n ?_
     refine c_false hA116 rfl ?_
     refine c_skip ?_
     refine then_n ?_
     have hA117 := hA116.as [(7, (Value.int .i64 (l.getD k 0))), (6, (Value.int .i64 (k : Int))), (17, (Value.int .i64 (k : Int))), (16, (Value.int .i64 (l.length : Int))), (15, xl), (4, (bptr b9 0)), (2, (bptr b4 0)), (1, xl)] rfl; clear hA116
     refine c_region ?_
     refine st hA117 (op_move rfl (hA117.ev rfl)) rfl rfl (by decide) fun a118 hA119 => ?_; clear hA117 a115
     refine st hA119 (op_move rfl (hA119.ev rfl)) rfl rfl (by decide) fun a120 hA121 => ?_; clear hA119 a118
     refine st hA121 (op_indexA rfl un_104 ty_3 (hA121.ev rfl) (i := k) (hA121.ev rfl) (by omega)) rfl rfl (by decide) fun a122 hA123 => ?_; clear hA121 a120
     refine sts hA123 (op_store hS105 rfl ty_3 (hA123.ev rfl) (hA123.ev rfl) (i := 0) rfl (vs := [(Value.int .i64 (l.getD k 0))]) rfl rfl rfl (by rw [ints, List.length_map, padU_len]; omega)) rfl rfl ?_
     intro _ w124 hS125 hA127; have hS126 := hS125.blk_say (i := 0) rfl (cs' := (ints (padU l (k + 1)))) (by rw [setFrom_one, Nat.mul_one, Nat.zero_add, ints_set, padU_succ (by omega)]); clear hS125 hA123 hS105
     refine wl_nil ?_
     refine blk_n ?_
     refine then_n ?_
     refine c_region ?_
     refine st hA127 (op_add rfl (hA127.ev rfl) (evc _ _) (by omega) (by omega)) rfl rfl (by decide) fun a128 hA129 => ?_; clear hA127 a122
     refine st hA129 (op_move rfl (hA129.ev rfl)) rfl rfl (by decide) fun a130 hA131 => ?_; clear hA129 a128
     refine wl_nil ?_
     exact then_n ⟨k + 1, ⟨hA131.as _ rfl, hS126, by omega, hln, (fun i hi => by rcases Nat.lt_succ_iff_lt_or_eq.1 hi with h | h; exact hra_ i h; subst h; exact rateAt_y1 (by omega) (by first | exact .inr (.inr (by assumption)) | exact .inr (.inl (by omega))))⟩, by omega⟩
   ·skip
    have hq132 := hb53; simp only [Bool.and_eq_true, Bool.and_eq_false_iff, decide_eq_true_eq, decide_eq_false_iff_not] at hq132
    have hA133 := hA51.as [(7, (Value.int .i64 (l.getD k 0))), (6, (Value.int .i64 (k : Int))), (17, (Value.int .i64 (k : Int))), (16, (Value.int .i64 (l.length : Int))), (15, xl), (4, (bptr b9 0)), (2, (bptr b4 0)), (1, xl)] rfl; clear hA51
    refine c_drawn mixed hA133 hS37 25 [[], [], [1], [], [2, 3], [4], [5], [], [7], [], [8, 9], [10], [11], [0, 6, 12], [13], [14], [15], [15, 16], [15, 17], [18], [18], [18], [18, 21], [18, 20, 22], [18, 23]] [(Yd.val (Value.int .i64 (l.getD k 0))), (Yd.val (bptr b4 0)), (Yd.val vr), (Yd.val (Value.int .i64 (k : Int))), (Yd.val (eptr vr (k * 2))), (Yd.val (eptr vr (k * 2 + 0))), (Yd.val (Value.int .i64 ((R.getD k (0, 0)).1))), (Yd.val (bptr b4 0)), (Yd.val vr), (Yd.val (Value.int .i64 (k : Int))), (Yd.val (eptr vr (k * 2))), (Yd.val (eptr vr (k * 2 + 1))), (Yd.val (Value.int .i64 ((R.getD k (0, 0)).2))), (Yd.val (Value.bool false)), (Yd.val (Value.bool (!false))), (Yd.val (Value.bool (!false))), (Yd.val undef), (Yd.val undef), (Yd.val undef), (Yd.val undef), (Yd.val undef), (Yd.val undef), (Yd.val undef), (Yd.val undef), (Yd.val undef)] (by decide +kernel) rfl rfl ?_ ?_
    ·skip
     refine ⟨fun a w hA hS hd => by exact opG_of rfl (dv (op_move rfl (hA.ev rfl)) hS rfl), ?_⟩
     refine ⟨fun a w hA hS hd => by exact opG_of rfl (dv (op_field rfl fd_33_0 (hA.ev rfl)) hS rfl), ?_⟩
     refine ⟨fun a w hA hS hd => by have e1 := has_ev (hd 1 (by decide)) rfl (fun _ h => h); exact opG_of rfl (dv (op_load1 rfl ty_28 (tmp_ev e1) (hS.bk 1 rfl) rfl) hS rfl), ?_⟩
     refine ⟨fun a w hA hS hd => by exact opG_of rfl (dv (op_move rfl (hA.ev rfl)) hS rfl), ?_⟩
     refine ⟨fun a w hA hS hd => by have e2 := has_ev (hd 2 (by decide)) rfl (fun _ h => h); have e3 := has_ev (hd 3 (by decide)) rfl (fun _ h => h); exact opG_of rfl (dv (op_indexS rfl un_28 ty_42 (tmp_ev e2) (i := k) (tmp_ev e3) (hS.sk 3 rfl) (by decide) (by omega)) hS rfl), ?_⟩
     refine ⟨fun a w hA hS hd => by have e4 := has_ev (hd 4 (by decide)) rfl (fun _ h => h); exact opG_of rfl (dv (op_fieldS rfl fd_42_0 (tmp_ev e4) (hS.sk 3 rfl) (by rw [((hS.sk 3 rfl)).1]; omega)) hS rfl), ?_⟩
     refine ⟨fun a w hA hS hd => by have e5 := has_ev (hd 5 (by decide)) rfl (fun _ h => h); exact opG_of rfl (dv (op_load1E rfl ty_3 (tmp_ev e5) (hS.sk 3 rfl) (pairs_at0 (by omega))) hS rfl), ?_⟩
     refine ⟨fun a w hA hS hd => by exact opG_of rfl (dv (op_field rfl fd_33_0 (hA.ev rfl)) hS rfl), ?_⟩
     refine ⟨fun a w hA hS hd => by have e7 := has_ev (hd 7 (by decide)) rfl (fun _ h => h); exact opG_of rfl (dv (op_load1 rfl ty_28 (tmp_ev e7) (hS.bk 1 rfl) rfl) hS rfl), ?_⟩
     refine ⟨fun a w hA hS hd => by exact opG_of rfl (dv (op_move rfl (hA.ev rfl)) hS rfl), ?_⟩
     refine ⟨fun a w hA hS hd => by have e8 := has_ev (hd 8 (by decide)) rfl (fun _ h => h); have e9 := has_ev (hd 9 (by decide)) rfl (fun _ h => h); exact opG_of rfl (dv (op_indexS rfl un_28 ty_42 (tmp_ev e8) (i := k) (tmp_ev e9) (hS.sk 3 rfl) (by decide) (by omega)) hS rfl), ?_⟩
     refine ⟨fun a w hA hS hd => by have e10 := has_ev (hd 10 (by decide)) rfl (fun _ h => h); exact opG_of rfl (dv (op_fieldS rfl fd_42_1 (tmp_ev e10) (hS.sk 3 rfl) (by rw [((hS.sk 3 rfl)).1]; omega)) hS rfl), ?_⟩
     refine ⟨fun a w hA hS hd => by have e11 := has_ev (hd 11 (by decide)) rfl (fun _ h => h); exact opG_of rfl (dv (op_load1E rfl ty_3 (tmp_ev e11) (hS.sk 3 rfl) (pairs_at1 (by omega))) hS rfl), ?_⟩
     refine ⟨fun a w hA hS hd => by have e0 := has_ev (hd 0 (by decide)) rfl (fun _ h => h); have e6 := has_ev (hd 6 (by decide)) rfl (fun _ h => h); have e12 := has_ev (hd 12 (by decide)) rfl (fun _ h => h); exact opG_of rfl (dv (op_call rfl en_56 (ev3 (tmp_ev e0) (tmp_ev e6) (tmp_ev e12)) (within_ok _ _ _ _)) hS (by show Value.bool _ = _; simp only [hb53, decide_true, decide_false, Bool.not_true, Bool.not_false])), ?_⟩
     refine ⟨fun a w hA hS hd => by have e13 := has_ev (hd 13 (by decide)) rfl (fun _ h => h); exact opG_of rfl (dv (op_not rfl (tmp_ev e13)) hS rfl), ?_⟩
     refine ⟨fun a w hA hS hd => by have e14 := has_ev (hd 14 (by decide)) rfl (fun _ h => h); exact opG_of rfl (dv (op_move rfl (tmp_ev e14)) hS rfl), ?_⟩
     refine ⟨fun a w hA hS hd => by have e15 := has_ev (hd 15 (by decide)) rfl (fun _ h => h); exact opG_no rfl rfl e15 rfl (dskip hS rfl), ?_⟩
     refine ⟨fun a w hA hS hd => by have e15 := has_ev (hd 15 (by decide)) rfl (fun _ h => h); have e16 := has_ev (hd 16 (by decide)) rfl (fun _ h => h); exact opG_no rfl rfl e15 rfl (dskip hS rfl), ?_⟩
     refine ⟨fun a w hA hS hd => by have e15 := has_ev (hd 15 (by decide)) rfl (fun _ h => h); have e17 := has_ev (hd 17 (by decide)) rfl (fun _ h => h); exact opG_no rfl rfl e15 rfl (dskip hS rfl), ?_⟩
     refine ⟨fun a w hA hS hd => by have e18 := has_ev (hd 18 (by decide)) rfl (fun _ h => h); exact opG_noU rfl rfl e18 (dskip hS rfl), ?_⟩
     refine ⟨fun a w hA hS hd => by have e18 := has_ev (hd 18 (by decide)) rfl (fun _ h => h); exact opG_noU rfl rfl e18 (dskip hS rfl), ?_⟩
     refine ⟨fun a w hA hS hd => by have e18 := has_ev (hd 18 (by decide)) rfl (fun _ h => h); exact opG_noU rfl rfl e18 (dskip hS rfl), ?_⟩
     refine ⟨fun a w hA hS hd => by have e18 := has_ev (hd 18 (by decide)) rfl (fun _ h => h); have e21 := has_ev (hd 21 (by decide)) rfl (fun _ h => h); exact opG_noU rfl rfl e18 (dskip hS rfl), ?_⟩
     refine ⟨fun a w hA hS hd => by have e18 := has_ev (hd 18 (by decide)) rfl (fun _ h => h); have e20 := has_ev (hd 20 (by decide)) rfl (fun _ h => h); have e22 := has_ev (hd 22 (by decide)) rfl (fun _ h => h); exact opG_noU rfl rfl e18 (dskip hS rfl), ?_⟩
     refine ⟨fun a w hA hS hd => by have e18 := has_ev (hd 18 (by decide)) rfl (fun _ h => h); have e23 := has_ev (hd 23 (by decide)) rfl (fun _ h => h); exact opG_noU rfl rfl e18 (dskip hS rfl), ?_⟩
     trivial
    intro a135 w136 hA137 hS138 hH139; clear hA133 hS37
    have hA140 := hA137.add (has_ev (hH139 15 (by decide)) rfl (fun _ h => h)); clear hA137
    have hA141 := hA140.add (has_ev (hH139 18 (by decide)) rfl (fun _ h => h)); clear hA140
    have hA142 := hA141.add (has_ev (hH139 19 (by decide)) rfl (fun _ h => h)); clear hA141
    have hA143 := hA142.add (has_ev (hH139 24 (by decide)) rfl (fun _ h => h)); clear hA142
    clear hH139
    refine skpU hA143 rfl rfl rfl rfl (by decide) fun a144 hA145 => ?_; clear hA143 a135
    refine skp hA145 rfl rfl rfl rfl rfl (by decide) fun a146 hA147 => ?_; clear hA145 a144
    refine st hA147 (op_pick_t rfl (hA147.ev rfl) (evc _ _)) rfl rfl (by decide) fun a148 hA149 => ?_; clear hA147 a146
    refine wl_nil ?_
    refine then_n ?_
    refine c_true hA149 rfl ?_
    refine c_seq ?_
    have hA150 := hA149.as [(4, (bptr b9 0))] rfl; clear hA149
    refine c_region ?_
    refine st hA150 (op_loadA rfl ty_104 (hA150.ev rfl) (hS138.bk 0 rfl) (l := (ints (padU l k))) (drop_take_all _ _ (by rw [ints, List.length_map, padU_len])) (by rw [ints, List.length_map, padU_len])) rfl rfl (by decide) fun a151 hA152 => ?_; clear hA150 a148
    refine sts hA152 (op_store hS138 rfl ty_104 (hA152.ev rfl) (hA152.ev rfl) (i := 0) rfl (vs := (ints (padU l k))) rfl (by rw [ints, List.length_map, padU_len]) (ints_one _) (by rw [ints, List.length_map, padU_len]; omega)) rfl rfl ?_
    intro _ w153 hS154 hA156; have hS155 := hS154.blk_say (i := 0) rfl (cs' := (ints (padU l k))) (setFrom_all _ _ (by rfl)); clear hS154 hA152 hS138
    refine st hA156 (op_assign rfl (evc _ _)) rfl rfl (by decide) fun a157 hA158 => ?_; clear hA156 a151
    refine wl_nil ?_
    refine then_n ?_
    refine c_ret ?_
    refine then_ret ?_
    refine blk_ret ?_
    refine then_ret ?_
    refine then_ret ?_
    refine blk_ret ?_
    refine then_ret ?_
    refine fin_run hA158 (.inl rfl) (run_results2 hA158 rfl (.cellA rfl ty_104 (hS155.bk 0 rfl) (l := (ints (padU l k))) (drop_take_all _ _ (by rw [ints, List.length_map, padU_len])) (by rw [ints, List.length_map, padU_len])) (.tmp rfl)) ?_
    have hz : areB R l = false := by first | exact areB_len (by omega) | exact areB_no (k := k) (by omega) (rateAt_n1 (by omega)) | exact areB_no (k := k) (by omega) (rateAt_n2 (by omega) (by assumption))
    exact ⟨(padU l k), (by first | rfl | exact padU_len _ _), (fun h => absurd (hz.symm.trans h) (by decide)), by rw [hz], hS155.ext⟩
  ·skip
   rw [decide_eq_false hb40] at hA39
   refine c_false hA39 rfl ?_
   refine c_exit ?_
   refine then_exit ?_
   refine then_exit ?_
   refine blk_hit ?_
   refine then_n ?_
   refine c_seq ?_
   have hA159 := hA39.as [(4, (bptr b9 0))] rfl; clear hA39
   refine c_region ?_
   refine st hA159 (op_loadA rfl ty_104 (hA159.ev rfl) (hS37.bk 0 rfl) (l := (ints (padU l k))) (drop_take_all _ _ (by rw [ints, List.length_map, padU_len])) (by rw [ints, List.length_map, padU_len])) rfl rfl (by decide) fun a160 hA161 => ?_; clear hA159 a38
   refine sts hA161 (op_store hS37 rfl ty_104 (hA161.ev rfl) (hA161.ev rfl) (i := 0) rfl (vs := (ints (padU l k))) rfl (by rw [ints, List.length_map, padU_len]) (ints_one _) (by rw [ints, List.length_map, padU_len]; omega)) rfl rfl ?_
   intro _ w162 hS163 hA165; have hS164 := hS163.blk_say (i := 0) rfl (cs' := (ints (padU l k))) (setFrom_all _ _ (by rfl)); clear hS163 hA161 hS37
   refine st hA165 (op_assign rfl (evc _ _)) rfl rfl (by decide) fun a166 hA167 => ?_; clear hA165 a160
   refine wl_nil ?_
   refine then_n ?_
   refine c_ret ?_
   refine fin_run hA167 (.inl rfl) (run_results2 hA167 rfl (.cellA rfl ty_104 (hS164.bk 0 rfl) (l := (ints (padU l k))) (drop_take_all _ _ (by rw [ints, List.length_map, padU_len])) (by rw [ints, List.length_map, padU_len])) (.tmp rfl)) ?_
   have hz := areB_yes (R := R) (l := l) (by omega) (fun i hi => hra_ i (by omega))
   exact ⟨(padU l k), (by first | rfl | exact padU_len _ _), (fun _ => by rw [padF, show l.length = k by omega]), by rw [hz], hS164.ext⟩
 ·skip
  rw [decide_eq_false hb25] at hA24
  refine c_true hA24 rfl ?_
  refine c_seq ?_
  have hA168 := hA24.as [(4, (bptr b9 0))] rfl; clear hA24
  refine c_region ?_
  refine st hA168 (op_loadA rfl ty_104 (hA168.ev rfl) (hS10.bk 0 rfl) (l := (ints ([0, 0, 0]))) (drop_take_all _ _ rfl) rfl) rfl rfl (by decide) fun a169 hA170 => ?_; clear hA168 a23
  refine sts hA170 (op_store hS10 rfl ty_104 (hA170.ev rfl) (hA170.ev rfl) (i := 0) rfl (vs := (ints ([0, 0, 0]))) rfl rfl (ints_one _) (by first | (simp only [ints, List.length_map, List.length_set]; omega) | (have h2_ := (show (ints ([0, 0, 0])).length = 3 from rfl); omega))) rfl rfl ?_
  intro _ w171 hS172 hA174; have hS173 := hS172.blk_say (i := 0) rfl (cs' := (ints ([0, 0, 0]))) (setFrom_all _ _ (by first | (simp only [ints, List.length_map, List.length_set]; omega) | (have h1_ := (show (ints ([0, 0, 0])).length = 3 from rfl); have h2_ := (show (ints ([0, 0, 0])).length = 3 from rfl); omega))); clear hS172 hA170 hS10
  refine st hA174 (op_assign rfl (evc _ _)) rfl rfl (by decide) fun a175 hA176 => ?_; clear hA174 a169
  refine wl_nil ?_
  refine then_n ?_
  refine c_ret ?_
  refine then_ret ?_
  refine fin_run hA176 (.inl rfl) (run_results2 hA176 rfl (.cellA rfl ty_104 (hS173.bk 0 rfl) (l := (ints ([0, 0, 0]))) (drop_take_all _ _ rfl) rfl) (.tmp rfl)) ?_
  have hz : areB R l = false := by first | exact areB_len (by omega) | exact areB_no (k := k) (by omega) (rateAt_n1 (by omega)) | exact areB_no (k := k) (by omega) (rateAt_n2 (by omega) (by assumption))
  exact ⟨[0, 0, 0], (by first | rfl | exact padU_len _ _), (fun h => absurd (hz.symm.trans h) (by decide)), by rw [hz], hS173.ext⟩
end Go.Proofs.Ytkkglkdnnfegkaa

namespace Go.Proofs.Ytkkglkdnnfegkaa
open Go.RowKit Go.Shelf Go.Eng
theorem padF_len (l : List Int) : (ints (padF l)).length = 3 := by rw [ints, List.length_map]; exact padU_len l l.length
theorem allows_yes (R : List (Int × Int)) (rs : List RunD) (lv : List Value) (vr vu : Value) (w : World) (hm : SlAt w vr 2 R.length (pairs R)) (hx : RunsAt w vu lv rs) (hlen : R.length ≤ 1000000) (hrl : rs.length ≤ 1000000) (l : List Int) (xl : Value) (hxl : SlAt w xl 1 l.length (ints l)) (hlen2 : l.length ≤ 1000000) (he : enterF R rs = 0) (hb : areB R l = true) (hpr : RatesV (padF l)) :
  Calls Try.prog 38 #[(Value.agg #[vr]), vu, xl] w (Ret fun v w' => v = .tuple #[.bool (allowB rs (padF l)), .int .i64 0] ∧ Ext NoB w w') := by
 refine calls_enter Try.func38 rfl fun a0 hA0 => ?_
 replace hA0 : Fr 32 [] [(0, (Value.agg #[vr])), (1, vu), (2, xl)] a0 := hA0
 have hR := (check_mat (enter_mat he)).1
 have hV := enter_runs he
 have hS0 : Sep NoB w w [(sl vr 2 R.length (pairs R)), (sl vu 3 rs.length (vtrips (runV lv rs))), (segsR false lv rs), (sl xl 1 l.length (ints l))] := sep_ro ⟨rfl, hm, rfl, hx.runs, rfl, ⟨hx.len, hx.segs⟩, rfl, hxl, trivial⟩
 refine c_seq ?_
 refine c_region ?_
 refine stw hA0 (op_box hS0 rfl (hA0.ev rfl) (cs := [vr]) rfl) rfl rfl (by decide) ?_
 rintro a1 _ w3 ⟨b4, rfl, hS5⟩ hA2; clear hA0 hS0 a0
 refine st hA2 (op_assign rfl (evc _ _)) rfl rfl (by decide) fun a6 hA7 => ?_; clear hA2 a1
 refine st hA7 (op_assign rfl (evc _ _)) rfl rfl (by decide) fun a8 hA9 => ?_; clear hA7 a6
 refine wl_nil ?_
 refine then_n ?_
 refine c_seq ?_
 refine c_region ?_
 refine st hA9 (op_loadA rfl ty_33 (hA9.ev rfl) (hS5.bk 0 rfl) (l := [vr]) rfl rfl) rfl rfl (by decide) fun a10 hA11 => ?_; clear hA9 a8
 refine st hA11 (op_move rfl (hA11.ev rfl)) rfl rfl (by decide) fun a12 hA13 => ?_; clear hA11 a10
 refine stw hA13 (op_call rfl en_66 (ev2 (hA13.ev rfl) (hA13.ev rfl)) (enter_ok R rs lv vr vu _ (hm.step hS5.ext) (hx.step hS5.ext) (by omega) (by omega) he)) rfl rfl (by decide) ?_
 rintro a14 _ w16 ⟨bj19, bm20, rfl, hT17⟩ hA15; have hS18 := hS5.callS hT17 rfl; clear hT17 hA13 hS5 a12
 refine st hA15 (op_move rfl (hA15.ev rfl)) rfl rfl (by decide) fun a21 hA22 => ?_; clear hA15 a14
 refine st hA22 (op_extract rfl (hA22.ev rfl) rfl) rfl rfl (by decide) fun a23 hA24 => ?_; clear hA22 a21
 refine st hA24 (op_extract rfl (hA24.ev rfl) rfl) rfl rfl (by decide) fun a25 hA26 => ?_; clear hA24 a23
 refine st hA26 (op_assign rfl (hA26.ev rfl)) rfl rfl (by decide) fun a27 hA28 => ?_; clear hA26 a25
 refine st hA28 (op_assign rfl (hA28.ev rfl)) rfl rfl (by decide) fun a29 hA30 => ?_; clear hA28 a27
 refine wl_nil ?_
 refine then_n ?_
 refine c_seq ?_
 refine c_seq ?_
 have hA31 := hA30.as [(9, (Value.int .i64 0)), (8, (bptr bj19 0)), (3, (bptr b4 0)), (2, xl)] rfl; clear hA30
 refine c_region ?_
 refine st hA31 (op_move rfl (hA31.ev rfl)) rfl rfl (by decide) fun a32 hA33 => ?_; clear hA31 a29
 refine st hA33 (op_neq rfl (hA33.ev rfl) (evc _ _)) rfl rfl (by decide) fun a34 hA35 => ?_; clear hA33 a32
 refine wl_nil ?_
 refine then_n ?_
 refine c_false hA35 rfl ?_
 refine c_skip ?_
 refine then_n ?_
 refine c_seq ?_
 refine c_region ?_
 refine st hA35 (op_loadA rfl ty_33 (hA35.ev rfl) (hS18.bk 2 rfl) (l := [vr]) rfl rfl) rfl rfl (by decide) fun a36 hA37 => ?_; clear hA35 a34
 refine st hA37 (op_move rfl (hA37.ev rfl)) rfl rfl (by decide) fun a38 hA39 => ?_; clear hA37 a36
 refine stw hA39 (op_call rfl en_67 (ev2 (hA39.ev rfl) (hA39.ev rfl)) (own_ok _ R _ (hS18.sk 3 rfl) l _ (hS18.sk 6 rfl) hR.1)) rfl rfl (by decide) ?_
 rintro a40 _ w42 ⟨arr43, hal_, har44, rfl, hE45⟩ hA41; have hS46 := hS18.step hE45; clear hE45 hA39 hS18 a38
 obtain rfl := har44 hb; rw [hb] at hA41
 refine st hA41 (op_move rfl (hA41.ev rfl)) rfl rfl (by decide) fun a47 hA48 => ?_; clear hA41 a40
 refine st hA48 (op_extract rfl (hA48.ev rfl) rfl) rfl rfl (by decide) fun a49 hA50 => ?_; clear hA48 a47
 refine st hA50 (op_extract rfl (hA50.ev rfl) rfl) rfl rfl (by decide) fun a51 hA52 => ?_; clear hA50 a49
 refine stw hA52 (op_alloc hS46 rfl ze_104 (cs := [(Value.int .i64 0), (Value.int .i64 0), (Value.int .i64 0)]) rfl) rfl rfl (by decide) ?_
 rintro a53 _ w55 ⟨b56, rfl, hS57⟩ hA54; clear hA52 hS46 a51
 refine sts hA54 (op_store hS57 rfl ty_104 (hA54.ev rfl) (hA54.ev rfl) (i := 0) rfl (vs := (ints (padF l))) rfl (padF_len l) (ints_one _) (by decide)) rfl rfl ?_
 intro _ w58 hS59 hA61; have hS60 := hS59.blk_say (i := 0) rfl (cs' := (ints (padF l))) (setFrom_all _ _ (Eq.symm (padF_len l))); clear hS59 hA54 hS57
 refine st hA61 (op_assign rfl (hA61.ev rfl)) rfl rfl (by decide) fun a62 hA63 => ?_; clear hA61 a53
 refine wl_nil ?_
 refine then_n ?_
 refine c_seq ?_
 refine c_seq ?_
 have hA64 := hA63.as [(11, (Value.bool true)), (10, (bptr b56 0)), (8, (bptr bj19 0))] rfl; clear hA63
 refine c_region ?_
 refine st hA64 (op_move rfl (hA64.ev rfl)) rfl rfl (by decide) fun a65 hA66 => ?_; clear hA64 a62
 refine st hA66 (op_not rfl (hA66.ev rfl)) rfl rfl (by decide) fun a67 hA68 => ?_; clear hA66 a65
 refine wl_nil ?_
 refine then_n ?_
 refine c_false hA68 rfl ?_
 refine c_skip ?_
 refine then_n ?_
 refine c_seq ?_
 refine c_region ?_
 refine st hA68 (op_move rfl (hA68.ev rfl)) rfl rfl (by decide) fun a69 hA70 => ?_; clear hA68 a67
 refine st hA70 (op_loadA rfl ty_104 (hA70.ev rfl) (hS60.bk 0 rfl) (l := (ints (padF l))) (drop_take_all _ _ (padF_len l)) (padF_len l)) rfl rfl (by decide) fun a71 hA72 => ?_; clear hA70 a69
 refine stw hA72 (op_call rfl en_68 (ev2 (hA72.ev rfl) (hA72.ev rfl)) (allowed_ok _ _ (padF l) R rs lv vr vu R.length _ hR.1 hpr hV hx.len (hS60.lendM (i := 2) rfl [1, 4, 5, 6] ⟨rfl, by decide, hS60.bk 1 rfl, ⟨_, rfl, fun _ hz => hz⟩, rfl, by decide, hS60.sk 4 rfl, ⟨_, rfl, fun _ hz => hz⟩, rfl, by decide, hS60.sk 5 rfl, ⟨_, rfl, fun _ hz => hz⟩, rfl, by decide, hS60.ok 6 _ rfl, ⟨_, rfl, fun _ hz => hz⟩, trivial⟩))) rfl rfl (by decide) ?_
 rintro a73 _ w75 ⟨rfl, hE76, hM77⟩ hA74; have hS78 := hS60.updM (i := 2) rfl hE76 hM77; clear hE76 hM77 hA72 hS60 a71
 refine st hA74 (op_assign rfl (hA74.ev rfl)) rfl rfl (by decide) fun a79 hA80 => ?_; clear hA74 a73
 refine st hA80 (op_assign rfl (evc _ _)) rfl rfl (by decide) fun a81 hA82 => ?_; clear hA80 a79
 refine wl_nil ?_
 refine then_n ?_
 refine c_ret ?_
 refine fin_run hA82 (.inl rfl) (run_results2 hA82 rfl (.tmp rfl) (.tmp rfl)) ?_
 exact ⟨rfl, hS78.ext⟩
theorem allows_no (R : List (Int × Int)) (rs : List RunD) (lv : List Value) (vr vu : Value) (w : World) (hm : SlAt w vr 2 R.length (pairs R)) (hx : RunsAt w vu lv rs) (hlen : R.length ≤ 1000000) (hrl : rs.length ≤ 1000000) (l : List Int) (xl : Value) (hxl : SlAt w xl 1 l.length (ints l)) (hlen2 : l.length ≤ 1000000) (he : enterF R rs = 0) (hb : areB R l = false) :
  Calls Try.prog 38 #[(Value.agg #[vr]), vu, xl] w (Ret fun v w' => v = .tuple #[.bool false, .int .i64 2] ∧ Ext NoB w w') := by
 refine calls_enter Try.func38 rfl fun a0 hA0 => ?_
 replace hA0 : Fr 32 [] [(0, (Value.agg #[vr])), (1, vu), (2, xl)] a0 := hA0
 have hR := (check_mat (enter_mat he)).1
 have hV := enter_runs he
 have hS0 : Sep NoB w w [(sl vr 2 R.length (pairs R)), (sl vu 3 rs.length (vtrips (runV lv rs))), (segsR false lv rs), (sl xl 1 l.length (ints l))] := sep_ro ⟨rfl, hm, rfl, hx.runs, rfl, ⟨hx.len, hx.segs⟩, rfl, hxl, trivial⟩
 refine c_seq ?_
 refine c_region ?_
 refine stw hA0 (op_box hS0 rfl (hA0.ev rfl) (cs := [vr]) rfl) rfl rfl (by decide) ?_
 rintro a1 _ w3 ⟨b4, rfl, hS5⟩ hA2; clear hA0 hS0 a0
 refine st hA2 (op_assign rfl (evc _ _)) rfl rfl (by decide) fun a6 hA7 => ?_; clear hA2 a1
 refine st hA7 (op_assign rfl (evc _ _)) rfl rfl (by decide) fun a8 hA9 => ?_; clear hA7 a6
 refine wl_nil ?_
 refine then_n ?_
 refine c_seq ?_
 refine c_region ?_
 refine st hA9 (op_loadA rfl ty_33 (hA9.ev rfl) (hS5.bk 0 rfl) (l := [vr]) rfl rfl) rfl rfl (by decide) fun a10 hA11 => ?_; clear hA9 a8
 refine st hA11 (op_move rfl (hA11.ev rfl)) rfl rfl (by decide) fun a12 hA13 => ?_; clear hA11 a10
 refine stw hA13 (op_call rfl en_66 (ev2 (hA13.ev rfl) (hA13.ev rfl)) (enter_ok R rs lv vr vu _ (hm.step hS5.ext) (hx.step hS5.ext) (by omega) (by omega) he)) rfl rfl (by decide) ?_
 rintro a14 _ w16 ⟨bj19, bm20, rfl, hT17⟩ hA15; have hS18 := hS5.callS hT17 rfl; clear hT17 hA13 hS5 a12
 refine st hA15 (op_move rfl (hA15.ev rfl)) rfl rfl (by decide) fun a21 hA22 => ?_; clear hA15 a14
 refine st hA22 (op_extract rfl (hA22.ev rfl) rfl) rfl rfl (by decide) fun a23 hA24 => ?_; clear hA22 a21
 refine st hA24 (op_extract rfl (hA24.ev rfl) rfl) rfl rfl (by decide) fun a25 hA26 => ?_; clear hA24 a23
 refine st hA26 (op_assign rfl (hA26.ev rfl)) rfl rfl (by decide) fun a27 hA28 => ?_; clear hA26 a25
 refine st hA28 (op_assign rfl (hA28.ev rfl)) rfl rfl (by decide) fun a29 hA30 => ?_; clear hA28 a27
 refine wl_nil ?_
 refine then_n ?_
 refine c_seq ?_
 refine c_seq ?_
 have hA31 := hA30.as [(9, (Value.int .i64 0)), (8, (bptr bj19 0)), (3, (bptr b4 0)), (2, xl)] rfl; clear hA30
 refine c_region ?_
 refine st hA31 (op_move rfl (hA31.ev rfl)) rfl rfl (by decide) fun a32 hA33 => ?_; clear hA31 a29
 refine st hA33 (op_neq rfl (hA33.ev rfl) (evc _ _)) rfl rfl (by decide) fun a34 hA35 => ?_; clear hA33 a32
 refine wl_nil ?_
 refine then_n ?_
 refine c_false hA35 rfl ?_
 refine c_skip ?_
 refine then_n ?_
 refine c_seq ?_
 refine c_region ?_
 refine st hA35 (op_loadA rfl ty_33 (hA35.ev rfl) (hS18.bk 2 rfl) (l := [vr]) rfl rfl) rfl rfl (by decide) fun a36 hA37 => ?_; clear hA35 a34
 refine st hA37 (op_move rfl (hA37.ev rfl)) rfl rfl (by decide) fun a38 hA39 => ?_; clear hA37 a36
 refine stw hA39 (op_call rfl en_67 (ev2 (hA39.ev rfl) (hA39.ev rfl)) (own_ok _ R _ (hS18.sk 3 rfl) l _ (hS18.sk 6 rfl) hR.1)) rfl rfl (by decide) ?_
 rintro a40 _ w42 ⟨arr43, hal_, har44, rfl, hE45⟩ hA41; have hS46 := hS18.step hE45; clear hE45 hA39 hS18 a38
 rw [hb] at hA41
 refine st hA41 (op_move rfl (hA41.ev rfl)) rfl rfl (by decide) fun a47 hA48 => ?_; clear hA41 a40
 refine st hA48 (op_extract rfl (hA48.ev rfl) rfl) rfl rfl (by decide) fun a49 hA50 => ?_; clear hA48 a47
 refine st hA50 (op_extract rfl (hA50.ev rfl) rfl) rfl rfl (by decide) fun a51 hA52 => ?_; clear hA50 a49
 refine stw hA52 (op_alloc hS46 rfl ze_104 (cs := [(Value.int .i64 0), (Value.int .i64 0), (Value.int .i64 0)]) rfl) rfl rfl (by decide) ?_
 rintro a53 _ w55 ⟨b56, rfl, hS57⟩ hA54; clear hA52 hS46 a51
 refine sts hA54 (op_store hS57 rfl ty_104 (hA54.ev rfl) (hA54.ev rfl) (i := 0) rfl (vs := (ints arr43)) rfl (by rw [ints, List.length_map]; exact hal_) (ints_one _) (by decide)) rfl rfl ?_
 intro _ w58 hS59 hA61; have hS60 := hS59.blk_say (i := 0) rfl (cs' := (ints arr43)) (setFrom_all _ _ (Eq.symm (by rw [ints, List.length_map]; exact hal_))); clear hS59 hA54 hS57
 refine st hA61 (op_assign rfl (hA61.ev rfl)) rfl rfl (by decide) fun a62 hA63 => ?_; clear hA61 a53
 refine wl_nil ?_
 refine then_n ?_
 refine c_seq ?_
 refine c_seq ?_
 have hA64 := hA63.as [(11, (Value.bool false)), (10, (bptr b56 0)), (8, (bptr bj19 0))] rfl; clear hA63
 refine c_region ?_
 refine st hA64 (op_move rfl (hA64.ev rfl)) rfl rfl (by decide) fun a65 hA66 => ?_; clear hA64 a62
 refine st hA66 (op_not rfl (hA66.ev rfl)) rfl rfl (by decide) fun a67 hA68 => ?_; clear hA66 a65
 refine wl_nil ?_
 refine then_n ?_
 refine c_true hA68 rfl ?_
 refine c_seq ?_
 refine c_region ?_
 refine st hA68 (op_assign rfl (evc _ _)) rfl rfl (by decide) fun a69 hA70 => ?_; clear hA68 a67
 refine st hA70 (op_assign rfl (evc _ _)) rfl rfl (by decide) fun a71 hA72 => ?_; clear hA70 a69
 refine wl_nil ?_
 refine then_n ?_
 refine c_ret ?_
 refine then_ret ?_
 refine fin_run hA72 (.inl rfl) (run_results2 hA72 rfl (.tmp rfl) (.tmp rfl)) ?_
 exact ⟨rfl, hS60.ext⟩
end Go.Proofs.Ytkkglkdnnfegkaa

namespace Go.Proofs.Ytkkglkdnnfegkaa
open Go.RowKit Go.Eng
theorem getD_ge {l : List Int} {i : Nat} (h : l.length ≤ i) : l.getD i 0 = 0 := by simp [List.getD, List.getElem?_eq_none h]
theorem padF_at {l : List Int} (h : l.length ≤ 3) (i : Nat) : (padF l).getD i 0 = l.getD i 0 := by
  by_cases hi : i < 3
  · have e : (padF l).getD i 0 = if i < l.length then l.getD i 0 else 0 := by simp [padF, padU, List.getD, hi]
    rw [e]
    by_cases h2 : i < l.length
    · rw [if_pos h2]
    · rw [if_neg h2, getD_ge (by omega)]
  · rw [getD_ge (by rw [padF, padU_len]; omega), getD_ge (by omega)]
theorem getD_memL {A : List (List Int)} {k : Nat} (h : k < A.length) : A.getD k [] ∈ A := by
  simp only [List.getD, List.getElem?_eq_getElem h, Option.getD_some]
  exact List.getElem_mem h
theorem mem_getD {A : List (List Int)} {l : List Int} (h : l ∈ A) : ∃ k, k < A.length ∧ A.getD k [] = l := by
  obtain ⟨k, hk, e⟩ := List.mem_iff_getElem.1 h
  exact ⟨k, hk, by simp [List.getD, hk, e]⟩
section
variable {R : List (Int × Int)} {rs : List RunD} {plan : List Seg} (hR : MatV R) (hV : RunsV R.length rs) (hpos : 0 < (allowedF R rs).length) (hs : ∀ i, i < plan.length → SegV R.length (plan.getD i (0, 0, 0)))
include hR hV hpos hs
omit hs
end
end Go.Proofs.Ytkkglkdnnfegkaa

namespace Go.Proofs.Ytkkglkdnnfegkaa
open Go.RowKit Go.Eng
end Go.Proofs.Ytkkglkdnnfegkaa

namespace Go.Proofs.Ytkkglkdnnfegkaa
open Go.RowKit Go.Eng
def Sub (A B : List (List Int)) : Prop := ∀ k, k < A.length → ∃ j, j < B.length ∧ A.getD k [] = B.getD j []
section
variable {R : List (Int × Int)} {rs rs' : List RunD} (hpos : 0 < (allowedF R rs').length) (hsub : Sub (allowedF R rs') (allowedF R rs))
include hpos hsub
end
end Go.Proofs.Ytkkglkdnnfegkaa

namespace Go.Proofs.Ytkkglkdnnfegkaa
open Go.RowKit Go.Eng
end Go.Proofs.Ytkkglkdnnfegkaa

namespace Go.Proofs.Ytkkglkdnnfegkaa
open Go.RowKit Go.Shelf Go.Eng
theorem clone_int (xs : List Int) (v : Value) (w : World) (hv : SlAt w v 1 xs.length (ints xs)) (hlen : xs.length ≤ 1000000) :
  Calls Try.prog 61 #[v] w (Ret fun v w' => Ext NoB w w' ∧ w'.ownsRow w.heap.size 3 1 v xs.length (ints xs)) := by
 refine calls_enter Try.func61 rfl fun a0 hA0 => ?_
 replace hA0 : Fr 8 [] [(0, v)] a0 := hA0
 have hS0 : Sep NoB w w [(sl v 1 xs.length (ints xs))] := sep_ro ⟨rfl, hv, trivial⟩
 refine c_seq ?_
 refine c_region ?_
 refine st hA0 (op_assign rfl (evc _ _)) rfl rfl (by decide) fun a1 hA2 => ?_; clear hA0 a0
 refine wl_nil ?_
 refine then_n ?_
 refine c_seq ?_
 refine c_seq ?_
 refine c_region ?_
 refine st hA2 (op_move rfl (hA2.ev rfl)) rfl rfl (by decide) fun a3 hA4 => ?_; clear hA2 a1
 refine stw hA4 (op_eqlNil un_40 rfl (hA4.ev rfl) (evc _ _) (hS0.sk 0 rfl) (by decide)) rfl rfl (by decide) ?_
 rintro a5 _ _ ⟨bn7, rfl, rfl, hn8⟩ hA6; clear hA4 a3
 refine wl_nil ?_
 refine then_n ?_
 rcases Bool.eq_false_or_eq_true (bn7) with hb9 | hb9
 ·skip
  rw [hb9] at hA6
  refine c_true hA6 rfl ?_
  refine c_seq ?_
  refine c_region ?_
  refine st hA6 (op_assign rfl (evc _ _)) rfl rfl (by decide) fun a10 hA11 => ?_; clear hA6 a5
  refine wl_nil ?_
  refine then_n ?_
  refine c_ret ?_
  refine then_ret ?_
  refine fin_run hA11 (.inl rfl) (run_results1 hA11 rfl (.tmp rfl)) ?_
  exact ⟨hS0.ext, by have hz := (hn8 (by assumption)); rw [hz.1, hz.2]; exact ⟨by simp, .inl ⟨rfl, rfl⟩⟩⟩
 ·skip
  rw [hb9] at hA6
  refine c_false hA6 rfl ?_
  refine c_skip ?_
  refine then_n ?_
  refine c_seq ?_
  refine c_region ?_
  refine stw hA6 (op_buildSlice hS0 rfl pv0 un_40 ty_3 ze_3 (by decide) (cs := []) bs_3_0_) rfl rfl (by decide) ?_
  rintro a12 _ w14 ⟨b15, rfl, hS16⟩ hA13; clear hA6 hS0 a5
  refine st hA13 (op_move rfl (hA13.ev rfl)) rfl rfl (by decide) fun a17 hA18 => ?_; clear hA13 a12
  have hS19 := hS16.blk_row (i := 0) (sz := 1) (n := 0) rfl rfl (by decide); clear hS16
  refine stw hA18 (op_append hS19 rfl un_40 el_3 (hA18.ev rfl) (hA18.ev rfl) (i := 0) rfl (hS19.sk 1 rfl) (ints_one _) (by simp only [maxLen]; omega) (by omega)) rfl rfl (by decide) ?_
  intro a20 v23 w22 hS24 hA21
  have hS25 := hS24.row_say (i := 0) rfl (n' := xs.length) (xs' := (ints xs)) (by simp) (by simp); clear hS24 hA18 hS19 a17
  refine st hA21 (op_assign rfl (hA21.ev rfl)) rfl rfl (by decide) fun a26 hA27 => ?_; clear hA21 a20
  refine wl_nil ?_
  refine then_n ?_
  refine c_ret ?_
  refine fin_run hA27 (.inl rfl) (run_results1 hA27 rfl (.tmp rfl)) ?_
  exact ⟨hS25.ext, hS25.row_new (i := 0) rfl⟩
theorem shows_bad (R : List (Int × Int)) (rs : List RunD) (lv : List Value) (vr vu : Value) (w : World) (hm : SlAt w vr 2 R.length (pairs R)) (hx : RunsAt w vu lv rs) (hlen : R.length ≤ 1000000) (hrl : rs.length ≤ 1000000) (plan : List Seg) (vp : Value) (hp : SlAt w vp 3 plan.length (trips plan)) (hpl : plan.length ≤ 1000000) (hi : Bool) (he : planF R rs plan ≠ 0) :
  Calls Try.prog 32 #[(Value.agg #[vr]), vu, vp, (Value.bool hi)] w (Ret fun v w' => v = .tuple #[.slice none 0 0, .int .i64 (planF R rs plan)] ∧ Ext NoB w w') := by
 refine calls_enter Try.func32 rfl fun a0 hA0 => ?_
 replace hA0 : Fr 37 [] [(0, (Value.agg #[vr])), (1, vu), (2, vp), (3, (Value.bool hi))] a0 := hA0
 have hS0 : Sep NoB w w [(sl vr 2 R.length (pairs R)), (sl vu 3 rs.length (vtrips (runV lv rs))), (segsR false lv rs), (sl vp 3 plan.length (trips plan))] := sep_ro ⟨rfl, hm, rfl, hx.runs, rfl, ⟨hx.len, hx.segs⟩, rfl, hp, trivial⟩
 refine c_seq ?_
 refine c_region ?_
 refine stw hA0 (op_box hS0 rfl (hA0.ev rfl) (cs := [vr]) rfl) rfl rfl (by decide) ?_
 rintro a1 _ w3 ⟨b4, rfl, hS5⟩ hA2; clear hA0 hS0 a0
 refine st hA2 (op_assign rfl (evc _ _)) rfl rfl (by decide) fun a6 hA7 => ?_; clear hA2 a1
 refine st hA7 (op_assign rfl (evc _ _)) rfl rfl (by decide) fun a8 hA9 => ?_; clear hA7 a6
 refine wl_nil ?_
 refine then_n ?_
 refine c_seq ?_
 refine c_region ?_
 refine st hA9 (op_loadA rfl ty_33 (hA9.ev rfl) (hS5.bk 0 rfl) (l := [vr]) rfl rfl) rfl rfl (by decide) fun a10 hA11 => ?_; clear hA9 a8
 refine st hA11 (op_move rfl (hA11.ev rfl)) rfl rfl (by decide) fun a12 hA13 => ?_; clear hA11 a10
 refine st hA13 (op_move rfl (hA13.ev rfl)) rfl rfl (by decide) fun a14 hA15 => ?_; clear hA13 a12
 refine stw hA15 (op_call rfl en_58 (ev3 (hA15.ev rfl) (hA15.ev rfl) (hA15.ev rfl)) (plan_bad R rs lv vr vu _ (hm.step hS5.ext) (hx.step hS5.ext) (by omega) (by omega) plan vp (hp.step hS5.ext) (by omega) he)) rfl rfl (by decide) ?_
 rintro a16 _ w18 ⟨rfl, hE19⟩ hA17; have hS20 := hS5.step hE19; clear hE19 hA15 hS5 a14
 refine st hA17 (op_move rfl (hA17.ev rfl)) rfl rfl (by decide) fun a21 hA22 => ?_; clear hA17 a16
 refine st hA22 (op_extract rfl (hA22.ev rfl) rfl) rfl rfl (by decide) fun a23 hA24 => ?_; clear hA22 a21
 refine st hA24 (op_extract rfl (hA24.ev rfl) rfl) rfl rfl (by decide) fun a25 hA26 => ?_; clear hA24 a23
 refine st hA26 (op_assign rfl (hA26.ev rfl)) rfl rfl (by decide) fun a27 hA28 => ?_; clear hA26 a25
 refine st hA28 (op_assign rfl (hA28.ev rfl)) rfl rfl (by decide) fun a29 hA30 => ?_; clear hA28 a27
 refine wl_nil ?_
 refine then_n ?_
 refine c_seq ?_
 refine c_seq ?_
 have hA31 := hA30.as [(11, (Value.int .i64 (planF R rs plan))), (10, (Value.pointer none)), (4, (bptr b4 0)), (2, vp), (3, (Value.bool hi))] rfl; clear hA30
 refine c_region ?_
 refine st hA31 (op_move rfl (hA31.ev rfl)) rfl rfl (by decide) fun a32 hA33 => ?_; clear hA31 a29
 refine st hA33 (op_neq rfl (hA33.ev rfl) (evc _ _)) rfl rfl (by decide) fun a34 hA35 => ?_; clear hA33 a32
 have hd36 : ¬ ((planF R rs plan) = 0) := he
 rw [decide_eq_false hd36] at hA35
 refine wl_nil ?_
 refine then_n ?_
 refine c_true hA35 rfl ?_
 refine c_seq ?_
 have hA37 := hA35.as [(11, (Value.int .i64 (planF R rs plan)))] rfl; clear hA35
 refine c_region ?_
 refine st hA37 (op_move rfl (hA37.ev rfl)) rfl rfl (by decide) fun a38 hA39 => ?_; clear hA37 a34
 refine st hA39 (op_assign rfl (evc _ _)) rfl rfl (by decide) fun a40 hA41 => ?_; clear hA39 a38
 refine st hA41 (op_assign rfl (hA41.ev rfl)) rfl rfl (by decide) fun a42 hA43 => ?_; clear hA41 a40
 refine wl_nil ?_
 refine then_n ?_
 refine c_ret ?_
 refine then_ret ?_
 refine fin_run hA43 (.inl rfl) (run_results2 hA43 rfl (.tmp rfl) (.tmp rfl)) ?_
 exact ⟨rfl, hS20.ext⟩
end Go.Proofs.Ytkkglkdnnfegkaa

namespace Go.Proofs.Ytkkglkdnnfegkaa
open Go.RowKit Go.Eng
section
variable {lv : List Value} {rs : List RunD} {i : Nat} (hl : lv.length = rs.length) (h : i < rs.length)
include hl h
end
end Go.Proofs.Ytkkglkdnnfegkaa
namespace Go.Eng
open Go.RowKit Go.Eng
open Go.Proofs.Ytkkglkdnnfegkaa
section
variable {X : Nat → Prop} {w0 w : World} {L : List Res}
theorem Sep.row_sl {i : Nat} {v : Value} {e sz n : Nat} {xs : List Value} (h : Eng.Sep X w0 w L) (hi : L[i]? = some (row v e sz n xs)) : Eng.Sep X w0 w (L.set i (sl v sz n xs)) :=
  h.say hi (SlAt.of_row (h.ok_row i hi)) (fun _ hb => slFoot_row hb) (fun he => by cases he)
end
end Go.Eng
namespace Go.Proofs.Ytkkglkdnnfegkaa
open Go.RowKit Go.Eng
end Go.Proofs.Ytkkglkdnnfegkaa

namespace Go.Proofs.Ytkkglkdnnfegkaa
open Go.RowKit Go.Eng
end Go.Proofs.Ytkkglkdnnfegkaa

namespace Go.Proofs.Ytkkglkdnnfegkaa
open Go.RowKit Go.Eng
section
variable {plan : List Seg} {k : Nat} {y : Int} (hk : k < plan.length)
include hk
end
end Go.Proofs.Ytkkglkdnnfegkaa

namespace Go.Proofs.Ytkkglkdnnfegkaa
open Go.RowKit Go.Eng
end Go.Proofs.Ytkkglkdnnfegkaa

namespace Go.Proofs.Ytkkglkdnnfegkaa
open Go.RowKit Go.Eng
def setsF (nb : Nat) : Nat → List Int → Nat → List (List Int)
  | 0, l, _ => [l]
  | m + 1, l, next => (List.range' next (nb - next)).flatMap fun (k : Nat) => setsF nb m (l ++ [(k : Int)]) (k + 1)
def setsUpto (nb m : Nat) (l : List Int) (next k : Nat) : List (List Int) := (List.range' next (k - next)).flatMap fun (k : Nat) => setsF nb m (l ++ [(k : Int)]) (k + 1)
theorem setsUpto_self (nb m : Nat) (l : List Int) (next : Nat) : setsUpto nb m l next next = [] := by simp [setsUpto]
theorem setsUpto_succ (nb m : Nat) (l : List Int) (next k : Nat) (h : next ≤ k) : setsUpto nb m l next (k + 1) = setsUpto nb m l next k ++ setsF nb m (l ++ [(k : Int)]) (k + 1) := by
  unfold setsUpto
  rw [show k + 1 - next = (k - next) + 1 by omega, List.range'_1_concat, List.flatMap_append, show next + (k - next) = k by omega]
  simp
theorem setsUpto_all (nb m : Nat) (l : List Int) (next k : Nat) (h1 : k = next ∨ k ≤ nb) (h2 : nb ≤ k) : setsUpto nb m l next k = setsF nb (m + 1) l next := by
  rw [setsF]; unfold setsUpto
  rw [show k - next = nb - next by omega]
theorem setsUpto_pre (nb m : Nat) (l : List Int) (next k : Nat) (h : next ≤ k) : ∀ n, ∃ rest, setsUpto nb m l next (k + n) = setsUpto nb m l next k ++ rest
  | 0 => ⟨[], by simp⟩
  | n + 1 => by
    obtain ⟨rest, e⟩ := setsUpto_pre nb m l next k h n
    exact ⟨rest ++ setsF nb m (l ++ [((k + n : Nat) : Int)]) (k + n + 1), by rw [← Nat.add_assoc, setsUpto_succ nb m l next (k + n) (by omega), e, List.append_assoc]⟩
theorem sets_split (nb m : Nat) (l : List Int) (next k : Nat) (h : next ≤ k) (h1 : k < nb) : ∃ rest, setsF nb (m + 1) l next = setsUpto nb m l next k ++ (setsF nb m (l ++ [(k : Int)]) (k + 1) ++ rest) := by
  obtain ⟨rest, e⟩ := setsUpto_pre nb m l next (k + 1) (by omega) (nb - (k + 1))
  refine ⟨rest, ?_⟩
  rw [← setsUpto_all nb m l next nb (.inr (Nat.le_refl _)) (Nat.le_refl _), ← List.append_assoc, ← setsUpto_succ nb m l next k h, ← e, show k + 1 + (nb - (k + 1)) = nb by omega]
theorem setsF_mem (nb : Nat) : ∀ (ys l : List Int) (next : Nat), (∀ y ∈ ys, (next : Int) ≤ y ∧ y ≤ (nb : Int) - 1) → ys.Pairwise (· < ·) → l ++ ys ∈ setsF nb ys.length l next
  | [], l, next, _, _ => by simp [setsF]
  | y :: ys, l, next, hb, hp => by
    have hy := hb y (List.mem_cons_self ..)
    rw [List.length_cons, setsF, List.mem_flatMap]
    refine ⟨y.toNat, List.mem_range'_1.2 ⟨by omega, by omega⟩, ?_⟩
    have e : ((y.toNat : Nat) : Int) = y := by omega
    rw [e]
    have := setsF_mem nb ys (l ++ [y]) (y.toNat + 1) (fun z hz => by
      have h1 := (List.pairwise_cons.1 hp).1 z hz
      have h2 := hb z (List.mem_cons_of_mem _ hz)
      omega) (List.pairwise_cons.1 hp).2
    rwa [List.append_assoc] at this
def hasB (l : List Int) (k : Int) : Bool := (List.range l.length).any fun i => decide (k = l.getD i 0)
theorem hasB_iff {l : List Int} {k : Int} : hasB l k = true ↔ k ∈ l := by
  unfold hasB
  rw [List.any_eq_true]
  constructor
  · rintro ⟨i, hi, h⟩
    rw [List.mem_range] at hi
    rw [of_decide_eq_true h]
    simp only [List.getD, List.getElem?_eq_getElem hi, Option.getD_some]
    exact List.getElem_mem hi
  · intro h
    obtain ⟨i, hi, e⟩ := List.getElem_of_mem h
    exact ⟨i, List.mem_range.2 hi, decide_eq_true (by simp [List.getD, hi, e])⟩
def coverB (a l : List Int) : Bool := (List.range a.length).all fun i => hasB l (a.getD i 0)
def okB (A : List (List Int)) (l : List Int) : Bool := (List.range A.length).any fun i => coverB (A.getD i []) l
def leaveB (nb : Nat) (A : List (List Int)) (m : Nat) (l : List Int) (next : Nat) : Bool := (setsF nb m l next).any (okB A)
section
variable {nb m next k : Nat} {A : List (List Int)} {l : List Int}
theorem find_app {p : List Int → Bool} : ∀ {x y : List (List Int)}, x.any p = false → (x ++ y).find? p = y.find? p
  | [], _, _ => rfl
  | a :: x, y, h => by
    simp only [List.any_cons, Bool.or_eq_false_iff] at h
    rw [List.cons_append, List.find?_cons, h.1]
    exact find_app h.2
theorem find_app2 {p : List Int → Bool} {z : List Int} : ∀ {x y : List (List Int)}, x.find? p = some z → (x ++ y).find? p = some z
  | [], _, h => by cases h
  | a :: x, y, h => by
    rw [List.cons_append, List.find?_cons]
    rw [List.find?_cons] at h
    split <;> rename_i hp
    · rw [hp] at h; exact h
    · rw [hp] at h; exact find_app2 h
theorem leave_hit {z : List Int} (h : next ≤ k) (h1 : k < nb) (hn : (setsUpto nb m l next k).any (okB A) = false) (hy : leaveB nb A m (l ++ [(k : Int)]) (k + 1) = true) (hf : (setsF nb m (l ++ [(k : Int)]) (k + 1)).find? (okB A) = some z) :
    leaveB nb A (m + 1) l next = true ∧ (setsF nb (m + 1) l next).find? (okB A) = some z := by
  obtain ⟨rest, e⟩ := sets_split nb m l next k h h1
  unfold leaveB at hy ⊢
  rw [e, find_app hn]
  exact ⟨by rw [List.any_append, List.any_append, hy]; simp, find_app2 hf⟩
theorem leave_go (h : next ≤ k) (hn : (setsUpto nb m l next k).any (okB A) = false) (hy : leaveB nb A m (l ++ [(k : Int)]) (k + 1) = false) : (setsUpto nb m l next (k + 1)).any (okB A) = false := by
  rw [setsUpto_succ nb m l next k h, List.any_append, hn]
  unfold leaveB at hy; rw [hy]; rfl
theorem leave_end (h1 : k = next ∨ k ≤ nb) (h2 : nb ≤ k) (hn : (setsUpto nb m l next k).any (okB A) = false) : leaveB nb A (m + 1) l next = false := by
  unfold leaveB; rw [← setsUpto_all nb m l next k h1 h2]; exact hn
theorem leave_0 : leaveB nb A 0 l next = okB A l := by simp [leaveB, setsF]
theorem find_0 (h : okB A l = true) : (setsF nb 0 l next).find? (okB A) = some l := by simp [setsF, h]
end
def allUpto (nb k : Nat) : List (List Int) := (List.range k).flatMap fun m => setsF nb m [] 0
theorem allUpto_succ (nb k : Nat) : allUpto nb (k + 1) = allUpto nb k ++ setsF nb k [] 0 := by
  unfold allUpto; rw [List.range_succ, List.flatMap_append]; simp
theorem allUpto_pre (nb k : Nat) : ∀ n, ∃ rest, allUpto nb (k + n) = allUpto nb k ++ rest
  | 0 => ⟨[], by simp⟩
  | n + 1 => by
    obtain ⟨rest, e⟩ := allUpto_pre nb k n
    exact ⟨rest ++ setsF nb (k + n) [] 0, by rw [← Nat.add_assoc, allUpto_succ, e, List.append_assoc]⟩
def agU (rs : List RunD) (r : List Int) (k : Nat) : List Int := ((List.range k).filter fun i => !allowsB (rs.getD i run0) r).map fun (i : Nat) => (i : Int)
theorem agU_y {rs : List RunD} {r : List Int} {k : Nat} (h : allowsB (rs.getD k run0) r = false) : agU rs r (k + 1) = agU rs r k ++ [(k : Int)] := by
  unfold agU; rw [List.range_succ, List.filter_append, List.map_append, List.filter_cons, if_pos (by rw [h]; rfl)]; rfl
theorem agU_n {rs : List RunD} {r : List Int} {k : Nat} (h : allowsB (rs.getD k run0) r = true) : agU rs r (k + 1) = agU rs r k := by
  unfold agU; rw [List.range_succ, List.filter_append, List.map_append, List.filter_cons, if_neg (by rw [h]; decide)]; simp
theorem agU_len (rs : List RunD) (r : List Int) (k : Nat) : (agU rs r k).length ≤ k := by
  unfold agU; rw [List.length_map]; exact Nat.le_trans (List.length_filter_le ..) (by simp)
def againstF (R : List (Int × Int)) (rs : List RunD) : List (List Int) := (listsF R).map fun r => agU rs r rs.length
theorem against_len (R : List (Int × Int)) (rs : List RunD) : (againstF R rs).length = (listsF R).length := by simp [againstF]
theorem against_succ {R : List (Int × Int)} {rs : List RunD} {q : Nat} (h : q < (listsF R).length) : (againstF R rs).take q ++ [agU rs ((listsF R).getD q []) rs.length] = (againstF R rs).take (q + 1) := by
  have e : (againstF R rs)[q]? = some (agU rs ((listsF R).getD q []) rs.length) := by
    simp [againstF, List.getD, h]
  rw [List.take_add_one, e]; rfl
theorem against_at {R : List (Int × Int)} {rs : List RunD} {i : Nat} (h : i < (listsF R).length) : (againstF R rs).getD i [] = agU rs ((listsF R).getD i []) rs.length := by
  simp [againstF, List.getD, h]
def doubtF (R : List (Int × Int)) (rs : List RunD) : List Int := ((allUpto rs.length (rs.length + 1)).find? (okB (againstF R rs))).getD []
theorem mem_agU {rs : List RunD} {r : List Int} {k : Nat} {x : Int} : x ∈ agU rs r k ↔ ∃ i : Nat, i < k ∧ x = (i : Int) ∧ allowsB (rs.getD i run0) r = false := by
  unfold agU
  rw [List.mem_map]
  constructor
  · rintro ⟨i, hi, e⟩
    rw [List.mem_filter, List.mem_range] at hi
    exact ⟨i, hi.1, e.symm, by cases hb : allowsB (rs.getD i run0) r with
      | false => rfl
      | true => rw [hb] at hi; exact absurd hi.2 (by decide)⟩
  · rintro ⟨i, hi, e, h⟩
    exact ⟨i, List.mem_filter.2 ⟨List.mem_range.2 hi, by rw [h]; rfl⟩, e.symm⟩
theorem cover_iff {a l : List Int} : coverB a l = true ↔ ∀ x ∈ a, x ∈ l := by
  unfold coverB
  rw [List.all_eq_true]
  constructor
  · intro h x hx
    obtain ⟨i, hi, e⟩ := List.getElem_of_mem hx
    have := hasB_iff.1 (h i (List.mem_range.2 hi))
    rwa [show a.getD i 0 = x by simp [List.getD, hi, e]] at this
  · intro h i hi
    rw [List.mem_range] at hi
    refine hasB_iff.2 (h _ ?_)
    simp only [List.getD, List.getElem?_eq_getElem hi, Option.getD_some]
    exact List.getElem_mem hi
theorem ok_iff {R : List (Int × Int)} {rs : List RunD} {l : List Int} : okB (againstF R rs) l = true ↔ ∃ r ∈ listsF R, ∀ i, i < rs.length → ((i : Nat) : Int) ∉ l → allowsB (rs.getD i run0) r = true := by
  unfold okB
  rw [List.any_eq_true]
  constructor
  · rintro ⟨q, hq, h⟩
    rw [List.mem_range, against_len] at hq
    rw [against_at hq, cover_iff] at h
    refine ⟨(listsF R).getD q [], getD_memL hq, fun i hi hn => ?_⟩
    cases hb : allowsB (rs.getD i run0) ((listsF R).getD q []) with
    | true => rfl
    | false => exact absurd (h _ (mem_agU.2 ⟨i, hi, rfl, hb⟩)) hn
  · rintro ⟨r, hr, h⟩
    obtain ⟨q, hq, e⟩ := mem_getD hr
    refine ⟨q, List.mem_range.2 (by rw [against_len]; exact hq), ?_⟩
    rw [against_at hq, cover_iff]
    intro x hx
    obtain ⟨i, hi, rfl, hb⟩ := mem_agU.1 hx
    by_cases hm : ((i : Nat) : Int) ∈ l
    · exact hm
    · rw [e, h i hi hm] at hb; cases hb
def numsF (n : Nat) : List Int := (List.range n).map fun (i : Nat) => (i : Int)
theorem nums_sets (n : Nat) : numsF n ∈ setsF n n [] 0 := by
  have h := setsF_mem n (numsF n) [] 0 (fun y hy => by
    obtain ⟨i, hi, rfl⟩ := List.mem_map.1 hy
    rw [List.mem_range] at hi; omega) (by
    unfold numsF; rw [List.pairwise_map]
    exact List.pairwise_lt_range.imp (fun h => by omega))
  have e : (numsF n).length = n := by simp [numsF]
  rwa [e, List.nil_append] at h
theorem ok_all {R : List (Int × Int)} {rs : List RunD} (hpos : 0 < (listsF R).length) : leaveB rs.length (againstF R rs) rs.length [] 0 = true := by
  unfold leaveB
  rw [List.any_eq_true]
  refine ⟨numsF rs.length, nums_sets _, ok_iff.2 ⟨(listsF R).getD 0 [], getD_memL hpos, fun i hi hn => ?_⟩⟩
  exact absurd (List.mem_map.2 ⟨i, List.mem_range.2 hi, rfl⟩) hn
theorem doubt_found {R : List (Int × Int)} {rs : List RunD} {k : Nat} {z : List Int} (hk : k ≤ rs.length) (hn : (allUpto rs.length k).any (okB (againstF R rs)) = false) (hf : (setsF rs.length k [] 0).find? (okB (againstF R rs)) = some z) : doubtF R rs = z := by
  unfold doubtF
  obtain ⟨rest, e⟩ := allUpto_pre rs.length (k + 1) (rs.length - k)
  rw [show rs.length + 1 = k + 1 + (rs.length - k) by omega, e, allUpto_succ, List.append_assoc, find_app hn, find_app2 hf]; rfl
theorem all_go {n k : Nat} {A : List (List Int)} (hn : (allUpto n k).any (okB A) = false) (hy : leaveB n A k [] 0 = false) : (allUpto n (k + 1)).any (okB A) = false := by
  rw [allUpto_succ, List.any_append, hn]
  unfold leaveB at hy; rw [hy]; rfl
theorem all_not {R : List (Int × Int)} {rs : List RunD} {k : Nat} (hpos : 0 < (listsF R).length) (hk : rs.length < k) (hn : (allUpto rs.length k).any (okB (againstF R rs)) = false) : False := by
  obtain ⟨rest, e⟩ := allUpto_pre rs.length (rs.length + 1) (k - (rs.length + 1))
  rw [show rs.length + 1 + (k - (rs.length + 1)) = k by omega] at e
  rw [e, allUpto_succ] at hn
  simp only [List.any_append, Bool.or_eq_false_iff] at hn
  have := ok_all (R := R) (rs := rs) hpos
  unfold leaveB at this
  rw [hn.1.2] at this; cases this
theorem narrow_len {R : List (Int × Int)} (hR : MatV R) (hw : ∀ i, (R.getD i (0, 0)).2 - (R.getD i (0, 0)).1 ≤ 20) : ∀ (m : Nat) (arr : List Int) (band : Nat), (fromF R m arr band).length ≤ 21 ^ m
  | 0, arr, band => by simp [fromF]
  | m + 1, arr, band => by
    have h1 := hw band
    have hc : cntF R arr band ≤ 21 := by unfold cntF lowF; split <;> omega
    have key : ∀ t, (fromUpto R m arr band t).length ≤ 21 ^ m * t := by
      intro t
      induction t with
      | zero => simp [fromUpto]
      | succ t ih =>
        have h3 := narrow_len hR hw m (arr.set band (lowF R arr band + (t : Int))) (band + 1)
        rw [fromUpto_succ, List.length_append, Nat.mul_succ]; omega
    rw [fromF_end]
    calc _ ≤ 21 ^ m * cntF R arr band := key _
      _ ≤ 21 ^ m * 21 := Nat.mul_le_mul_left _ hc
      _ = 21 ^ (m + 1) := (Nat.pow_succ ..).symm
theorem check_few {R : List (Int × Int)} (h : checkF R = 0) : (listsF R).length ≤ 9261 := by
  have hR := (check_mat h).1
  have hw : ∀ i, (R.getD i (0, 0)).2 - (R.getD i (0, 0)).1 ≤ 20 := fun i => by
    unfold checkF at h
    by_cases h1 : (1 ≤ R.length ∧ R.length ≤ 3) ∧ allRateB R = true
    · by_cases hi : i < R.length
      · have := List.all_eq_true.1 h1.2 i (List.mem_range.2 hi)
        simp only [rateB, Bool.and_eq_true, decide_eq_true_eq] at this
        exact this.2
      · have : R.getD i (0, 0) = (0, 0) := by simp [List.getD, List.getElem?_eq_none (Nat.le_of_not_lt hi)]
        rw [this]; decide
    · rw [if_neg h1] at h; exact absurd h (by decide)
  refine Nat.le_trans (narrow_len hR hw R.length [0, 0, 0] 0) ?_
  calc 21 ^ R.length ≤ 21 ^ 3 := Nat.pow_le_pow_right (by decide) hR.1
    _ = 9261 := by decide
end Go.Proofs.Ytkkglkdnnfegkaa
namespace Go.Eng
open Go.RowKit Go.Eng
open Go.Proofs.Ytkkglkdnnfegkaa
theorem Sep.lst_ro {X : Nat → Prop} {w0 w : World} {L : List Res} {i : Nat} {lv : List Value} {ls : List (List Int)} (h : Eng.Sep X w0 w L) (hi : L[i]? = some (lstR lv ls)) : Eng.Sep X w0 w (L.set i (lstRo lv ls)) :=
  h.say hi (h.ok i _ hi : (lstR lv ls).p w) (fun _ hb => hb) (fun he => by cases he)
end Go.Eng
namespace Go.Proofs.Ytkkglkdnnfegkaa
open Go.RowKit Go.Eng
theorem against_small {R : List (Int × Int)} {rs : List RunD} {n : Nat} (h : rs.length ≤ n) (i : Nat) : ((againstF R rs).getD i []).length ≤ n := by
  by_cases hi : i < (listsF R).length
  · rw [against_at hi]; exact Nat.le_trans (agU_len ..) h
  · have : (againstF R rs).getD i [] = [] := by simp [List.getD, List.getElem?_eq_none (show (againstF R rs).length ≤ i by rw [against_len]; omega)]
    rw [this]; simp
end Go.Proofs.Ytkkglkdnnfegkaa

namespace Go.Proofs.Ytkkglkdnnfegkaa
open Go.RowKit Go.Shelf Go.Eng
theorem index_ok (xs : List Int) (x : Int) (v : Value) (w : World) (hv : SlAt w v 1 xs.length (ints xs)) (hlen : xs.length ≤ 1000000) :
  Calls Try.prog 95 #[v, (Value.int .i64 x)] w (Ret fun v w' => v = .int .i64 (fidx (fun i => decide (x = xs.getD i 0)) xs.length) ∧ Ext NoB w w') := by
 refine calls_enter Try.func95 rfl fun a0 hA0 => ?_
 replace hA0 : Fr 19 [] [(0, v), (1, (Value.int .i64 x))] a0 := hA0
 have hS0 : Sep NoB w w [(sl v 1 xs.length (ints xs))] := sep_ro ⟨rfl, hv, trivial⟩
 refine c_seq ?_
 refine c_region ?_
 refine st hA0 (op_assign rfl (evc _ _)) rfl rfl (by decide) fun a1 hA2 => ?_; clear hA0 a0
 refine wl_nil ?_
 refine then_n ?_
 refine c_seq ?_
 refine c_seq ?_
 refine c_region ?_
 refine st hA2 (op_move rfl (hA2.ev rfl)) rfl rfl (by decide) fun a3 hA4 => ?_; clear hA2 a1
 refine st hA4 (op_lenS rfl un_40 (hA4.ev rfl) (hS0.sk 0 rfl)) rfl rfl (by decide) fun a5 hA6 => ?_; clear hA4 a3
 refine st hA6 (op_move rfl (evc _ _)) rfl rfl (by decide) fun a7 hA8 => ?_; clear hA6 a5
 refine wl_nil ?_
 refine then_n ?_
 refine c_block ?_
 have hA9 := hA8.as [(8, (Value.int .i64 0)), (7, (Value.int .i64 (xs.length : Int))), (0, v), (1, (Value.int .i64 x))] rfl; clear hA8
 refine c_loop (G := Nat) (fun (k : Nat) a_ w_ => Fr 19 [] [(8, (Value.int .i64 (k : Int))), (7, (Value.int .i64 (xs.length : Int))), (0, v), (1, (Value.int .i64 x))] a_ ∧ Sep NoB w w_ [(sl v 1 xs.length (ints xs))] ∧ (k ≤ xs.length) ∧ (∀ i, i < k → decide (x = xs.getD i 0) = false)) (fun k => xs.length - k) 0 ⟨hA9.as _ rfl, hS0, by omega, by omega⟩ ?_
 clear hA9 hS0 a7
 rintro k a10 w12 ⟨hA11, hS13, hk, hn⟩
 refine c_seq ?_
 refine c_region ?_
 refine st hA11 (op_lss rfl (hA11.ev rfl) (hA11.ev rfl)) rfl rfl (by decide) fun a14 hA15 => ?_; clear hA11 a10
 refine wl_nil ?_
 refine then_n ?_
 refine c_seq ?_
 by_cases hb16 : (k : Int) < (xs.length : Int)
 ·skip
  rw [decide_eq_true hb16] at hA15
  refine c_true hA15 rfl ?_
  refine c_skip ?_
  refine then_n ?_
  refine c_seq ?_
  refine c_block ?_
  refine c_seq ?_
  refine c_region ?_
  refine st hA15 (op_move rfl (hA15.ev rfl)) rfl rfl (by decide) fun a17 hA18 => ?_; clear hA15 a14
  refine st hA18 (op_assign rfl (hA18.ev rfl)) rfl rfl (by decide) fun a19 hA20 => ?_; clear hA18 a17
  refine wl_nil ?_
  refine then_n ?_
  refine c_seq ?_
  refine c_region ?_
  refine st hA20 (op_move rfl (hA20.ev rfl)) rfl rfl (by decide) fun a21 hA22 => ?_; clear hA20 a19
  refine st hA22 (op_move rfl (hA22.ev rfl)) rfl rfl (by decide) fun a23 hA24 => ?_; clear hA22 a21
  refine st hA24 (op_move rfl (hA24.ev rfl)) rfl rfl (by decide) fun a25 hA26 => ?_; clear hA24 a23
  refine st hA26 (op_indexS rfl un_40 ty_3 (hA26.ev rfl) (i := k) (hA26.ev rfl) (hS13.sk 0 rfl) (by decide) (by omega)) rfl rfl (by decide) fun a27 hA28 => ?_; clear hA26 a25
  refine st hA28 (op_load1E rfl ty_3 (hA28.ev rfl) (hS13.sk 0 rfl) (ints_at (by omega))) rfl rfl (by decide) fun a29 hA30 => ?_; clear hA28 a27
  refine st hA30 (op_eql rfl (hA30.ev rfl) (hA30.ev rfl)) rfl rfl (by decide) fun a31 hA32 => ?_; clear hA30 a29
  refine wl_nil ?_
  refine then_n ?_
  by_cases hb33 : x = (xs.getD k 0)
  ·skip
   rw [decide_eq_true hb33] at hA32
   refine c_true hA32 rfl ?_
   refine c_seq ?_
   have hA34 := hA32.as [(5, (Value.int .i64 (k : Int)))] rfl; clear hA32
   refine c_region ?_
   refine st hA34 (op_move rfl (hA34.ev rfl)) rfl rfl (by decide) fun a35 hA36 => ?_; clear hA34 a31
   refine st hA36 (op_assign rfl (hA36.ev rfl)) rfl rfl (by decide) fun a37 hA38 => ?_; clear hA36 a35
   refine wl_nil ?_
   refine then_n ?_
   refine c_ret ?_
   refine blk_ret ?_
   refine then_ret ?_
   refine then_ret ?_
   refine blk_ret ?_
   refine then_ret ?_
   refine fin_run hA38 (.inl rfl) (run_results1 hA38 rfl (.tmp rfl)) ?_
   exact ⟨by first | rw [fidx_hit (by omega) hn (decide_eq_true (by assumption))] | rw [fidx_miss (fun i hi => hn i (by omega))], hS13.ext⟩
  ·skip
   rw [decide_eq_false hb33] at hA32
   refine c_false hA32 rfl ?_
   refine c_skip ?_
   refine blk_n ?_
   refine then_n ?_
   have hA39 := hA32.as [(8, (Value.int .i64 (k : Int))), (7, (Value.int .i64 (xs.length : Int))), (0, v), (1, (Value.int .i64 x))] rfl; clear hA32
   refine c_region ?_
   refine st hA39 (op_add rfl (hA39.ev rfl) (evc _ _) (by omega) (by omega)) rfl rfl (by decide) fun a40 hA41 => ?_; clear hA39 a31
   refine st hA41 (op_move rfl (hA41.ev rfl)) rfl rfl (by decide) fun a42 hA43 => ?_; clear hA41 a40
   refine wl_nil ?_
   exact then_n ⟨k + 1, ⟨hA43.as _ rfl, hS13, by omega, (fun i hi => by rcases Nat.lt_succ_iff_lt_or_eq.1 hi with h | h; exact hn i h; subst h; exact decide_eq_false (by assumption))⟩, by omega⟩
 ·skip
  rw [decide_eq_false hb16] at hA15
  refine c_false hA15 rfl ?_
  refine c_exit ?_
  refine then_exit ?_
  refine then_exit ?_
  refine blk_hit ?_
  refine then_n ?_
  refine c_seq ?_
  refine c_region ?_
  refine st hA15 (op_assign rfl (evc _ _)) rfl rfl (by decide) fun a44 hA45 => ?_; clear hA15 a14
  refine wl_nil ?_
  refine then_n ?_
  refine c_ret ?_
  refine fin_run hA45 (.inl rfl) (run_results1 hA45 rfl (.tmp rfl)) ?_
  exact ⟨by first | rw [fidx_hit (by omega) hn (decide_eq_true (by assumption))] | rw [fidx_miss (fun i hi => hn i (by omega))], hS13.ext⟩
theorem contains_ok (xs : List Int) (x : Int) (v : Value) (w : World) (hv : SlAt w v 1 xs.length (ints xs)) (hlen : xs.length ≤ 1000000) :
  Calls Try.prog 76 #[v, (Value.int .i64 x)] w (Ret fun v w' => v = .bool (hasB xs x) ∧ Ext NoB w w') := by
 refine calls_enter Try.func76 rfl fun a0 hA0 => ?_
 replace hA0 : Fr 9 [] [(0, v), (1, (Value.int .i64 x))] a0 := hA0
 have hS0 : Sep NoB w w [(sl v 1 xs.length (ints xs))] := sep_ro ⟨rfl, hv, trivial⟩
 refine c_seq ?_
 refine c_region ?_
 refine st hA0 (op_assign rfl (evc _ _)) rfl rfl (by decide) fun a1 hA2 => ?_; clear hA0 a0
 refine wl_nil ?_
 refine then_n ?_
 refine c_seq ?_
 refine c_region ?_
 refine st hA2 (op_move rfl (hA2.ev rfl)) rfl rfl (by decide) fun a3 hA4 => ?_; clear hA2 a1
 refine st hA4 (op_move rfl (hA4.ev rfl)) rfl rfl (by decide) fun a5 hA6 => ?_; clear hA4 a3
 refine stw hA6 (op_call rfl en_95 (ev2 (hA6.ev rfl) (hA6.ev rfl)) (index_ok xs x _ _ (hS0.sk 0 rfl) hlen)) rfl rfl (by decide) ?_
 rintro a7 _ w9 ⟨rfl, hE10⟩ hA8; have hS11 := hS0.step hE10; clear hE10 hA6 hS0 a5
 refine st hA8 (op_geq rfl (hA8.ev rfl) (evc _ _)) rfl rfl (by decide) fun a12 hA13 => ?_; clear hA8 a7
 refine st hA13 (op_assign rfl (hA13.ev rfl)) rfl rfl (by decide) fun a14 hA15 => ?_; clear hA13 a12
 refine wl_nil ?_
 refine then_n ?_
 refine c_ret ?_
 refine fin_run hA15 (.inl rfl) (run_results1 hA15 rfl (.tmp rfl)) ?_
 exact ⟨congrArg Value.bool (fidx_any (fun i => decide (x = xs.getD i 0)) xs.length), hS11.ext⟩
theorem hasin_ok (x : Int) (b : Nat) (l : List Int) (xl : Value) (w : World) (hb : (blk b 40 [xl]).p w) (hv : SlAt w xl 1 l.length (ints l)) (hl : l.length ≤ 1000000) :
  Calls Try.prog 75 #[(Value.int .i64 x), (bptr b 0)] w (Ret fun v w' => v = .bool (hasB l x) ∧ Ext NoB w w') := by
 refine calls_enter Try.func75 rfl fun a0 hA0 => ?_
 replace hA0 : Fr 7 [] [(0, (Value.int .i64 x)), (1, (bptr b 0))] a0 := hA0
 have hS0 : Sep NoB w w [(rob b 40 [xl]), (sl xl 1 l.length (ints l))] := sep_ro ⟨rfl, hb, rfl, hv, trivial⟩
 refine c_seq ?_
 refine c_region ?_
 refine st hA0 (op_assign rfl (evc _ _)) rfl rfl (by decide) fun a1 hA2 => ?_; clear hA0 a0
 refine wl_nil ?_
 refine then_n ?_
 refine c_seq ?_
 refine c_region ?_
 refine st hA2 (op_load1 rfl ty_40 (hA2.ev rfl) (hS0.rk 0 rfl) rfl) rfl rfl (by decide) fun a3 hA4 => ?_; clear hA2 a1
 refine st hA4 (op_move rfl (hA4.ev rfl)) rfl rfl (by decide) fun a5 hA6 => ?_; clear hA4 a3
 refine stw hA6 (op_call rfl en_76 (ev2 (hA6.ev rfl) (hA6.ev rfl)) (contains_ok l x _ _ (hS0.sk 1 rfl) (by omega))) rfl rfl (by decide) ?_
 rintro a7 _ w9 ⟨rfl, hE10⟩ hA8; have hS11 := hS0.step hE10; clear hE10 hA6 hS0 a5
 refine st hA8 (op_assign rfl (hA8.ev rfl)) rfl rfl (by decide) fun a12 hA13 => ?_; clear hA8 a7
 refine wl_nil ?_
 refine then_n ?_
 refine c_ret ?_
 refine fin_run hA13 (.inl rfl) (run_results1 hA13 rfl (.tmp rfl)) ?_
 exact ⟨rfl, hS11.ext⟩
theorem covers_ok (a : List Int) (xa : Value) (b : Nat) (l : List Int) (xl : Value) (w : World) (hb : (blk b 40 [xl]).p w) (hv : SlAt w xl 1 l.length (ints l)) (hl : l.length ≤ 1000000) (ha : SlAt w xa 1 a.length (ints a)) (hal : a.length ≤ 1000000) :
  Calls Try.prog 73 #[xa, (bptr b 0)] w (Ret fun v w' => v = .bool (coverB a l) ∧ Ext NoB w w') := by
 refine calls_enter Try.func73 rfl fun a0 hA0 => ?_
 replace hA0 : Fr 7 [] [(0, xa), (1, (bptr b 0))] a0 := hA0
 have hS0 : Sep NoB w w [(rob b 40 [xl]), (sl xl 1 l.length (ints l)), (sl xa 1 a.length (ints a))] := sep_ro ⟨rfl, hb, rfl, hv, rfl, ha, trivial⟩
 refine c_seq ?_
 refine c_region ?_
 refine st hA0 (op_assign rfl (evc _ _)) rfl rfl (by decide) fun a1 hA2 => ?_; clear hA0 a0
 refine wl_nil ?_
 refine then_n ?_
 refine c_seq ?_
 refine c_region ?_
 refine st hA2 (op_move rfl (hA2.ev rfl)) rfl rfl (by decide) fun a3 hA4 => ?_; clear hA2 a1
 refine st hA4 (op_makeFunc rfl ev0 (ev1 (hA4.ev rfl))) rfl rfl (by decide) fun a5 hA6 => ?_; clear hA4 a3
 refine stw hA6 (op_call rfl en_74 (ev2 (hA6.ev rfl) (hA6.ev rfl)) (all_int a _ 75 #[] #[(bptr b 0)] (fun i => hasB l (a.getD i 0)) _ (hS0.sk 2 rfl) (by omega) ⟨en_75, fun i hi W hW => hasin_ok _ b l xl W ((hS0.step hW).rk 0 rfl) ((hS0.step hW).sk 1 rfl) hl⟩)) rfl rfl (by decide) ?_
 rintro a7 _ w9 ⟨rfl, hE10⟩ hA8; have hS11 := hS0.step hE10; clear hE10 hA6 hS0 a5
 refine st hA8 (op_assign rfl (hA8.ev rfl)) rfl rfl (by decide) fun a12 hA13 => ?_; clear hA8 a7
 refine wl_nil ?_
 refine then_n ?_
 refine c_ret ?_
 refine fin_run hA13 (.inl rfl) (run_results1 hA13 rfl (.tmp rfl)) ?_
 exact ⟨rfl, hS11.ext⟩
theorem leave_zero (bb ba br bs : Nat) (va vu : Value) (ov lv : List Value) (A : List (List Int)) (rs : List RunD) (hlv : lv.length = rs.length) (hAl : A.length ≤ 1000000) (hAs : ∀ i, (A.getD i []).length ≤ 1000000) (hrl : rs.length ≤ 1000) (l : List Int) (next : Nat) (xl vb : Value) (best : List Int) (w : World) (X : Nat → Prop) (hl : l.length + 0 ≤ 1000) (hJ : Sep X w w [(row xl 3 1 l.length (ints l)), (blk bb 40 [vb]), (row vb 3 1 best.length (ints best)), (rob bs 120 [(Value.func (.func 71) #[] #[(bptr bb 0), (bptr ba 0), (bptr br 0), (bptr bs 0)])]), (rob ba 38 [va]), (rob br 35 [vu]), (sl va 1 ov.length ov), (lstRo ov A), (sl vu 3 rs.length (vtrips (runV lv rs)))]) :
  Calls Try.prog 71 #[xl, (Value.int .i64 (next : Int)), (Value.int .i64 0), (bptr bb 0), (bptr ba 0), (bptr br 0), (bptr bs 0)] w (Ret fun v w' => v = .bool (leaveB rs.length A 0 l next) ∧ ∃ vb' best', (leaveB rs.length A 0 l next = true → (setsF rs.length 0 l next).find? (okB A) = some best') ∧ Sep X w w' [(row xl 3 1 l.length (ints l)), (blk bb 40 [vb']), (row vb' 3 1 best'.length (ints best')), (rob bs 120 [(Value.func (.func 71) #[] #[(bptr bb 0), (bptr ba 0), (bptr br 0), (bptr bs 0)])]), (rob ba 38 [va]), (rob br 35 [vu]), (sl va 1 ov.length ov), (lstRo ov A), (sl vu 3 rs.length (vtrips (runV lv rs)))]) := by
 refine calls_enter Try.func71 rfl fun a0 hA0 => ?_
 replace hA0 : Fr 36 [] [(0, xl), (1, (Value.int .i64 (next : Int))), (2, (Value.int .i64 0)), (3, (bptr bb 0)), (4, (bptr ba 0)), (5, (bptr br 0)), (6, (bptr bs 0))] a0 := hA0
 have hol := (show (lstR ov A).p _ from hJ.ok 7 (lstRo ov A) rfl).1
 have hS0 : Sep X w w [(row xl 3 1 l.length (ints l)), (blk bb 40 [vb]), (row vb 3 1 best.length (ints best)), (rob bs 120 [(Value.func (.func 71) #[] #[(bptr bb 0), (bptr ba 0), (bptr br 0), (bptr bs 0)])]), (rob ba 38 [va]), (rob br 35 [vu]), (sl va 1 ov.length ov), (lstRo ov A), (sl vu 3 rs.length (vtrips (runV lv rs)))] := hJ
 refine c_seq ?_
 refine c_region ?_
 refine stw hA0 (op_box hS0 rfl (hA0.ev rfl) (cs := [xl]) (isSl_cells (SlAt.isSl (SlAt.of_row (hS0.ok_row 0 rfl))))) rfl rfl (by decide) ?_
 rintro a1 _ w3 ⟨b4, rfl, hS5⟩ hA2; clear hA0 hS0 a0
 refine st hA2 (op_assign rfl (evc _ _)) rfl rfl (by decide) fun a6 hA7 => ?_; clear hA2 a1
 refine wl_nil ?_
 refine then_n ?_
 refine c_seq ?_
 refine c_seq ?_
 refine c_region ?_
 refine st hA7 (op_move rfl (hA7.ev rfl)) rfl rfl (by decide) fun a8 hA9 => ?_; clear hA7 a6
 refine st hA9 (op_eql rfl (hA9.ev rfl) (evc _ _)) rfl rfl (by decide) fun a10 hA11 => ?_; clear hA9 a8
 refine wl_nil ?_
 refine then_n ?_
 refine c_true hA11 rfl ?_
 refine c_seq ?_
 have hA12 := hA11.as [(7, (bptr b4 0)), (3, (bptr bb 0)), (4, (bptr ba 0))] rfl; clear hA11
 refine c_region ?_
 refine st hA12 (op_load1 rfl ty_40 (hA12.ev rfl) (hS5.bk 0 rfl) rfl) rfl rfl (by decide) fun a13 hA14 => ?_; clear hA12 a10
 refine stw hA14 (op_call rfl en_61 (ev1 (hA14.ev rfl)) (clone_int l _ _ (SlAt.of_row (hS5.ok_row 1 rfl)) (by omega))) rfl rfl (by decide) ?_
 rintro a15 v21 w17 ⟨hE18, hO19⟩ hA16; have hS20 := hS5.new_row hE18 hO19; clear hE18 hO19 hA14 hS5 a13
 refine sts hA16 (op_store hS20 rfl ty_40 (hA16.ev rfl) (hA16.ev rfl) (i := 3) rfl (vs := [v21]) (isSl_cells (SlAt.isSl (SlAt.of_row (hS20.ok_row 0 rfl)))) rfl (all_c (SlAt.one (SlAt.of_row (hS20.ok_row 0 rfl))) all_n) (Nat.le_of_ble_eq_true rfl)) rfl rfl ?_
 intro _ w22 hS23 hA24; clear hA16
 have hS25 : Sep X w w22 [(row v21 3 1 l.length (ints l)), (blk b4 40 [xl]), (row xl 3 1 l.length (ints l)), (blk bb 40 [v21]), (row vb 3 1 best.length (ints best)), (rob bs 120 [(Value.func (.func 71) #[] #[(bptr bb 0), (bptr ba 0), (bptr br 0), (bptr bs 0)])]), (rob ba 38 [va]), (rob br 35 [vu]), (sl va 1 ov.length ov), (lstRo ov A), (sl vu 3 rs.length (vtrips (runV lv rs)))] := hS23; clear hS23 hS20
 refine wl_nil ?_
 refine then_n ?_
 refine c_seq ?_
 refine c_region ?_
 refine st hA24 (op_load1 rfl ty_38 (hA24.ev rfl) (hS25.rk 6 rfl) rfl) rfl rfl (by decide) fun a26 hA27 => ?_; clear hA24 a15
 refine st hA27 (op_makeFunc rfl ev0 (ev1 (hA27.ev rfl))) rfl rfl (by decide) fun a28 hA29 => ?_; clear hA27 a26
 refine stw hA29 (op_call rfl en_72 (ev2 (hA29.ev rfl) (hA29.ev rfl)) (contf_sls ov _ 73 #[] #[(bptr b4 0)] (fun i => coverB (A.getD i []) l) _ (hS25.sk 8 rfl) (by omega) ⟨en_73, fun i hi W hW => covers_ok _ _ _ l xl W ((hS25.step hW).bk 1 rfl) (SlAt.of_row ((hS25.step hW).ok_row 2 rfl)) (by omega) ((show (lstR ov A).p _ from (hS25.step hW).ok 9 (lstRo ov A) rfl).2 i (by omega)) (hAs i)⟩)) rfl rfl (by decide) ?_
 rintro a30 _ w32 ⟨rfl, hE33⟩ hA31; have hS34 := hS25.step hE33; clear hE33 hA29 hS25 a28
 refine st hA31 (op_assign rfl (hA31.ev rfl)) rfl rfl (by decide) fun a35 hA36 => ?_; clear hA31 a30
 refine wl_nil ?_
 refine then_n ?_
 refine c_ret ?_
 refine then_ret ?_
 refine fin_run hA36 (.inl rfl) (run_results1 hA36 rfl (.tmp rfl)) ?_
 rw [leave_0]
 exact ⟨congrArg Value.bool (by unfold okB; rw [hol]), _, l, fun h => find_0 h, hS34.keep [2, 3, 0, 5, 6, 7, 8, 9, 10] (by decide) _ rfl rfl⟩
theorem leave_succ (bb ba br bs : Nat) (va vu : Value) (ov lv : List Value) (A : List (List Int)) (rs : List RunD) (hlv : lv.length = rs.length) (hAl : A.length ≤ 1000000) (hAs : ∀ i, (A.getD i []).length ≤ 1000000) (hrl : rs.length ≤ 1000) (m : Nat) (ih : ∀ (l : List Int) (next : Nat) (xl vb : Value) (best : List Int) (w : World) (X : Nat → Prop) (hl : l.length + m ≤ 1000) (_ : Sep X w w [(row xl 3 1 l.length (ints l)), (blk bb 40 [vb]), (row vb 3 1 best.length (ints best)), (rob bs 120 [(Value.func (.func 71) #[] #[(bptr bb 0), (bptr ba 0), (bptr br 0), (bptr bs 0)])]), (rob ba 38 [va]), (rob br 35 [vu]), (sl va 1 ov.length ov), (lstRo ov A), (sl vu 3 rs.length (vtrips (runV lv rs)))]), Calls Try.prog 71 #[xl, .int .i64 (next : Int), .int .i64 (m : Int), bptr bb 0, bptr ba 0, bptr br 0, bptr bs 0] w (Ret fun v w' => v = .bool (leaveB rs.length A m l next) ∧ ∃ vb' best', (leaveB rs.length A m l next = true → (setsF rs.length m l next).find? (okB A) = some best') ∧ Sep X w w' [(row xl 3 1 l.length (ints l)), (blk bb 40 [vb']), (row vb' 3 1 best'.length (ints best')), (rob bs 120 [(Value.func (.func 71) #[] #[(bptr bb 0), (bptr ba 0), (bptr br 0), (bptr bs 0)])]), (rob ba 38 [va]), (rob br 35 [vu]), (sl va 1 ov.length ov), (lstRo ov A), (sl vu 3 rs.length (vtrips (runV lv rs)))])) (l : List Int) (next : Nat) (xl vb : Value) (best : List Int) (w : World) (X : Nat → Prop) (hl : l.length + (m + 1) ≤ 1000) (hJ : Sep X w w [(row xl 3 1 l.length (ints l)), (blk bb 40 [vb]), (row vb 3 1 best.length (ints best)), (rob bs 120 [(Value.func (.func 71) #[] #[(bptr bb 0), (bptr ba 0), (bptr br 0), (bptr bs 0)])]), (rob ba 38 [va]), (rob br 35 [vu]), (sl va 1 ov.length ov), (lstRo ov A), (sl vu 3 rs.length (vtrips (runV lv rs)))]) :
  Calls Try.prog 71 #[xl, (Value.int .i64 (next : Int)), (Value.int .i64 ((m : Int) + 1)), (bptr bb 0), (bptr ba 0), (bptr br 0), (bptr bs 0)] w (Ret fun v w' => v = .bool (leaveB rs.length A (m + 1) l next) ∧ ∃ vb' best', (leaveB rs.length A (m + 1) l next = true → (setsF rs.length (m + 1) l next).find? (okB A) = some best') ∧ Sep X w w' [(row xl 3 1 l.length (ints l)), (blk bb 40 [vb']), (row vb' 3 1 best'.length (ints best')), (rob bs 120 [(Value.func (.func 71) #[] #[(bptr bb 0), (bptr ba 0), (bptr br 0), (bptr bs 0)])]), (rob ba 38 [va]), (rob br 35 [vu]), (sl va 1 ov.length ov), (lstRo ov A), (sl vu 3 rs.length (vtrips (runV lv rs)))]) := by
 refine calls_enter Try.func71 rfl fun a0 hA0 => ?_
 replace hA0 : Fr 36 [] [(0, xl), (1, (Value.int .i64 (next : Int))), (2, (Value.int .i64 ((m : Int) + 1))), (3, (bptr bb 0)), (4, (bptr ba 0)), (5, (bptr br 0)), (6, (bptr bs 0))] a0 := hA0
 have hS0 : Sep X w w [(row xl 3 1 l.length (ints l)), (blk bb 40 [vb]), (row vb 3 1 best.length (ints best)), (rob bs 120 [(Value.func (.func 71) #[] #[(bptr bb 0), (bptr ba 0), (bptr br 0), (bptr bs 0)])]), (rob ba 38 [va]), (rob br 35 [vu]), (sl va 1 ov.length ov), (lstRo ov A), (sl vu 3 rs.length (vtrips (runV lv rs)))] := hJ
 refine c_seq ?_
 refine c_region ?_
 refine stw hA0 (op_box hS0 rfl (hA0.ev rfl) (cs := [xl]) (isSl_cells (SlAt.isSl (SlAt.of_row (hS0.ok_row 0 rfl))))) rfl rfl (by decide) ?_
 rintro a1 _ w3 ⟨b4, rfl, hS5⟩ hA2; clear hA0 hS0 a0
 refine st hA2 (op_assign rfl (evc _ _)) rfl rfl (by decide) fun a6 hA7 => ?_; clear hA2 a1
 refine wl_nil ?_
 refine then_n ?_
 refine c_seq ?_
 refine c_seq ?_
 refine c_region ?_
 refine st hA7 (op_move rfl (hA7.ev rfl)) rfl rfl (by decide) fun a8 hA9 => ?_; clear hA7 a6
 refine st hA9 (op_eql rfl (hA9.ev rfl) (evc _ _)) rfl rfl (by decide) fun a10 hA11 => ?_; clear hA9 a8
 have hd12 : ¬ (((m : Int) + 1) = 0) := (by omega)
 rw [decide_eq_false hd12] at hA11
 refine wl_nil ?_
 refine then_n ?_
 refine c_false hA11 rfl ?_
 refine c_skip ?_
 refine then_n ?_
 refine c_seq ?_
 refine c_seq ?_
 have hA13 := hA11.as [(7, (bptr b4 0)), (1, (Value.int .i64 (next : Int))), (2, (Value.int .i64 ((m : Int) + 1))), (5, (bptr br 0)), (6, (bptr bs 0))] rfl; clear hA11
 refine c_region ?_
 refine st hA13 (op_move rfl (hA13.ev rfl)) rfl rfl (by decide) fun a14 hA15 => ?_; clear hA13 a10
 refine st hA15 (op_assign rfl (hA15.ev rfl)) rfl rfl (by decide) fun a16 hA17 => ?_; clear hA15 a14
 refine wl_nil ?_
 refine then_n ?_
 refine c_block ?_
 have hA18 := hA17.as [(11, (Value.int .i64 (next : Int))), (7, (bptr b4 0)), (2, (Value.int .i64 ((m : Int) + 1))), (5, (bptr br 0)), (6, (bptr bs 0))] rfl; clear hA17
 refine c_loop (G := Nat) (fun (k : Nat) a_ w_ => ∃ vb_ : Value, ∃ best_ : List Int, Fr 36 [] [(11, (Value.int .i64 (k : Int))), (7, (bptr b4 0)), (2, (Value.int .i64 ((m : Int) + 1))), (5, (bptr br 0)), (6, (bptr bs 0))] a_ ∧ Sep X w w_ [(blk b4 40 [xl]), (row xl 3 1 l.length (ints l)), (blk bb 40 [vb_]), (row vb_ 3 1 best_.length (ints best_)), (rob bs 120 [(Value.func (.func 71) #[] #[(bptr bb 0), (bptr ba 0), (bptr br 0), (bptr bs 0)])]), (rob ba 38 [va]), (rob br 35 [vu]), (sl va 1 ov.length ov), (lstRo ov A), (sl vu 3 rs.length (vtrips (runV lv rs)))] ∧ (next ≤ k) ∧ (k = next ∨ k ≤ rs.length) ∧ ((setsUpto rs.length m l next k).any (okB A) = false)) (fun k => rs.length - k) next ⟨vb, best, hA18.as _ rfl, hS5, Nat.le_refl _, .inl rfl, (by rw [setsUpto_self]; rfl)⟩ ?_
 clear hA18 hS5 a16
 rintro k a19 w21 ⟨vb_, best_, hA20, hS22, hk1, hk2, hno⟩
 refine c_seq ?_
 refine c_seq ?_
 refine c_region ?_
 refine st hA20 (op_move rfl (hA20.ev rfl)) rfl rfl (by decide) fun a23 hA24 => ?_; clear hA20 a19
 refine st hA24 (op_load1 rfl ty_35 (hA24.ev rfl) (hS22.rk 6 rfl) rfl) rfl rfl (by decide) fun a25 hA26 => ?_; clear hA24 a23
 refine st hA26 (op_lenS rfl un_35 (hA26.ev rfl) (hS22.sk 9 rfl)) rfl rfl (by decide) fun a27 hA28 => ?_; clear hA26 a25
 refine st hA28 (op_lss rfl (hA28.ev rfl) (hA28.ev rfl)) rfl rfl (by decide) fun a29 hA30 => ?_; clear hA28 a27
 refine wl_nil ?_
 refine then_n ?_
 by_cases hb31 : (k : Int) < (rs.length : Int)
 ·skip
  rw [decide_eq_true hb31] at hA30
  refine c_true hA30 rfl ?_
  refine c_skip ?_
  refine then_n ?_
  refine c_seq ?_
  refine c_block ?_
  refine c_seq ?_
  have hA32 := hA30.as [(11, (Value.int .i64 (k : Int))), (7, (bptr b4 0)), (2, (Value.int .i64 ((m : Int) + 1))), (5, (bptr br 0)), (6, (bptr bs 0))] rfl; clear hA30
  have hB33 := hS22.below
  refine c_drawnA mixed hA32 hS22 9 [[], [], [], [2], [1, 3], [], [5], [], [7]] [(Yd.val (Value.func (.func 71) #[] #[(bptr bb 0), (bptr ba 0), (bptr br 0), (bptr bs 0)])), (Yd.val xl), (Yd.val (Value.int .i64 (k : Int))), (Yd.blt w21.heap.size 3 1 [(Value.int .i64 (k : Int))]), Yd.any, (Yd.val (Value.int .i64 (k : Int))), (Yd.val (Value.int .i64 ((k : Int) + 1))), (Yd.val (Value.int .i64 ((m : Int) + 1))), (Yd.val (Value.int .i64 (((m : Int) + 1) - 1)))] (by decide +kernel) rfl rfl 4 1 (by decide) rfl 1 ((ints l) ++ [(Value.int .i64 (k : Int))]) rfl ⟨ydb_val _ _, ydb_val _ _, ydb_val _ _, ydb_blt _ _ _ _, ydb_any _, ydb_val _ _, ydb_val _ _, ydb_val _ _, ydb_val _ _, trivial⟩ ?_ ?_
  ·skip
   refine ⟨⟨fun _ a w hA hS hz hd => ?_, fun e_ => absurd e_ (by decide)⟩, ?_⟩
   ·skip
    exact opG_of rfl (dv (op_load1 rfl ty_120 (hA.ev rfl) (hS.rk 4 rfl) rfl) hS rfl)
   refine ⟨⟨fun _ a w hA hS hz hd => ?_, fun e_ => absurd e_ (by decide)⟩, ?_⟩
   ·skip
    exact opG_of rfl (dv (op_load1 rfl ty_40 (hA.ev rfl) (hS.bk 0 rfl) rfl) hS rfl)
   refine ⟨⟨fun _ a w hA hS hz hd => ?_, fun e_ => absurd e_ (by decide)⟩, ?_⟩
   ·skip
    exact opG_of rfl (dv (op_move rfl (hA.ev rfl)) hS rfl)
   refine ⟨⟨fun _ a w hA hS hz hd => ?_, fun e_ => absurd e_ (by decide)⟩, ?_⟩
   ·skip
    have e2 := has_ev (hd 2 (by decide)) rfl (fun _ h => h)
    exact opG_of rfl (dbltZ hS hz rfl (pv1 (tmp_ev e2)) un_40 ty_3 ze_3 (by decide) (cs := [(Value.int .i64 (k : Int))]) (bs_3_1_0i _) (fun _ _ h => h))
   refine ⟨⟨fun e_ => absurd rfl e_, fun _ a w hA hS hz hd => ?_⟩, ?_⟩
   ·skip
    have e1 := has_ev (hd 1 (by decide)) rfl (fun _ h => h)
    obtain ⟨_, e3, b3, rfl, hp3, _⟩ := has_get (hd 3 (by decide)) rfl
    exact opG_of rfl (op_appendL hS hz rfl un_40 el_3 (tmp_ev e1) (tmp_ev e3) (i := 1) rfl (SlAt.of_blk hp3 rfl (by decide)) (by decide) rfl (by simp only [maxLen]; omega) (by omega))
   refine ⟨⟨fun _ a w hA hS hz hd => ?_, fun e_ => absurd e_ (by decide)⟩, ?_⟩
   ·skip
    exact opG_of rfl (dv (op_move rfl (hA.ev rfl)) hS rfl)
   refine ⟨⟨fun _ a w hA hS hz hd => ?_, fun e_ => absurd e_ (by decide)⟩, ?_⟩
   ·skip
    have e5 := has_ev (hd 5 (by decide)) rfl (fun _ h => h)
    exact opG_of rfl (dv (op_add rfl (tmp_ev e5) (evc _ _) (by omega) (by omega)) hS rfl)
   refine ⟨⟨fun _ a w hA hS hz hd => ?_, fun e_ => absurd e_ (by decide)⟩, ?_⟩
   ·skip
    exact opG_of rfl (dv (op_move rfl (hA.ev rfl)) hS rfl)
   refine ⟨⟨fun _ a w hA hS hz hd => ?_, fun e_ => absurd e_ (by decide)⟩, ?_⟩
   ·skip
    have e7 := has_ev (hd 7 (by decide)) rfl (fun _ h => h)
    exact opG_of rfl (dv (op_sub rfl (tmp_ev e7) (evc _ _) (by omega) (by omega)) hS rfl)
   trivial
  intro a34 w35 hA36 hS37 hH38 hAp39; clear hA32 hS22
  have hA40 := hA36.add (has_ev (hH38 0 (by decide) (by decide)) rfl (fun _ h => h)); clear hA36
  obtain ⟨u42, ht43, hap44⟩ := has_get hAp39 rfl
  have hA41 := hA40.add ht43; clear hA40 ht43 hAp39
  have hA45 := hA41.add (has_ev (hH38 6 (by decide) (by decide)) rfl (fun _ h => h)); clear hA41
  have hA46 := hA45.add (has_ev (hH38 8 (by decide) (by decide)) rfl (fun _ h => h)); clear hA45
  clear hH38
  rcases appL_row hS37 hB33 (i0 := 1) rfl hap44 with ⟨hS47, hbk48⟩ | hS47
  ·skip
   clear hS37
   have hS53 := hS47.row_say (i := 1) rfl (n' := (l ++ [(k : Int)]).length) (xs' := ints (l ++ [(k : Int)])) (by simp) (by simp [ints]); clear hS47
   have hS54 : Sep X w w35 [(row u42 3 1 ((l ++ [(k : Int)]).length) (ints (l ++ [(k : Int)]))), (blk bb 40 [vb_]), (row vb_ 3 1 best_.length (ints best_)), (rob bs 120 [(Value.func (.func 71) #[] #[(bptr bb 0), (bptr ba 0), (bptr br 0), (bptr bs 0)])]), (rob ba 38 [va]), (rob br 35 [vu]), (sl va 1 ov.length ov), (lstRo ov A), (sl vu 3 rs.length (vtrips (runV lv rs))), (blk b4 40 [xl])] := hS53.keep [1, 2, 3, 4, 5, 6, 7, 8, 9, 0] (by decide) _ rfl rfl; clear hS53
   refine stw hA46 (op_callv rfl (hA46.ev rfl) en_71 (ev3 (hA46.ev rfl) (hA46.ev rfl) (hA46.ev rfl)) (by have hz := ih (l ++ [(k : Int)]) (k + 1) _ _ _ _ (ownX [(row u42 3 1 ((l ++ [(k : Int)]).length) (ints (l ++ [(k : Int)]))), (blk bb 40 [vb_]), (row vb_ 3 1 best_.length (ints best_)), (rob bs 120 [(Value.func (.func 71) #[] #[(bptr bb 0), (bptr ba 0), (bptr br 0), (bptr bs 0)])]), (rob ba 38 [va]), (rob br 35 [vu]), (sl va 1 ov.length ov), (lstRo ov A), (sl vu 3 rs.length (vtrips (runV lv rs)))]) (by simp; omega) (Sep.enterG (A := [(row u42 3 1 ((l ++ [(k : Int)]).length) (ints (l ++ [(k : Int)]))), (blk bb 40 [vb_]), (row vb_ 3 1 best_.length (ints best_)), (rob bs 120 [(Value.func (.func 71) #[] #[(bptr bb 0), (bptr ba 0), (bptr br 0), (bptr bs 0)])]), (rob ba 38 [va]), (rob br 35 [vu]), (sl va 1 ov.length ov), (lstRo ov A), (sl vu 3 rs.length (vtrips (runV lv rs)))]) (B := [(blk b4 40 [xl])]) hS54); rw [show ((m : Int) + 1) - 1 = (m : Int) by omega]; exact hz)) rfl rfl (by decide) ?_
   rintro a50 _ w52 ⟨rfl, vb56, best57, hf58, hT55⟩ hA51; clear hA46 a34
   have hS59 : Sep X w w52 [(row u42 3 1 ((l ++ [(k : Int)]).length) (ints (l ++ [(k : Int)]))), (blk bb 40 [vb56]), (row vb56 3 1 best57.length (ints best57)), (rob bs 120 [(Value.func (.func 71) #[] #[(bptr bb 0), (bptr ba 0), (bptr br 0), (bptr bs 0)])]), (rob ba 38 [va]), (rob br 35 [vu]), (sl va 1 ov.length ov), (lstRo ov A), (sl vu 3 rs.length (vtrips (runV lv rs))), (blk b4 40 [xl])] := Sep.callG (A := [(row u42 3 1 ((l ++ [(k : Int)]).length) (ints (l ++ [(k : Int)]))), (blk bb 40 [vb_]), (row vb_ 3 1 best_.length (ints best_)), (rob bs 120 [(Value.func (.func 71) #[] #[(bptr bb 0), (bptr ba 0), (bptr br 0), (bptr bs 0)])]), (rob ba 38 [va]), (rob br 35 [vu]), (sl va 1 ov.length ov), (lstRo ov A), (sl vu 3 rs.length (vtrips (runV lv rs)))]) (B := [(blk b4 40 [xl])]) hS54 hT55 (lentOk_at ⟨.inl rfl, .inl rfl, .inl rfl, .inr ⟨3, rfl⟩, .inr ⟨4, rfl⟩, .inr ⟨5, rfl⟩, .inr ⟨6, rfl⟩, .inr ⟨7, rfl⟩, .inr ⟨8, rfl⟩, trivial⟩); clear hT55 hS54
   have hS60 := hbk48 _ _ _ _ (hS59.row_say (i := 0) rfl (n' := l.length + 1) (xs' := ints l ++ [Value.int .i64 (k : Int)]) (by simp) (by simp [ints])) 0 rfl (by simp [ints]); clear hS59
   refine wl_nil ?_
   refine then_n ?_
   rcases Bool.eq_false_or_eq_true ((leaveB rs.length A m (l ++ [(k : Int)]) (k + 1))) with hb61 | hb61
   ·skip
    rw [hb61] at hA51
    refine c_true hA51 rfl ?_
    refine c_seq ?_
    have hA62 := hA51.as [] rfl; clear hA51
    refine c_region ?_
    refine st hA62 (op_assign rfl (evc _ _)) rfl rfl (by decide) fun a63 hA64 => ?_; clear hA62 a50
    refine wl_nil ?_
    refine then_n ?_
    refine c_ret ?_
    refine blk_ret ?_
    refine then_ret ?_
    refine then_ret ?_
    refine blk_ret ?_
    refine then_ret ?_
    refine fin_run hA64 (.inl rfl) (run_results1 hA64 rfl (.tmp rfl)) ?_
    have hh := leave_hit (A := A) hk1 (by omega) hno (by assumption) (hf58 (by assumption))
    rw [hh.1]
    exact ⟨rfl, _, _, fun _ => hh.2, hS60.keep [0, 1, 2, 3, 4, 5, 6, 7, 8] (by decide) _ rfl rfl⟩
   ·skip
    rw [hb61] at hA51
    refine c_false hA51 rfl ?_
    refine c_skip ?_
    refine blk_n ?_
    refine then_n ?_
    refine c_region ?_
    refine st hA51 (op_move rfl (hA51.ev rfl)) rfl rfl (by decide) fun a65 hA66 => ?_; clear hA51 a50
    refine st hA66 (op_add rfl (hA66.ev rfl) (evc _ _) (by omega) (by omega)) rfl rfl (by decide) fun a67 hA68 => ?_; clear hA66 a65
    refine st hA68 (op_assign rfl (hA68.ev rfl)) rfl rfl (by decide) fun a69 hA70 => ?_; clear hA68 a67
    refine wl_nil ?_
    have hS71 : Sep X w w52 [(blk b4 40 [xl]), (row xl 3 1 l.length (ints l)), (blk bb 40 [vb56]), (row vb56 3 1 best57.length (ints best57)), (rob bs 120 [(Value.func (.func 71) #[] #[(bptr bb 0), (bptr ba 0), (bptr br 0), (bptr bs 0)])]), (rob ba 38 [va]), (rob br 35 [vu]), (sl va 1 ov.length ov), (lstRo ov A), (sl vu 3 rs.length (vtrips (runV lv rs)))] := hS60.keep [9, 0, 1, 2, 3, 4, 5, 6, 7, 8] (by decide) _ rfl rfl; clear hS60
    exact then_n ⟨k + 1, ⟨vb56, best57, hA70.as _ rfl, hS71, by omega, by omega, leave_go hk1 hno (by assumption)⟩, by omega⟩
  ·skip
   clear hS37
   have hS76 := hS47.row_say (i := 0) rfl (n' := (l ++ [(k : Int)]).length) (xs' := ints (l ++ [(k : Int)])) (by simp) (by simp [ints]); clear hS47
   have hS77 : Sep X w w35 [(row u42 3 1 ((l ++ [(k : Int)]).length) (ints (l ++ [(k : Int)]))), (blk bb 40 [vb_]), (row vb_ 3 1 best_.length (ints best_)), (rob bs 120 [(Value.func (.func 71) #[] #[(bptr bb 0), (bptr ba 0), (bptr br 0), (bptr bs 0)])]), (rob ba 38 [va]), (rob br 35 [vu]), (sl va 1 ov.length ov), (lstRo ov A), (sl vu 3 rs.length (vtrips (runV lv rs))), (blk b4 40 [xl]), (row xl 3 1 l.length (ints l))] := hS76.keep [0, 3, 4, 5, 6, 7, 8, 9, 10, 1, 2] (by decide) _ rfl rfl; clear hS76
   refine stw hA46 (op_callv rfl (hA46.ev rfl) en_71 (ev3 (hA46.ev rfl) (hA46.ev rfl) (hA46.ev rfl)) (by have hz := ih (l ++ [(k : Int)]) (k + 1) _ _ _ _ (ownX [(row u42 3 1 ((l ++ [(k : Int)]).length) (ints (l ++ [(k : Int)]))), (blk bb 40 [vb_]), (row vb_ 3 1 best_.length (ints best_)), (rob bs 120 [(Value.func (.func 71) #[] #[(bptr bb 0), (bptr ba 0), (bptr br 0), (bptr bs 0)])]), (rob ba 38 [va]), (rob br 35 [vu]), (sl va 1 ov.length ov), (lstRo ov A), (sl vu 3 rs.length (vtrips (runV lv rs)))]) (by simp; omega) (Sep.enterG (A := [(row u42 3 1 ((l ++ [(k : Int)]).length) (ints (l ++ [(k : Int)]))), (blk bb 40 [vb_]), (row vb_ 3 1 best_.length (ints best_)), (rob bs 120 [(Value.func (.func 71) #[] #[(bptr bb 0), (bptr ba 0), (bptr br 0), (bptr bs 0)])]), (rob ba 38 [va]), (rob br 35 [vu]), (sl va 1 ov.length ov), (lstRo ov A), (sl vu 3 rs.length (vtrips (runV lv rs)))]) (B := [(blk b4 40 [xl]), (row xl 3 1 l.length (ints l))]) hS77); rw [show ((m : Int) + 1) - 1 = (m : Int) by omega]; exact hz)) rfl rfl (by decide) ?_
   rintro a73 _ w75 ⟨rfl, vb79, best80, hf81, hT78⟩ hA74; clear hA46 a34
   have hS82 : Sep X w w75 [(row u42 3 1 ((l ++ [(k : Int)]).length) (ints (l ++ [(k : Int)]))), (blk bb 40 [vb79]), (row vb79 3 1 best80.length (ints best80)), (rob bs 120 [(Value.func (.func 71) #[] #[(bptr bb 0), (bptr ba 0), (bptr br 0), (bptr bs 0)])]), (rob ba 38 [va]), (rob br 35 [vu]), (sl va 1 ov.length ov), (lstRo ov A), (sl vu 3 rs.length (vtrips (runV lv rs))), (blk b4 40 [xl]), (row xl 3 1 l.length (ints l))] := Sep.callG (A := [(row u42 3 1 ((l ++ [(k : Int)]).length) (ints (l ++ [(k : Int)]))), (blk bb 40 [vb_]), (row vb_ 3 1 best_.length (ints best_)), (rob bs 120 [(Value.func (.func 71) #[] #[(bptr bb 0), (bptr ba 0), (bptr br 0), (bptr bs 0)])]), (rob ba 38 [va]), (rob br 35 [vu]), (sl va 1 ov.length ov), (lstRo ov A), (sl vu 3 rs.length (vtrips (runV lv rs)))]) (B := [(blk b4 40 [xl]), (row xl 3 1 l.length (ints l))]) hS77 hT78 (lentOk_at ⟨.inl rfl, .inl rfl, .inl rfl, .inr ⟨3, rfl⟩, .inr ⟨4, rfl⟩, .inr ⟨5, rfl⟩, .inr ⟨6, rfl⟩, .inr ⟨7, rfl⟩, .inr ⟨8, rfl⟩, trivial⟩); clear hT78 hS77
   refine wl_nil ?_
   refine then_n ?_
   rcases Bool.eq_false_or_eq_true ((leaveB rs.length A m (l ++ [(k : Int)]) (k + 1))) with hb83 | hb83
   ·skip
    rw [hb83] at hA74
    refine c_true hA74 rfl ?_
    refine c_seq ?_
    have hA84 := hA74.as [] rfl; clear hA74
    refine c_region ?_
    refine st hA84 (op_assign rfl (evc _ _)) rfl rfl (by decide) fun a85 hA86 => ?_; clear hA84 a73
    refine wl_nil ?_
    refine then_n ?_
    refine c_ret ?_
    refine blk_ret ?_
    refine then_ret ?_
    refine then_ret ?_
    refine blk_ret ?_
    refine then_ret ?_
    refine fin_run hA86 (.inl rfl) (run_results1 hA86 rfl (.tmp rfl)) ?_
    have hh := leave_hit (A := A) hk1 (by omega) hno (by assumption) (hf81 (by assumption))
    rw [hh.1]
    exact ⟨rfl, _, _, fun _ => hh.2, hS82.keep [10, 1, 2, 3, 4, 5, 6, 7, 8] (by decide) _ rfl rfl⟩
   ·skip
    rw [hb83] at hA74
    refine c_false hA74 rfl ?_
    refine c_skip ?_
    refine blk_n ?_
    refine then_n ?_
    refine c_region ?_
    refine st hA74 (op_move rfl (hA74.ev rfl)) rfl rfl (by decide) fun a87 hA88 => ?_; clear hA74 a73
    refine st hA88 (op_add rfl (hA88.ev rfl) (evc _ _) (by omega) (by omega)) rfl rfl (by decide) fun a89 hA90 => ?_; clear hA88 a87
    refine st hA90 (op_assign rfl (hA90.ev rfl)) rfl rfl (by decide) fun a91 hA92 => ?_; clear hA90 a89
    refine wl_nil ?_
    have hS93 : Sep X w w75 [(blk b4 40 [xl]), (row xl 3 1 l.length (ints l)), (blk bb 40 [vb79]), (row vb79 3 1 best80.length (ints best80)), (rob bs 120 [(Value.func (.func 71) #[] #[(bptr bb 0), (bptr ba 0), (bptr br 0), (bptr bs 0)])]), (rob ba 38 [va]), (rob br 35 [vu]), (sl va 1 ov.length ov), (lstRo ov A), (sl vu 3 rs.length (vtrips (runV lv rs)))] := hS82.keep [9, 10, 1, 2, 3, 4, 5, 6, 7, 8] (by decide) _ rfl rfl; clear hS82
    exact then_n ⟨k + 1, ⟨vb79, best80, hA92.as _ rfl, hS93, by omega, by omega, leave_go hk1 hno (by assumption)⟩, by omega⟩
 ·skip
  rw [decide_eq_false hb31] at hA30
  refine c_false hA30 rfl ?_
  refine c_exit ?_
  refine then_exit ?_
  refine then_exit ?_
  refine blk_hit ?_
  refine then_n ?_
  refine c_seq ?_
  have hA94 := hA30.as [] rfl; clear hA30
  refine c_region ?_
  refine st hA94 (op_assign rfl (evc _ _)) rfl rfl (by decide) fun a95 hA96 => ?_; clear hA94 a29
  refine wl_nil ?_
  refine then_n ?_
  refine c_ret ?_
  refine fin_run hA96 (.inl rfl) (run_results1 hA96 rfl (.tmp rfl)) ?_
  have he := leave_end (A := A) (l := l) hk2 (by omega) hno
  rw [he]
  exact ⟨rfl, _, _, (fun h => absurd h (by decide)), hS22.keep [1, 2, 3, 4, 5, 6, 7, 8, 9] (by decide) _ rfl rfl⟩
theorem leave_ok (bb ba br bs : Nat) (va vu : Value) (ov lv : List Value) (A : List (List Int)) (rs : List RunD) (hlv : lv.length = rs.length) (hAl : A.length ≤ 1000000) (hAs : ∀ i, (A.getD i []).length ≤ 1000000) (hrl : rs.length ≤ 1000) : ∀ (m : Nat) (l : List Int) (next : Nat) (xl vb : Value) (best : List Int) (w : World) (X : Nat → Prop) (hl : l.length + m ≤ 1000) (_ : Sep X w w [(row xl 3 1 l.length (ints l)), (blk bb 40 [vb]), (row vb 3 1 best.length (ints best)), (rob bs 120 [(Value.func (.func 71) #[] #[(bptr bb 0), (bptr ba 0), (bptr br 0), (bptr bs 0)])]), (rob ba 38 [va]), (rob br 35 [vu]), (sl va 1 ov.length ov), (lstRo ov A), (sl vu 3 rs.length (vtrips (runV lv rs)))]), Calls Try.prog 71 #[xl, .int .i64 (next : Int), .int .i64 (m : Int), bptr bb 0, bptr ba 0, bptr br 0, bptr bs 0] w (Ret fun v w' => v = .bool (leaveB rs.length A m l next) ∧ ∃ vb' best', (leaveB rs.length A m l next = true → (setsF rs.length m l next).find? (okB A) = some best') ∧ Sep X w w' [(row xl 3 1 l.length (ints l)), (blk bb 40 [vb']), (row vb' 3 1 best'.length (ints best')), (rob bs 120 [(Value.func (.func 71) #[] #[(bptr bb 0), (bptr ba 0), (bptr br 0), (bptr bs 0)])]), (rob ba 38 [va]), (rob br 35 [vu]), (sl va 1 ov.length ov), (lstRo ov A), (sl vu 3 rs.length (vtrips (runV lv rs)))]) := by
 intro m
 induction m with
 | zero => intro l next xl vb best w X hl hJ; exact leave_zero bb ba br bs va vu ov lv A rs hlv hAl hAs hrl l next xl vb best w X hl hJ
 | succ m ih => intro l next xl vb best w X hl hJ; exact leave_succ bb ba br bs va vu ov lv A rs hlv hAl hAs hrl m ih l next xl vb best w X hl hJ
end Go.Proofs.Ytkkglkdnnfegkaa

namespace Go.Proofs.Ytkkglkdnnfegkaa
open Go.RowKit Go.Shelf Go.Eng
theorem doubt_bad (R : List (Int × Int)) (rs : List RunD) (lv : List Value) (vr vu : Value) (w : World) (hm : SlAt w vr 2 R.length (pairs R)) (hx : RunsAt w vu lv rs) (hlen : R.length ≤ 1000000) (hrl : rs.length ≤ 1000000) (he : enterF R rs ≠ 0) :
  Calls Try.prog 43 #[(Value.agg #[vr]), vu] w (Ret fun v w' => v = .tuple #[.slice none 0 0, .int .i64 (enterF R rs)] ∧ Ext NoB w w') := by
 refine calls_enterM Try.func43 rfl fun a0 hA0 => ?_
 replace hA0 : Fr 63 (marks []) [(0, (Value.agg #[vr])), (1, vu)] a0 := hA0
 have hS0 : Sep NoB w w [(marksR []), (sl vr 2 R.length (pairs R)), (sl vu 3 rs.length (vtrips (runV lv rs))), (segsR false lv rs)] := sep_marks (sep_ro ⟨rfl, hm, rfl, hx.runs, rfl, ⟨hx.len, hx.segs⟩, trivial⟩)
 refine c_seq ?_
 refine c_region ?_
 refine stw hA0 (op_box hS0 rfl (hA0.ev rfl) (cs := [vr]) rfl) rfl rfl (by decide) ?_
 rintro a1 _ w3 ⟨b4, rfl, hS5⟩ hA2; clear hA0 hS0 a0
 refine stw hA2 (op_box hS5 rfl (hA2.ev rfl) (cs := [vu]) (isSl_cells (SlAt.isSl (hS5.sk 3 rfl)))) rfl rfl (by decide) ?_
 rintro a6 _ w8 ⟨b9, rfl, hS10⟩ hA7; clear hA2 hS5 a1
 refine st hA7 (op_assign rfl (evc _ _)) rfl rfl (by decide) fun a11 hA12 => ?_; clear hA7 a6
 refine st hA12 (op_assign rfl (evc _ _)) rfl rfl (by decide) fun a13 hA14 => ?_; clear hA12 a11
 refine wl_nil ?_
 refine then_n ?_
 refine c_seq ?_
 refine c_region ?_
 refine st hA14 (op_loadA rfl ty_33 (hA14.ev rfl) (hS10.bk 1 rfl) (l := [vr]) rfl rfl) rfl rfl (by decide) fun a15 hA16 => ?_; clear hA14 a13
 refine st hA16 (op_load1 rfl ty_35 (hA16.ev rfl) (hS10.bk 0 rfl) rfl) rfl rfl (by decide) fun a17 hA18 => ?_; clear hA16 a15
 refine stw hA18 (op_call rfl en_66 (ev2 (hA18.ev rfl) (hA18.ev rfl)) (enter_bad R rs lv vr vu _ (hm.step hS10.ext) (hx.step hS10.ext) (by omega) (by omega) he)) rfl rfl (by decide) ?_
 rintro a19 _ w21 ⟨rfl, hE22⟩ hA20; have hS23 := hS10.step hE22; clear hE22 hA18 hS10 a17
 refine st hA20 (op_move rfl (hA20.ev rfl)) rfl rfl (by decide) fun a24 hA25 => ?_; clear hA20 a19
 refine st hA25 (op_extract rfl (hA25.ev rfl) rfl) rfl rfl (by decide) fun a26 hA27 => ?_; clear hA25 a24
 refine st hA27 (op_extract rfl (hA27.ev rfl) rfl) rfl rfl (by decide) fun a28 hA29 => ?_; clear hA27 a26
 refine st hA29 (op_assign rfl (hA29.ev rfl)) rfl rfl (by decide) fun a30 hA31 => ?_; clear hA29 a28
 refine st hA31 (op_assign rfl (hA31.ev rfl)) rfl rfl (by decide) fun a32 hA33 => ?_; clear hA31 a30
 refine wl_nil ?_
 refine then_n ?_
 refine c_seq ?_
 refine c_seq ?_
 have hA34 := hA33.as [(7, (Value.int .i64 (enterF R rs))), (6, (Value.pointer none)), (3, (bptr b9 0))] rfl; clear hA33
 refine c_region ?_
 refine st hA34 (op_move rfl (hA34.ev rfl)) rfl rfl (by decide) fun a35 hA36 => ?_; clear hA34 a32
 refine st hA36 (op_neq rfl (hA36.ev rfl) (evc _ _)) rfl rfl (by decide) fun a37 hA38 => ?_; clear hA36 a35
 have hd39 : ¬ ((enterF R rs) = 0) := he
 rw [decide_eq_false hd39] at hA38
 refine wl_nil ?_
 refine then_n ?_
 refine c_true hA38 rfl ?_
 refine c_seq ?_
 refine c_region ?_
 refine st hA38 (op_move rfl (hA38.ev rfl)) rfl rfl (by decide) fun a40 hA41 => ?_; clear hA38 a37
 refine st hA41 (op_assign rfl (evc _ _)) rfl rfl (by decide) fun a42 hA43 => ?_; clear hA41 a40
 refine st hA43 (op_assign rfl (hA43.ev rfl)) rfl rfl (by decide) fun a44 hA45 => ?_; clear hA43 a42
 refine wl_nil ?_
 refine then_n ?_
 refine c_ret ?_
 refine then_ret ?_
 have hS46 : Sep NoB w w21 [(marksR []), (blk b9 35 [vu]), (blk b4 33 [vr]), (sl vr 2 R.length (pairs R)), (sl vu 3 rs.length (vtrips (runV lv rs))), (segsR false lv rs)] := hS23.keep [2, 0, 1, 3, 4, 5] (by decide) _ rfl rfl; clear hS23
 refine fin_runM hA45 (.inl rfl) hS46 ?_
 intro w47 hS48; clear hS46
 refine ⟨_, (run_results2 hA45 rfl (.tmp rfl) (.tmp rfl)), ?_⟩
 exact ⟨rfl, hS48.ext⟩
theorem doubt_ok (R : List (Int × Int)) (rs : List RunD) (lv : List Value) (vr vu : Value) (w : World) (hm : SlAt w vr 2 R.length (pairs R)) (hx : RunsAt w vu lv rs) (hlen : R.length ≤ 1000000) (hrl : rs.length ≤ 1000000) (he : enterF R rs = 0) :
  Calls Try.prog 43 #[(Value.agg #[vr]), vu] w (Ret fun v w' => ∃ u, v = .tuple #[u, .int .i64 0] ∧ Sep NoB w w' [row u 3 1 (doubtF R rs).length (ints (doubtF R rs))]) := by
 refine calls_enterM Try.func43 rfl fun a0 hA0 => ?_
 replace hA0 : Fr 63 (marks []) [(0, (Value.agg #[vr])), (1, vu)] a0 := hA0
 have hR := (check_mat (enter_mat he)).1
 have hV := enter_runs he
 have hmp := (check_mat (enter_mat he)).2.2
 have hfew := check_few (enter_mat he)
 have hvl := hV.len
 have hags : ∀ i, ((againstF R rs).getD i []).length ≤ 1000000 := against_small (by omega)
 have hS0 : Sep NoB w w [(marksR []), (sl vr 2 R.length (pairs R)), (sl vu 3 rs.length (vtrips (runV lv rs))), (segsR false lv rs)] := sep_marks (sep_ro ⟨rfl, hm, rfl, hx.runs, rfl, ⟨hx.len, hx.segs⟩, trivial⟩)
 refine c_seq ?_
 refine c_region ?_
 refine stw hA0 (op_box hS0 rfl (hA0.ev rfl) (cs := [vr]) rfl) rfl rfl (by decide) ?_
 rintro a1 _ w3 ⟨b4, rfl, hS5⟩ hA2; clear hA0 hS0 a0
 refine stw hA2 (op_box hS5 rfl (hA2.ev rfl) (cs := [vu]) (isSl_cells (SlAt.isSl (hS5.sk 3 rfl)))) rfl rfl (by decide) ?_
 rintro a6 _ w8 ⟨b9, rfl, hS10⟩ hA7; clear hA2 hS5 a1
 refine st hA7 (op_assign rfl (evc _ _)) rfl rfl (by decide) fun a11 hA12 => ?_; clear hA7 a6
 refine st hA12 (op_assign rfl (evc _ _)) rfl rfl (by decide) fun a13 hA14 => ?_; clear hA12 a11
 refine wl_nil ?_
 refine then_n ?_
 refine c_seq ?_
 refine c_region ?_
 refine st hA14 (op_loadA rfl ty_33 (hA14.ev rfl) (hS10.bk 1 rfl) (l := [vr]) rfl rfl) rfl rfl (by decide) fun a15 hA16 => ?_; clear hA14 a13
 refine st hA16 (op_load1 rfl ty_35 (hA16.ev rfl) (hS10.bk 0 rfl) rfl) rfl rfl (by decide) fun a17 hA18 => ?_; clear hA16 a15
 refine stw hA18 (op_call rfl en_66 (ev2 (hA18.ev rfl) (hA18.ev rfl)) (enter_ok R rs lv vr vu _ (hm.step hS10.ext) (hx.step hS10.ext) (by omega) (by omega) he)) rfl rfl (by decide) ?_
 rintro a19 _ w21 ⟨bj24, bm25, rfl, hT22⟩ hA20; have hS23 := hS10.callS hT22 rfl; clear hT22 hA18 hS10 a17
 refine st hA20 (op_move rfl (hA20.ev rfl)) rfl rfl (by decide) fun a26 hA27 => ?_; clear hA20 a19
 refine st hA27 (op_extract rfl (hA27.ev rfl) rfl) rfl rfl (by decide) fun a28 hA29 => ?_; clear hA27 a26
 refine st hA29 (op_extract rfl (hA29.ev rfl) rfl) rfl rfl (by decide) fun a30 hA31 => ?_; clear hA29 a28
 refine st hA31 (op_assign rfl (hA31.ev rfl)) rfl rfl (by decide) fun a32 hA33 => ?_; clear hA31 a30
 refine st hA33 (op_assign rfl (hA33.ev rfl)) rfl rfl (by decide) fun a34 hA35 => ?_; clear hA33 a32
 refine wl_nil ?_
 refine then_n ?_
 refine c_seq ?_
 refine c_seq ?_
 have hA36 := hA35.as [(7, (Value.int .i64 0)), (6, (bptr bj24 0)), (3, (bptr b9 0))] rfl; clear hA35
 refine c_region ?_
 refine st hA36 (op_move rfl (hA36.ev rfl)) rfl rfl (by decide) fun a37 hA38 => ?_; clear hA36 a34
 refine st hA38 (op_neq rfl (hA38.ev rfl) (evc _ _)) rfl rfl (by decide) fun a39 hA40 => ?_; clear hA38 a37
 refine wl_nil ?_
 refine then_n ?_
 refine c_false hA40 rfl ?_
 refine c_skip ?_
 refine then_n ?_
 refine c_seq ?_
 refine c_region ?_
 refine stw hA40 (op_alloc hS23 rfl ze_38 (cs := [(Value.slice none 0 0)]) rfl) rfl rfl (by decide) ?_
 rintro a41 _ w43 ⟨b44, rfl, hS45⟩ hA42; clear hA40 hS23 a39
 refine wl_nil ?_
 refine then_n ?_
 refine c_seq ?_
 refine c_seq ?_
 refine c_region ?_
 refine st hA42 (op_move rfl (hA42.ev rfl)) rfl rfl (by decide) fun a46 hA47 => ?_; clear hA42 a41
 refine st hA47 (op_nilCheck rfl (hA47.ev rfl)) rfl rfl (by decide) fun a48 hA49 => ?_; clear hA47 a46
 refine st hA49 (op_field rfl fd_119_0 (hA49.ev rfl)) rfl rfl (by decide) fun a50 hA51 => ?_; clear hA49 a48
 refine st hA51 (op_loadA rfl ty_33 (hA51.ev rfl) (hS45.bk 1 rfl) (l := [vr]) rfl rfl) rfl rfl (by decide) fun a52 hA53 => ?_; clear hA51 a50
 refine stw hA53 (op_call rfl en_65 (ev1 (hA53.ev rfl)) (lists_ok _ _)) rfl rfl (by decide) ?_
 rintro a54 _ w56 ⟨bl59, rfl, hT57⟩ hA55; have hS58 := hS45.callS hT57 rfl; clear hT57 hA53 hS45 a52
 refine wl_nil ?_
 refine then_n ?_
 refine c_block ?_
 have hA60 := hA55.as [(29, (Value.func (.func 87) #[] #[(bptr bl59 0)])), (8, (bptr b44 0)), (3, (bptr b9 0))] rfl; clear hA55
 have hS61 := (hS58.nil_row 40 1).lst_nil; clear hS58
 have hS62 := hS61.nilR; clear hS61
 have hS63 : Sep NoB w w56 [(marksR []), nilR, (lstR [] []), (row (Value.slice none 0 0) 40 1 0 []), (blk bl59 33 [vr]), (blk b44 38 [(Value.slice none 0 0)]), (blk bj24 119 [vr, vu, (Value.map (some bm25))]), (memo bm25 (KA rs)), (blk b9 35 [vu]), (blk b4 33 [vr]), (sl vr 2 R.length (pairs R)), (sl vu 3 rs.length (vtrips (runV lv rs))), (segsR false lv rs)] := hS62.keep [9, 0, 1, 2, 3, 4, 5, 6, 7, 8, 10, 11, 12] (by decide) _ rfl rfl; clear hS62
 refine c_rangeG hA60 nilR rfl hS63 (hA60.ev rfl) en_87 ((listsF R).length) (fun k => #[.agg (ints ((listsF R).getD k [])).toArray]) (fun _ => rfl) [rob bl59 33 [vr], sl vr 2 R.length (pairs R)] (fun r hr => by simp only [List.mem_cons, List.not_mem_nil, or_false] at hr; rcases hr with rfl | rfl <;> rfl) (lists_it bl59 vr R hR _ rfl) (fun q L_ => ∃ vo_ : Value, ∃ ov_ : List Value, L_ = [(lstR ov_ ((againstF R rs).take q)), (row vo_ 40 1 ov_.length ov_), (blk bl59 33 [vr]), (blk b44 38 [vo_]), (blk bj24 119 [vr, vu, (Value.map (some bm25))]), (memo bm25 (KA rs)), (blk b9 35 [vu]), (blk b4 33 [vr]), (sl vr 2 R.length (pairs R)), (sl vu 3 rs.length (vtrips (runV lv rs))), (segsR false lv rs)]) (fun _ => False) none ⟨(Value.slice none 0 0), [], rfl⟩ (fun q L_ hI_ G_ W_ r1_ r2_ hW_ => by obtain ⟨vo_, ov_, rfl⟩ := hI_; exact (Sep.keep (hW_.to_ro (i := 5) rfl) [2, 5, 11] (by decide) _ rfl rfl)) (fun L_ hI_ => hI_.elim) ?_ ?_ (fun _ hc_ => by cases hc_)
 ·skip
  intro q hq L_ hL_ G72 hG73 l69 D70 rc71 a64 w65 ha68 hS66; obtain ⟨vo_, ov_, rfl⟩ := hL_
  have hA67 : Fr 63 [] [(30, (Value.agg (ints ((listsF R).getD q [])).toArray)), (29, (Value.func (.func 87) #[] #[(bptr bl59 0)])), (8, (bptr b44 0)), (3, (bptr b9 0))] a64 := by rw [ha68]; exact Fr.round1 hA60 (by decide)
  clear ha68 hS63
  have hlr := lists_rates hR hq; have hlr3 := hlr.1; have hol := hS66.lst_len 3 rfl; have hot : ((againstF R rs).take q).length ≤ q := List.length_take_le _ _
  refine c_region ?_
  refine stw hA67 (op_alloc hS66 rfl ze_104 (cs := [(Value.int .i64 0), (Value.int .i64 0), (Value.int .i64 0)]) rfl) rfl rfl (by decide) ?_
  rintro a74 _ w76 ⟨b77, rfl, hS78⟩ hA75; clear hA67 hS66 a64
  refine sts hA75 (op_store hS78 rfl ty_104 (hA75.ev rfl) (hA75.ev rfl) (i := 0) rfl (vs := (ints ((listsF R).getD q []))) rfl (lists_len3 hR hq).symm (ints_one _) (by decide)) rfl rfl ?_
  intro _ w79 hS80 hA82; have hS81 := hS80.blk_say (i := 0) rfl (cs' := (ints ((listsF R).getD q []))) (setFrom_all _ _ (Eq.symm (lists_len3 hR hq).symm)); clear hS80 hA75 hS78
  refine wl_nil ?_
  have hS83 : Sep NoB w w79 [(obR l69 (.loop (rc71 .ready none))), (marksR (D70 :: [])), G72, (blk b77 104 (ints ((listsF R).getD q []))), (lstR ov_ ((againstF R rs).take q)), (row vo_ 40 1 ov_.length ov_), (blk bl59 33 [vr]), (blk b44 38 [vo_]), (blk bj24 119 [vr, vu, (Value.map (some bm25))]), (memo bm25 (KA rs)), (blk b9 35 [vu]), (blk b4 33 [vr]), (sl vr 2 R.length (pairs R)), (sl vu 3 rs.length (vtrips (runV lv rs))), (segsR false lv rs)] := hS81.keep [1, 2, 3, 0, 4, 5, 6, 7, 8, 9, 10, 11, 12, 13, 14] (by decide) _ rfl rfl; clear hS81
  refine ⟨rfl, _, hS83, ?_⟩; intro w84 hS85; clear hS83
  refine c_block ?_
  refine c_seq ?_
  refine c_region ?_
  refine st hA82 (op_assign rfl (evc _ _)) rfl rfl (by decide) fun a86 hA87 => ?_; clear hA82 a74
  have hS88 := hS85.nil_row 3 1; clear hS85
  refine wl_nil ?_
  refine then_n ?_
  refine c_seq ?_
  refine c_seq ?_
  refine c_region ?_
  refine st hA87 (op_load1 rfl ty_35 (hA87.ev rfl) (hS88.bk 11 rfl) rfl) rfl rfl (by decide) fun a89 hA90 => ?_; clear hA87 a86
  refine st hA90 (op_lenS rfl un_35 (hA90.ev rfl) (hS88.sk 14 rfl)) rfl rfl (by decide) fun a91 hA92 => ?_; clear hA90 a89
  refine st hA92 (op_move rfl (evc _ _)) rfl rfl (by decide) fun a93 hA94 => ?_; clear hA92 a91
  refine wl_nil ?_
  refine then_n ?_
  refine c_block ?_
  have hA95 := hA94.as [(33, (Value.int .i64 0)), (32, (Value.int .i64 (rs.length : Int))), (31, vu), (10, (Value.slice none 0 0)), (9, (bptr b77 0)), (8, (bptr b44 0))] rfl; clear hA94
  refine c_loop (G := Nat) (fun (k : Nat) a_ w_ => ∃ v10_ : Value, Fr 63 [] [(33, (Value.int .i64 (k : Int))), (32, (Value.int .i64 (rs.length : Int))), (31, vu), (10, v10_), (9, (bptr b77 0)), (8, (bptr b44 0))] a_ ∧ Sep NoB w w_ [(row v10_ 3 1 ((agU rs ((listsF R).getD q []) k).length) (ints (agU rs ((listsF R).getD q []) k))), (obR l69 (.loop (rc71 .busy none))), (marksR (D70 :: [])), G72, (blk b77 104 (ints ((listsF R).getD q []))), (lstR ov_ ((againstF R rs).take q)), (row vo_ 40 1 ov_.length ov_), (blk bl59 33 [vr]), (blk b44 38 [vo_]), (blk bj24 119 [vr, vu, (Value.map (some bm25))]), (memo bm25 (KA rs)), (blk b9 35 [vu]), (blk b4 33 [vr]), (sl vr 2 R.length (pairs R)), (sl vu 3 rs.length (vtrips (runV lv rs))), (segsR false lv rs)] ∧ (k ≤ rs.length)) (fun k => rs.length - k) 0 ⟨(Value.slice none 0 0), hA95.as _ rfl, hS88, by omega⟩ ?_
  clear hA95 hS88 a93
  rintro k a96 w98 ⟨v10_, hA97, hS99, hk⟩
  have hagu := agU_len rs ((listsF R).getD q []) k
  refine c_seq ?_
  refine c_region ?_
  refine st hA97 (op_lss rfl (hA97.ev rfl) (hA97.ev rfl)) rfl rfl (by decide) fun a100 hA101 => ?_; clear hA97 a96
  refine wl_nil ?_
  refine then_n ?_
  refine c_seq ?_
  by_cases hb102 : (k : Int) < (rs.length : Int)
  ·skip
   rw [decide_eq_true hb102] at hA101
   have hrk := hV.runs k (by omega)
   refine c_true hA101 rfl ?_
   refine c_skip ?_
   refine then_n ?_
   refine c_seq ?_
   refine c_block ?_
   refine c_seq ?_
   refine c_region ?_
   refine st hA101 (op_move rfl (hA101.ev rfl)) rfl rfl (by decide) fun a103 hA104 => ?_; clear hA101 a100
   refine st hA104 (op_indexS rfl un_35 ty_96 (hA104.ev rfl) (i := k) (hA104.ev rfl) (hS99.sk 14 rfl) (by decide) (by omega)) rfl rfl (by decide) fun a105 hA106 => ?_; clear hA104 a103
   refine st hA106 (op_loadAE rfl ty_96 (hA106.ev rfl) (hS99.sk 14 rfl) (runs_all hx.len (by omega)) rfl (by decide)) rfl rfl (by decide) fun a107 hA108 => ?_; clear hA106 a105
   refine stw hA108 (op_alloc hS99 rfl ze_96 (cs := [(Value.slice none 0 0), (Value.int .i64 0), (Value.int .i64 0)]) rfl) rfl rfl (by decide) ?_
   rintro a109 _ w111 ⟨b112, rfl, hS113⟩ hA110; clear hA108 hS99 a107
   refine st hA110 (op_assign rfl (hA110.ev rfl)) rfl rfl (by decide) fun a114 hA115 => ?_; clear hA110 a109
   refine sts hA115 (op_store hS113 rfl ty_96 (hA115.ev rfl) (hA115.ev rfl) (i := 0) rfl (vs := [(lv.getD k nilS), (Value.int .i64 ((rs.getD k run0).lo)), (Value.int .i64 ((rs.getD k run0).hi))]) rfl rfl (all_c (SlAt.one ((hS113.ok 16 _ rfl).2 k (by omega))) (all_c rfl (all_c rfl all_n))) (Nat.le_of_ble_eq_true rfl)) rfl rfl ?_
   intro _ w116 hS117 hA118; clear hA115
   have hS119 : Sep NoB w w116 [(blk b112 96 [(lv.getD k nilS), (Value.int .i64 ((rs.getD k run0).lo)), (Value.int .i64 ((rs.getD k run0).hi))]), (row v10_ 3 1 ((agU rs ((listsF R).getD q []) k).length) (ints (agU rs ((listsF R).getD q []) k))), (obR l69 (.loop (rc71 .busy none))), (marksR (D70 :: [])), G72, (blk b77 104 (ints ((listsF R).getD q []))), (lstR ov_ ((againstF R rs).take q)), (row vo_ 40 1 ov_.length ov_), (blk bl59 33 [vr]), (blk b44 38 [vo_]), (blk bj24 119 [vr, vu, (Value.map (some bm25))]), (memo bm25 (KA rs)), (blk b9 35 [vu]), (blk b4 33 [vr]), (sl vr 2 R.length (pairs R)), (sl vu 3 rs.length (vtrips (runV lv rs))), (segsR false lv rs)] := hS117; clear hS117 hS113
   refine wl_nil ?_
   refine then_n ?_
   refine c_seq ?_
   refine c_region ?_
   refine st hA118 (op_loadA rfl ty_96 (hA118.ev rfl) (hS119.bk 0 rfl) (l := [(lv.getD k nilS), (Value.int .i64 ((rs.getD k run0).lo)), (Value.int .i64 ((rs.getD k run0).hi))]) rfl rfl) rfl rfl (by decide) fun a120 hA121 => ?_; clear hA118 a114
   refine st hA121 (op_loadA rfl ty_104 (hA121.ev rfl) (hS119.bk 5 rfl) (l := (ints ((listsF R).getD q []))) (drop_take_all _ _ (lists_len3 hR hq).symm) (lists_len3 hR hq).symm) rfl rfl (by decide) fun a122 hA123 => ?_; clear hA121 a120
   refine stw hA123 (op_call rfl en_70 (ev2 (hA123.ev rfl) (hA123.ev rfl)) (allows_ok (rs.getD k run0) _ ((listsF R).getD q []) R.length _ hrk.len hR.1 hlr hrk.segs ((hS119.ok 16 _ rfl).2 k (by omega)))) rfl rfl (by decide) ?_
   rintro a124 _ w126 ⟨rfl, hE127⟩ hA125; have hS128 := hS119.step hE127; clear hE127 hA123 hS119 a122
   refine st hA125 (op_not rfl (hA125.ev rfl)) rfl rfl (by decide) fun a129 hA130 => ?_; clear hA125 a124
   refine wl_nil ?_
   refine then_n ?_
   rcases Bool.eq_false_or_eq_true ((allowsB (rs.getD k run0) ((listsF R).getD q []))) with hb131 | hb131
   ·skip
    rw [hb131] at hA130
    refine c_false hA130 rfl ?_
    refine c_skip ?_
    refine blk_n ?_
    refine then_n ?_
    have hA132 := hA130.as [(33, (Value.int .i64 (k : Int))), (32, (Value.int .i64 (rs.length : Int))), (31, vu), (10, v10_), (9, (bptr b77 0)), (8, (bptr b44 0))] rfl; clear hA130
    refine c_region ?_
    refine st hA132 (op_add rfl (hA132.ev rfl) (evc _ _) (by omega) (by omega)) rfl rfl (by decide) fun a133 hA134 => ?_; clear hA132 a129
    refine st hA134 (op_move rfl (hA134.ev rfl)) rfl rfl (by decide) fun a135 hA136 => ?_; clear hA134 a133
    refine wl_nil ?_
    have hS137 : Sep NoB w w126 [(row v10_ 3 1 ((agU rs ((listsF R).getD q []) k).length) (ints (agU rs ((listsF R).getD q []) k))), (obR l69 (.loop (rc71 .busy none))), (marksR (D70 :: [])), G72, (blk b77 104 (ints ((listsF R).getD q []))), (lstR ov_ ((againstF R rs).take q)), (row vo_ 40 1 ov_.length ov_), (blk bl59 33 [vr]), (blk b44 38 [vo_]), (blk bj24 119 [vr, vu, (Value.map (some bm25))]), (memo bm25 (KA rs)), (blk b9 35 [vu]), (blk b4 33 [vr]), (sl vr 2 R.length (pairs R)), (sl vu 3 rs.length (vtrips (runV lv rs))), (segsR false lv rs)] := hS128.keep [1, 2, 3, 4, 5, 6, 7, 8, 9, 10, 11, 12, 13, 14, 15, 16] (by decide) _ rfl rfl; clear hS128
    exact then_n ⟨k + 1, ⟨v10_, hA136.as _ rfl, (hS137.row_say (i := 0) rfl (by rw [agU_n (by assumption)]) (by rw [agU_n (by assumption)])), by omega⟩, by omega⟩
   ·skip
    rw [hb131] at hA130
    refine c_true hA130 rfl ?_
    have hA138 := hA130.as [(11, (Value.int .i64 (k : Int))), (33, (Value.int .i64 (k : Int))), (32, (Value.int .i64 (rs.length : Int))), (31, vu), (10, v10_), (9, (bptr b77 0)), (8, (bptr b44 0))] rfl; clear hA130
    refine c_region ?_
    refine st hA138 (op_move rfl (hA138.ev rfl)) rfl rfl (by decide) fun a139 hA140 => ?_; clear hA138 a129
    refine st hA140 (op_move rfl (hA140.ev rfl)) rfl rfl (by decide) fun a141 hA142 => ?_; clear hA140 a139
    refine stw hA142 (op_buildSlice hS128 rfl (pv1 (hA142.ev rfl)) un_40 ty_3 ze_3 (by decide) (cs := [(Value.int .i64 (k : Int))]) (bs_3_1_0i _)) rfl rfl (by decide) ?_
    rintro a143 _ w145 ⟨b146, rfl, hS147⟩ hA144; clear hA142 hS128 a141
    refine stw hA144 (op_append hS147 rfl un_40 el_3 (hA144.ev rfl) (hA144.ev rfl) (i := 2) rfl (SlAt.of_blk (hS147.bk 0 rfl) rfl (Nat.le_of_ble_eq_true rfl)) rfl (by simp only [maxLen]; omega) (by omega)) rfl rfl (by decide) ?_
    intro a148 v151 w150 hS152 hA149
    have hS153 := hS152.row_say (i := 2) rfl (n' := ((agU rs ((listsF R).getD q []) k) ++ [(k : Int)]).length) (xs' := (ints ((agU rs ((listsF R).getD q []) k) ++ [(k : Int)]))) (by simp) (by simp [ints]); clear hS152 hA144 hS147 a143
    refine st hA149 (op_assign rfl (hA149.ev rfl)) rfl rfl (by decide) fun a154 hA155 => ?_; clear hA149 a148
    refine wl_nil ?_
    refine blk_n ?_
    refine then_n ?_
    refine c_region ?_
    refine st hA155 (op_add rfl (hA155.ev rfl) (evc _ _) (by omega) (by omega)) rfl rfl (by decide) fun a156 hA157 => ?_; clear hA155 a154
    refine st hA157 (op_move rfl (hA157.ev rfl)) rfl rfl (by decide) fun a158 hA159 => ?_; clear hA157 a156
    refine wl_nil ?_
    have hS160 : Sep NoB w w150 [(row v151 3 1 (((agU rs ((listsF R).getD q []) k) ++ [(k : Int)]).length) (ints ((agU rs ((listsF R).getD q []) k) ++ [(k : Int)]))), (obR l69 (.loop (rc71 .busy none))), (marksR (D70 :: [])), G72, (blk b77 104 (ints ((listsF R).getD q []))), (lstR ov_ ((againstF R rs).take q)), (row vo_ 40 1 ov_.length ov_), (blk bl59 33 [vr]), (blk b44 38 [vo_]), (blk bj24 119 [vr, vu, (Value.map (some bm25))]), (memo bm25 (KA rs)), (blk b9 35 [vu]), (blk b4 33 [vr]), (sl vr 2 R.length (pairs R)), (sl vu 3 rs.length (vtrips (runV lv rs))), (segsR false lv rs)] := hS153.keep [2, 3, 4, 5, 6, 7, 8, 9, 10, 11, 12, 13, 14, 15, 16, 17] (by decide) _ rfl rfl; clear hS153
    exact then_n ⟨k + 1, ⟨v151, hA159.as _ rfl, (hS160.row_say (i := 0) rfl (by rw [agU_y (by assumption)]) (by rw [agU_y (by assumption)])), by omega⟩, by omega⟩
  ·skip
   rw [decide_eq_false hb102] at hA101
   refine c_false hA101 rfl ?_
   refine c_exit ?_
   refine then_exit ?_
   refine then_exit ?_
   refine blk_hit ?_
   refine then_n ?_
   refine c_region ?_
   refine st hA101 (op_load1 rfl ty_38 (hA101.ev rfl) (hS99.bk 8 rfl) rfl) rfl rfl (by decide) fun a161 hA162 => ?_; clear hA101 a100
   refine st hA162 (op_move rfl (hA162.ev rfl)) rfl rfl (by decide) fun a163 hA164 => ?_; clear hA162 a161
   refine stw hA164 (op_buildSlice hS99 rfl (pv1 (hA164.ev rfl)) un_38 ty_40 ze_40 (by decide) (cs := [v10_]) (bs_40_1_0s _ (SlAt.isSl (SlAt.of_row (hS99.ok_row 0 rfl))))) rfl rfl (by decide) ?_
   rintro a165 _ w167 ⟨b168, rfl, hS169⟩ hA166; clear hA164 hS99 a163
   refine stw hA166 (op_append hS169 rfl un_38 el_40 (hA166.ev rfl) (hA166.ev rfl) (i := 7) rfl (SlAt.of_blk (hS169.bk 0 rfl) rfl (Nat.le_of_ble_eq_true rfl)) (all_c (SlAt.one (SlAt.of_row (hS169.ok_row 1 rfl))) all_n) (by simp only [maxLen]; omega) (by omega)) rfl rfl (by decide) ?_
   intro a170 v173 w172 hS174 hA171
   have hS175 := hS174.row_say (i := 7) rfl (n' := (ov_ ++ [v10_]).length) (xs' := (ov_ ++ [v10_])) (by simp) rfl; clear hS174 hA166 hS169 a165
   refine sts hA171 (op_store hS175 rfl ty_38 (hA171.ev rfl) (hA171.ev rfl) (i := 9) rfl (vs := [v173]) (isSl_cells (SlAt.isSl (SlAt.of_row (hS175.ok_row 7 rfl)))) rfl (all_c (SlAt.one (SlAt.of_row (hS175.ok_row 7 rfl))) all_n) (Nat.le_of_ble_eq_true rfl)) rfl rfl ?_
   intro _ w176 hS177 hA178; clear hA171
   have hS179 : Sep NoB w w176 [(blk b168 40 [v10_]), (row v10_ 3 1 ((agU rs ((listsF R).getD q []) k).length) (ints (agU rs ((listsF R).getD q []) k))), (obR l69 (.loop (rc71 .busy none))), (marksR (D70 :: [])), G72, (blk b77 104 (ints ((listsF R).getD q []))), (lstR ov_ ((againstF R rs).take q)), (row v173 40 1 ((ov_ ++ [v10_]).length) (ov_ ++ [v10_])), (blk bl59 33 [vr]), (blk b44 38 [v173]), (blk bj24 119 [vr, vu, (Value.map (some bm25))]), (memo bm25 (KA rs)), (blk b9 35 [vu]), (blk b4 33 [vr]), (sl vr 2 R.length (pairs R)), (sl vu 3 rs.length (vtrips (runV lv rs))), (segsR false lv rs)] := hS177; clear hS177 hS175
   refine wl_nil ?_
   refine blk_n ?_
   have hS180 := hS179.row_say (i := 1) rfl (n' := (agU rs ((listsF R).getD q []) rs.length).length) (xs' := ints (agU rs ((listsF R).getD q []) rs.length)) (by rw [show k = rs.length by omega]) (by rw [show k = rs.length by omega]); clear hS179
   have hS181 : Sep NoB w w176 [(row v10_ 3 1 ((agU rs ((listsF R).getD q []) rs.length).length) (ints (agU rs ((listsF R).getD q []) rs.length))), (lstR ov_ ((againstF R rs).take q)), (blk b168 40 [v10_]), (obR l69 (.loop (rc71 .busy none))), (marksR (D70 :: [])), G72, (blk b77 104 (ints ((listsF R).getD q []))), (row v173 40 1 ((ov_ ++ [v10_]).length) (ov_ ++ [v10_])), (blk bl59 33 [vr]), (blk b44 38 [v173]), (blk bj24 119 [vr, vu, (Value.map (some bm25))]), (memo bm25 (KA rs)), (blk b9 35 [vu]), (blk b4 33 [vr]), (sl vr 2 R.length (pairs R)), (sl vu 3 rs.length (vtrips (runV lv rs))), (segsR false lv rs)] := hS180.keep [1, 6, 0, 2, 3, 4, 5, 7, 8, 9, 10, 11, 12, 13, 14, 15, 16] (by decide) _ rfl rfl; clear hS180
   have hS182 := hS181.lst_snoc; clear hS181
   have hS183 : Sep NoB w w176 [(obR l69 (.loop (rc71 .busy none))), (marksR (D70 :: [])), G72, (lstR (ov_ ++ [v10_]) ((againstF R rs).take q ++ [(agU rs ((listsF R).getD q []) rs.length)])), (row v173 40 1 ((ov_ ++ [v10_]).length) (ov_ ++ [v10_])), (blk bl59 33 [vr]), (blk b44 38 [v173]), (blk bj24 119 [vr, vu, (Value.map (some bm25))]), (memo bm25 (KA rs)), (blk b9 35 [vu]), (blk b4 33 [vr]), (sl vr 2 R.length (pairs R)), (sl vu 3 rs.length (vtrips (runV lv rs))), (segsR false lv rs)] := hS182.keep [2, 3, 4, 0, 6, 7, 8, 9, 10, 11, 12, 13, 14, 15] (by decide) _ rfl rfl; clear hS182
   exact re_n ⟨_, rfl, ⟨v173, (ov_ ++ [v10_]), rfl⟩⟩ (hS183.lst_say (i := 3) rfl (against_succ hq))
 intro L_ hL_ D188 a184 w185 hA187 hS186; obtain ⟨vo_, ov_, rfl⟩ := hL_; clear hA60 hS63
 have hS189 := hS186.lst_say (i := 2) (ls' := (againstF R rs)) rfl (List.take_of_length_le (by rw [against_len]; exact Nat.le_refl _)); clear hS186
 have hol := hS189.lst_len 2 rfl; have hagl := against_len R rs
 refine blk_n ?_
 refine then_n ?_
 refine c_seq ?_
 refine c_region ?_
 refine stw hA187 (op_alloc hS189 rfl ze_40 (cs := [(Value.slice none 0 0)]) rfl) rfl rfl (by decide) ?_
 rintro a190 _ w192 ⟨b193, rfl, hS194⟩ hA191; clear hA187 hS189 a184
 refine wl_nil ?_
 refine then_n ?_
 refine c_seq ?_
 refine c_region ?_
 refine stw hA191 (op_alloc hS194 rfl ze_120 (cs := [Value.nilFunc]) rfl) rfl rfl (by decide) ?_
 rintro a195 _ w197 ⟨b198, rfl, hS199⟩ hA196; clear hA191 hS194 a190
 refine wl_nil ?_
 refine then_n ?_
 refine c_seq ?_
 refine c_region ?_
 refine st hA196 (op_makeFunc rfl ev0 (ev4 (hA196.ev rfl) (hA196.ev rfl) (hA196.ev rfl) (hA196.ev rfl))) rfl rfl (by decide) fun a200 hA201 => ?_; clear hA196 a195
 refine sts hA201 (op_store hS199 rfl ty_120 (hA201.ev rfl) (hA201.ev rfl) (i := 0) rfl (vs := [(Value.func (.func 71) #[] #[(bptr b193 0), (bptr b44 0), (bptr b9 0), (bptr b198 0)])]) rfl rfl rfl (Nat.le_of_ble_eq_true rfl)) rfl rfl ?_
 intro _ w202 hS203 hA204; clear hA201
 have hS205 : Sep NoB w w202 [(blk b198 120 [(Value.func (.func 71) #[] #[(bptr b193 0), (bptr b44 0), (bptr b9 0), (bptr b198 0)])]), (blk b193 40 [(Value.slice none 0 0)]), (marksR (D188 :: [])), nilR, (lstR ov_ (againstF R rs)), (row vo_ 40 1 ov_.length ov_), (blk bl59 33 [vr]), (blk b44 38 [vo_]), (blk bj24 119 [vr, vu, (Value.map (some bm25))]), (memo bm25 (KA rs)), (blk b9 35 [vu]), (blk b4 33 [vr]), (sl vr 2 R.length (pairs R)), (sl vu 3 rs.length (vtrips (runV lv rs))), (segsR false lv rs)] := hS203; clear hS203 hS199
 refine wl_nil ?_
 refine then_n ?_
 refine c_seq ?_
 refine c_seq ?_
 refine c_region ?_
 refine st hA204 (op_load1 rfl ty_35 (hA204.ev rfl) (hS205.bk 10 rfl) rfl) rfl rfl (by decide) fun a206 hA207 => ?_; clear hA204 a200
 refine st hA207 (op_lenS rfl un_35 (hA207.ev rfl) (hS205.sk 13 rfl)) rfl rfl (by decide) fun a208 hA209 => ?_; clear hA207 a206
 refine st hA209 (op_add rfl (hA209.ev rfl) (evc _ _) (by omega) (by omega)) rfl rfl (by decide) fun a210 hA211 => ?_; clear hA209 a208
 refine st hA211 (op_move rfl (evc _ _)) rfl rfl (by decide) fun a212 hA213 => ?_; clear hA211 a210
 refine wl_nil ?_
 refine then_n ?_
 refine c_block ?_
 have hS214 := hS205.to_ro (i := 0) rfl; clear hS205
 have hS215 := hS214.to_ro (i := 7) rfl; clear hS214
 have hS216 := hS215.to_ro (i := 10) rfl; clear hS215
 have hS217 := (hS216.row_sl (i := 5) rfl).lst_ro (i := 4) rfl; clear hS216
 have hS218 := hS217.nil_row 3 1; clear hS217
 have hA219 := hA213.as [(55, (Value.int .i64 0)), (54, (Value.int .i64 ((rs.length : Int) + 1))), (14, (bptr b198 0)), (13, (bptr b193 0))] rfl; clear hA213
 refine c_loop (G := Nat) (fun (k : Nat) a_ w_ => ∃ vb_ : Value, ∃ best_ : List Int, Fr 63 (marks (D188 :: [])) [(55, (Value.int .i64 (k : Int))), (54, (Value.int .i64 ((rs.length : Int) + 1))), (14, (bptr b198 0)), (13, (bptr b193 0))] a_ ∧ Sep NoB w w_ [(row vb_ 3 1 best_.length (ints best_)), (rob b198 120 [(Value.func (.func 71) #[] #[(bptr b193 0), (bptr b44 0), (bptr b9 0), (bptr b198 0)])]), (blk b193 40 [vb_]), (marksR (D188 :: [])), nilR, (lstRo ov_ (againstF R rs)), (sl vo_ 1 ov_.length ov_), (blk bl59 33 [vr]), (rob b44 38 [vo_]), (blk bj24 119 [vr, vu, (Value.map (some bm25))]), (memo bm25 (KA rs)), (rob b9 35 [vu]), (blk b4 33 [vr]), (sl vr 2 R.length (pairs R)), (sl vu 3 rs.length (vtrips (runV lv rs))), (segsR false lv rs)] ∧ (k ≤ rs.length + 1) ∧ ((allUpto rs.length k).any (okB (againstF R rs)) = false)) (fun k => rs.length + 1 - k) 0 ⟨(Value.slice none 0 0), [], hA219.as _ rfl, hS218, by omega, rfl⟩ ?_
 clear hA219 hS218 a212
 rintro k a220 w222 ⟨vb_, best_, hA221, hS223, hk1, hno⟩
 refine c_seq ?_
 refine c_region ?_
 refine st hA221 (op_lss rfl (hA221.ev rfl) (hA221.ev rfl)) rfl rfl (by decide) fun a224 hA225 => ?_; clear hA221 a220
 refine wl_nil ?_
 refine then_n ?_
 refine c_seq ?_
 by_cases hb226 : (k : Int) < ((rs.length : Int) + 1)
 ·skip
  rw [decide_eq_true hb226] at hA225
  refine c_true hA225 rfl ?_
  refine c_skip ?_
  refine then_n ?_
  refine c_seq ?_
  refine c_block ?_
  refine c_seq ?_
  refine c_region ?_
  refine st hA225 (op_move rfl (hA225.ev rfl)) rfl rfl (by decide) fun a227 hA228 => ?_; clear hA225 a224
  refine st hA228 (op_assign rfl (hA228.ev rfl)) rfl rfl (by decide) fun a229 hA230 => ?_; clear hA228 a227
  refine wl_nil ?_
  refine then_n ?_
  refine c_seq ?_
  refine c_region ?_
  refine st hA230 (op_load1 rfl ty_120 (hA230.ev rfl) (hS223.rk 1 rfl) rfl) rfl rfl (by decide) fun a231 hA232 => ?_; clear hA230 a229
  refine st hA232 (op_move rfl (hA232.ev rfl)) rfl rfl (by decide) fun a233 hA234 => ?_; clear hA232 a231
  have hS238 := hS223.nil_row 3 1; clear hS223
  have hS239 : Sep NoB w w222 [(row (Value.slice none 0 0) 3 1 0 []), (blk b193 40 [vb_]), (row vb_ 3 1 best_.length (ints best_)), (rob b198 120 [(Value.func (.func 71) #[] #[(bptr b193 0), (bptr b44 0), (bptr b9 0), (bptr b198 0)])]), (rob b44 38 [vo_]), (rob b9 35 [vu]), (sl vo_ 1 ov_.length ov_), (lstRo ov_ (againstF R rs)), (sl vu 3 rs.length (vtrips (runV lv rs))), (marksR (D188 :: [])), nilR, (blk bl59 33 [vr]), (blk bj24 119 [vr, vu, (Value.map (some bm25))]), (memo bm25 (KA rs)), (blk b4 33 [vr]), (sl vr 2 R.length (pairs R)), (segsR false lv rs)] := hS238.keep [0, 3, 1, 2, 9, 12, 7, 6, 15, 4, 5, 8, 10, 11, 13, 14, 16] (by decide) _ rfl rfl; clear hS238
  refine stw hA234 (op_callv rfl (hA234.ev rfl) en_71 (ev3 (evc _ _) (evc _ _) (hA234.ev rfl)) (leave_ok b193 b44 b9 b198 vo_ vu ov_ lv (againstF R rs) rs hx.len (by rw [hagl]; omega) hags (by omega) k [] 0 _ _ _ _ (ownX [(row (Value.slice none 0 0) 3 1 0 []), (blk b193 40 [vb_]), (row vb_ 3 1 best_.length (ints best_)), (rob b198 120 [(Value.func (.func 71) #[] #[(bptr b193 0), (bptr b44 0), (bptr b9 0), (bptr b198 0)])]), (rob b44 38 [vo_]), (rob b9 35 [vu]), (sl vo_ 1 ov_.length ov_), (lstRo ov_ (againstF R rs)), (sl vu 3 rs.length (vtrips (runV lv rs)))]) (by simp only [List.length_nil]; omega) (Sep.enterG (A := [(row (Value.slice none 0 0) 3 1 0 []), (blk b193 40 [vb_]), (row vb_ 3 1 best_.length (ints best_)), (rob b198 120 [(Value.func (.func 71) #[] #[(bptr b193 0), (bptr b44 0), (bptr b9 0), (bptr b198 0)])]), (rob b44 38 [vo_]), (rob b9 35 [vu]), (sl vo_ 1 ov_.length ov_), (lstRo ov_ (againstF R rs)), (sl vu 3 rs.length (vtrips (runV lv rs)))]) (B := [(marksR (D188 :: [])), nilR, (blk bl59 33 [vr]), (blk bj24 119 [vr, vu, (Value.map (some bm25))]), (memo bm25 (KA rs)), (blk b4 33 [vr]), (sl vr 2 R.length (pairs R)), (segsR false lv rs)]) hS239))) rfl rfl (by decide) ?_
  rintro a235 _ w237 ⟨rfl, vb241, best242, hf243, hT240⟩ hA236; clear hA234 a233
  have hS244 : Sep NoB w w237 [(row (Value.slice none 0 0) 3 1 0 []), (blk b193 40 [vb241]), (row vb241 3 1 best242.length (ints best242)), (rob b198 120 [(Value.func (.func 71) #[] #[(bptr b193 0), (bptr b44 0), (bptr b9 0), (bptr b198 0)])]), (rob b44 38 [vo_]), (rob b9 35 [vu]), (sl vo_ 1 ov_.length ov_), (lstRo ov_ (againstF R rs)), (sl vu 3 rs.length (vtrips (runV lv rs))), (marksR (D188 :: [])), nilR, (blk bl59 33 [vr]), (blk bj24 119 [vr, vu, (Value.map (some bm25))]), (memo bm25 (KA rs)), (blk b4 33 [vr]), (sl vr 2 R.length (pairs R)), (segsR false lv rs)] := Sep.callG (A := [(row (Value.slice none 0 0) 3 1 0 []), (blk b193 40 [vb_]), (row vb_ 3 1 best_.length (ints best_)), (rob b198 120 [(Value.func (.func 71) #[] #[(bptr b193 0), (bptr b44 0), (bptr b9 0), (bptr b198 0)])]), (rob b44 38 [vo_]), (rob b9 35 [vu]), (sl vo_ 1 ov_.length ov_), (lstRo ov_ (againstF R rs)), (sl vu 3 rs.length (vtrips (runV lv rs)))]) (B := [(marksR (D188 :: [])), nilR, (blk bl59 33 [vr]), (blk bj24 119 [vr, vu, (Value.map (some bm25))]), (memo bm25 (KA rs)), (blk b4 33 [vr]), (sl vr 2 R.length (pairs R)), (segsR false lv rs)]) hS239 hT240 (lentOk_at ⟨.inl rfl, .inl rfl, .inl rfl, .inr ⟨3, rfl⟩, .inr ⟨4, rfl⟩, .inr ⟨5, rfl⟩, .inr ⟨6, rfl⟩, .inr ⟨7, rfl⟩, .inr ⟨8, rfl⟩, trivial⟩); clear hT240 hS239
  refine wl_nil ?_
  refine then_n ?_
  rcases Bool.eq_false_or_eq_true ((leaveB rs.length (againstF R rs) k [] 0)) with hb245 | hb245
  ·skip
   rw [hb245] at hA236
   refine c_true hA236 rfl ?_
   refine c_exit ?_
   refine blk_miss (by decide) ?_
   refine then_exit ?_
   refine then_exit ?_
   refine blk_hit ?_
   refine then_n ?_
   refine c_seq ?_
   have hA246 := hA236.as [(13, (bptr b193 0))] rfl; clear hA236
   refine c_region ?_
   refine st hA246 (op_load1 rfl ty_40 (hA246.ev rfl) (hS244.bk 1 rfl) rfl) rfl rfl (by decide) fun a247 hA248 => ?_; clear hA246 a235
   refine st hA248 (op_assign rfl (hA248.ev rfl)) rfl rfl (by decide) fun a249 hA250 => ?_; clear hA248 a247
   refine st hA250 (op_assign rfl (evc _ _)) rfl rfl (by decide) fun a251 hA252 => ?_; clear hA250 a249
   refine wl_nil ?_
   refine then_n ?_
   refine c_ret ?_
   have hS253 : Sep NoB w w237 [(marksR (D188 :: [])), (row (Value.slice none 0 0) 3 1 0 []), (blk b193 40 [vb241]), (row vb241 3 1 best242.length (ints best242)), (rob b198 120 [(Value.func (.func 71) #[] #[(bptr b193 0), (bptr b44 0), (bptr b9 0), (bptr b198 0)])]), (rob b44 38 [vo_]), (rob b9 35 [vu]), (sl vo_ 1 ov_.length ov_), (lstRo ov_ (againstF R rs)), (sl vu 3 rs.length (vtrips (runV lv rs))), nilR, (blk bl59 33 [vr]), (blk bj24 119 [vr, vu, (Value.map (some bm25))]), (memo bm25 (KA rs)), (blk b4 33 [vr]), (sl vr 2 R.length (pairs R)), (segsR false lv rs)] := hS244.keep [9, 0, 1, 2, 3, 4, 5, 6, 7, 8, 10, 11, 12, 13, 14, 15, 16] (by decide) _ rfl rfl; clear hS244
   refine fin_runM hA252 (.inl rfl) hS253 ?_
   intro w254 hS255; clear hS253
   refine ⟨_, (run_results2 hA252 rfl (.tmp rfl) (.tmp rfl)), ?_⟩
   rw [doubt_found (by omega) hno (hf243 (by assumption))]
   exact ⟨_, rfl, hS255.keep [2] (by decide) _ rfl rfl⟩
  ·skip
   rw [hb245] at hA236
   refine c_false hA236 rfl ?_
   refine c_skip ?_
   refine blk_n ?_
   refine then_n ?_
   have hA256 := hA236.as [(55, (Value.int .i64 (k : Int))), (54, (Value.int .i64 ((rs.length : Int) + 1))), (14, (bptr b198 0)), (13, (bptr b193 0))] rfl; clear hA236
   refine c_region ?_
   refine st hA256 (op_add rfl (hA256.ev rfl) (evc _ _) (by omega) (by omega)) rfl rfl (by decide) fun a257 hA258 => ?_; clear hA256 a235
   refine st hA258 (op_move rfl (hA258.ev rfl)) rfl rfl (by decide) fun a259 hA260 => ?_; clear hA258 a257
   refine wl_nil ?_
   have hS261 : Sep NoB w w237 [(row vb241 3 1 best242.length (ints best242)), (rob b198 120 [(Value.func (.func 71) #[] #[(bptr b193 0), (bptr b44 0), (bptr b9 0), (bptr b198 0)])]), (blk b193 40 [vb241]), (marksR (D188 :: [])), nilR, (lstRo ov_ (againstF R rs)), (sl vo_ 1 ov_.length ov_), (blk bl59 33 [vr]), (rob b44 38 [vo_]), (blk bj24 119 [vr, vu, (Value.map (some bm25))]), (memo bm25 (KA rs)), (rob b9 35 [vu]), (blk b4 33 [vr]), (sl vr 2 R.length (pairs R)), (sl vu 3 rs.length (vtrips (runV lv rs))), (segsR false lv rs)] := hS244.keep [2, 3, 1, 9, 10, 7, 6, 11, 4, 12, 13, 5, 14, 15, 8, 16] (by decide) _ rfl rfl; clear hS244
   exact then_n ⟨k + 1, ⟨vb241, best242, hA260.as _ rfl, hS261, by omega, all_go hno (by assumption)⟩, by omega⟩
 ·skip
  rw [decide_eq_false hb226] at hA225
  refine c_false hA225 rfl ?_
  refine c_exit ?_
  refine then_exit ?_
  refine then_exit ?_
  refine blk_hit ?_
  refine then_n ?_
  refine c_seq ?_
  refine c_region ?_
  refine st hA225 (op_load1 rfl ty_40 (hA225.ev rfl) (hS223.bk 2 rfl) rfl) rfl rfl (by decide) fun a262 hA263 => ?_; clear hA225 a224
  refine st hA263 (op_assign rfl (hA263.ev rfl)) rfl rfl (by decide) fun a264 hA265 => ?_; clear hA263 a262
  refine st hA265 (op_assign rfl (evc _ _)) rfl rfl (by decide) fun a266 hA267 => ?_; clear hA265 a264
  refine wl_nil ?_
  refine then_n ?_
  refine c_ret ?_
  have hS268 : Sep NoB w w222 [(marksR (D188 :: [])), (row vb_ 3 1 best_.length (ints best_)), (rob b198 120 [(Value.func (.func 71) #[] #[(bptr b193 0), (bptr b44 0), (bptr b9 0), (bptr b198 0)])]), (blk b193 40 [vb_]), nilR, (lstRo ov_ (againstF R rs)), (sl vo_ 1 ov_.length ov_), (blk bl59 33 [vr]), (rob b44 38 [vo_]), (blk bj24 119 [vr, vu, (Value.map (some bm25))]), (memo bm25 (KA rs)), (rob b9 35 [vu]), (blk b4 33 [vr]), (sl vr 2 R.length (pairs R)), (sl vu 3 rs.length (vtrips (runV lv rs))), (segsR false lv rs)] := hS223.keep [3, 0, 1, 2, 4, 5, 6, 7, 8, 9, 10, 11, 12, 13, 14, 15] (by decide) _ rfl rfl; clear hS223
  refine fin_runM hA267 (.inl rfl) hS268 ?_
  intro w269 hS270; clear hS268
  refine ⟨_, (run_results2 hA267 rfl (.tmp rfl) (.tmp rfl)), ?_⟩
  exact (all_not hmp (by omega) hno).elim
end Go.Proofs.Ytkkglkdnnfegkaa

namespace Go.Proofs.Ytkkglkdnnfegkaa
open Go.RowKit Go.Eng
end Go.Proofs.Ytkkglkdnnfegkaa

namespace Go.Proofs.Ytkkglkdnnfegkaa
open Go.RowKit Go.Eng
def otherR : List RunD := [⟨[(0, 100, 100), (1, 10, 10)], 220, 250⟩, ⟨[(1, 20, 30)], 90, 100⟩, ⟨[(0, 10, 10)], 30, 40⟩]
def oddR : List RunD := [⟨[(0, 100, 100), (2, 10, 10)], 220, 250⟩, ⟨[(1, 20, 30)], 90, 100⟩]
def zeroS : List Seg := List.replicate 9 (0, 0, 0)
def zeroR : List RunD := List.replicate 7 run0
def zeroV : List Value := List.replicate 7 (.slice none 0 0)
theorem ex_enter : enterF hotR madeR = 0 := by decide +kernel
theorem ex_are1 : areB hotR [1, 5] = true := by decide +kernel
theorem ex_are2 : areB hotR [2, 3] = true := by decide +kernel
theorem ex_are3 : areB hotR [3, 2] = false := by decide +kernel
theorem ex_al1 : allowB madeR (padF [1, 5]) = false := by decide +kernel
theorem ex_al2 : allowB madeR (padF [2, 3]) = true := by decide +kernel
theorem ex_other : enterF hotR otherR = 0 := by decide +kernel
theorem ex_poss : possF hotR otherR = 9 := by decide +kernel
theorem ex_doubt : doubtF hotR otherR = [0] := by decide +kernel
theorem ex_l1 : lifeE [(0, 2)] [] 0 5 = 0 := by decide +kernel
theorem ex_l2 : lifeE [(0, 0)] [] 0 5 = 0 := by decide +kernel
theorem ex_l3 : lifeE [(0, 2)] [] 0 0 = 0 := by decide +kernel
theorem ex_r1 : lifeR (allowedF [(0, 2)] []) (0 : Int).toNat 5 = (3, -1) := by decide +kernel
theorem ex_r2 : lifeR (allowedF [(0, 0)] []) (0 : Int).toNat 5 = (-1, -1) := by decide +kernel
theorem ex_r3 : lifeR (allowedF [(0, 2)] []) (0 : Int).toNat 0 = (0, 0) := by decide +kernel
theorem ex_plan : planF hotR madeR zeroS = 2 := by decide +kernel
theorem ex_plan2 : planF hotR otherR zeroS = 9 := by decide +kernel
theorem ex_l4 : lifeE hotR madeR 2 5 = 2 := by decide +kernel
theorem ex_l5 : lifeE hotR madeR 1 (-1) = 2 := by decide +kernel
theorem ex_seven : enterF hotR zeroR = 3 := by decide +kernel
theorem ex_odd : enterF hotR oddR = 1 := by decide +kernel
theorem ex_c0 : checkF [] = 1 := by decide +kernel
theorem ex_c1 : checkF [(0, 21)] = 1 := by decide +kernel
theorem ex_c2 : checkF [(5, 9), (1, 4)] = 1 := by decide +kernel
theorem ratesV_pad {a b : Int} (h : 0 ≤ a ∧ a ≤ 1000) (h2 : 0 ≤ b ∧ b ≤ 1000) : RatesV (padF [a, b]) := by
  refine ⟨padU_len _ _, fun i => ?_⟩
  rw [padF_at (by simp)]
  match i with
  | 0 => exact h
  | 1 => exact h2
  | i + 2 => simp
end Go.Proofs.Ytkkglkdnnfegkaa
namespace Go.Eng
open Go.RowKit Go.Eng
open Go.Proofs.Ytkkglkdnnfegkaa
section
variable {X : Nat → Prop} {w0 w : World} {L : List Res}
theorem Sep.runs_zero {v : Value} {e n : Nat} (h : Eng.Sep X w0 w (row v e 3 n (vtrips (runV (List.replicate n (.slice none 0 0)) (List.replicate n run0))) :: L)) : Eng.Sep X w0 w (runsR true v (List.replicate n (.slice none 0 0)) (List.replicate n run0) :: L) := by
  have h1 := h.push (r := segsR true (List.replicate n (.slice none 0 0)) (List.replicate n run0)) (Ext.refl _ _) ⟨by simp, fun i hi => by
    have hi' : i < n := by simpa using hi
    simp only [List.getD, List.getElem?_replicate, hi', if_true, Option.getD_some]
    exact slAt_nil _ 3⟩ (fun b ⟨i, hi, hb⟩ => by
    have hi' : i < n := by simpa using hi
    obtain ⟨hne, _⟩ := hb
    exfalso; apply hne
    simp only [List.getD, List.getElem?_replicate, hi', if_true, Option.getD_some]; rfl)
  exact (h1.perm (by exact List.Perm.swap _ _ _)).runs_join (by simp)
end
end Go.Eng
namespace Go.Proofs.Ytkkglkdnnfegkaa
open Go.RowKit Go.Eng
end Go.Proofs.Ytkkglkdnnfegkaa
