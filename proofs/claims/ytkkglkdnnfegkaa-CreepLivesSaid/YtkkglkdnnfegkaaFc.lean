/-
  Walks through the functions of the seat, printed by a program of ours (gowalk), a theorem a function: what the call returns and what it leaves in memory.
-/
import Derived.Test.YtkkglkdnnfegkaaFb
import Derived.Test.YtkkglkdnnfegkaaPlain
import Derived.Test.YtkkglkdnnfegkaaEng2
set_option linter.unusedSimpArgs false
set_option linter.unusedVariables false
namespace Go.Proofs.Ytkkglkdnnfegkaa
open Go.RowKit Go.Shelf Go.Eng
theorem plan_p_ok (R : List (Int × Int)) (rs : List RunD) (lv : List Value) (vr vu : Value) (w : World) (hm : SlAt w vr 2 R.length (pairs R)) (hx : RunsAt w vu lv rs) (hlen : R.length ≤ 1000000) (hrl : rs.length ≤ 1000000) (plan : List Seg) (vp : Value) (hp : SlAt w vp 3 plan.length (trips plan)) (hpl : plan.length ≤ 1000000) (he : possF R rs ≠ 0) :
  Calls Try.prog 58 #[(Value.agg #[vr]), vu, vp] w (Ret fun v w' => v = .tuple #[.pointer none, .int .i64 (possF R rs)] ∧ Ext NoB w w') := by
 refine calls_enter Try.func58 rfl fun a0 hA0 => ?_
 replace hA0 : Fr 32 [] [(0, (Value.agg #[vr])), (1, vu), (2, vp)] a0 := hA0
 have hS0 : Sep NoB w w [(sl vr 2 R.length (pairs R)), (sl vu 3 rs.length (vtrips (runV lv rs))), (segsR false lv rs), (sl vp 3 plan.length (trips plan))] := sep_ro ⟨rfl, hm, rfl, hx.runs, rfl, ⟨hx.len, hx.segs⟩, rfl, hp, trivial⟩
 refine c_seq ?_
 refine c_region ?_
 refine stw hA0 (op_box hS0 rfl (hA0.ev rfl) (cs := [vr]) rfl) rfl rfl (by decide) ?_
 rintro a1 _ w3 ⟨b4, rfl, hS5⟩ hA2; clear hA0 hS0 a0
 refine st hA2 (op_assign rfl (evc _ _)) rfl rfl (by decide) fun a6 hA7 => ?_; clear hA2 a1
 refine st hA7 (op_assign rfl (evc _ _)) rfl rfl (by decide) fun a8 hA9 => ?_; clear hA7 a6
 refine wl_nil ?_
 refine then_n ?_
 refine c_seq ?_
 refine c_region ?_
 refine st hA9 (op_loadA rfl ty_33 (hA9.ev rfl) (hS5.bk 0 rfl) (l := [vr]) rfl rfl) rfl rfl (by decide) fun a10 hA11 => ?_; clear hA9 a8
 refine st hA11 (op_move rfl (hA11.ev rfl)) rfl rfl (by decide) fun a12 hA13 => ?_; clear hA11 a10
 refine stw hA13 (op_call rfl en_53 (ev2 (hA13.ev rfl) (hA13.ev rfl)) (poss_bad R rs lv vr vu _ (hm.step hS5.ext) (hx.step hS5.ext) (by omega) (by omega) he)) rfl rfl (by decide) ?_
 rintro a14 _ w16 ⟨rfl, hE17⟩ hA15; have hS18 := hS5.step hE17; clear hE17 hA13 hS5 a12
 refine st hA15 (op_move rfl (hA15.ev rfl)) rfl rfl (by decide) fun a19 hA20 => ?_; clear hA15 a14
 refine st hA20 (op_extract rfl (hA20.ev rfl) rfl) rfl rfl (by decide) fun a21 hA22 => ?_; clear hA20 a19
 refine st hA22 (op_extract rfl (hA22.ev rfl) rfl) rfl rfl (by decide) fun a23 hA24 => ?_; clear hA22 a21
 refine st hA24 (op_assign rfl (hA24.ev rfl)) rfl rfl (by decide) fun a25 hA26 => ?_; clear hA24 a23
 refine st hA26 (op_assign rfl (hA26.ev rfl)) rfl rfl (by decide) fun a27 hA28 => ?_; clear hA26 a25
 refine wl_nil ?_
 refine then_n ?_
 refine c_seq ?_
 refine c_block ?_
 refine c_seq ?_
 have hA29 := hA28.as [(9, (Value.int .i64 (possF R rs))), (8, (Value.pointer none)), (3, (bptr b4 0)), (2, vp)] rfl; clear hA28
 refine c_region ?_
 refine st hA29 (op_move rfl (hA29.ev rfl)) rfl rfl (by decide) fun a30 hA31 => ?_; clear hA29 a27
 refine st hA31 (op_neq rfl (hA31.ev rfl) (evc _ _)) rfl rfl (by decide) fun a32 hA33 => ?_; clear hA31 a30
 have hd34 : ¬ ((possF R rs) = 0) := he
 rw [decide_eq_false hd34] at hA33
 refine st hA33 (op_assign rfl (hA33.ev rfl)) rfl rfl (by decide) fun a35 hA36 => ?_; clear hA33 a32
 refine wl_nil ?_
 refine then_n ?_
 refine c_true hA36 rfl ?_
 refine c_seq ?_
 have hA37 := hA36.as [(9, (Value.int .i64 (possF R rs)))] rfl; clear hA36
 refine c_region ?_
 refine st hA37 (op_move rfl (hA37.ev rfl)) rfl rfl (by decide) fun a38 hA39 => ?_; clear hA37 a35
 refine st hA39 (op_assign rfl (evc _ _)) rfl rfl (by decide) fun a40 hA41 => ?_; clear hA39 a38
 refine st hA41 (op_assign rfl (hA41.ev rfl)) rfl rfl (by decide) fun a42 hA43 => ?_; clear hA41 a40
 refine wl_nil ?_
 refine then_n ?_
 refine c_ret ?_
 refine blk_ret ?_
 refine then_ret ?_
 refine fin_run hA43 (.inl rfl) (run_results2 hA43 rfl (.tmp rfl) (.tmp rfl)) ?_
 exact ⟨rfl, hS18.ext⟩

theorem plan_any (R : List (Int × Int)) (rs : List RunD) (lv : List Value) (vr vu : Value) (w : World) (hm : SlAt w vr 2 R.length (pairs R)) (hx : RunsAt w vu lv rs) (hlen : R.length ≤ 1000000) (hrl : rs.length ≤ 1000000) (plan : List Seg) (vp : Value) (hp : SlAt w vp 3 plan.length (trips plan)) (hpl : plan.length ≤ 1000000) (he : possF R rs = 0) :
  Calls Try.prog 58 #[(Value.agg #[vr]), vu, vp] w (Ret fun v w' => (planF R rs plan = 2 ∧ v = .tuple #[.pointer none, .int .i64 2] ∧ Ext NoB w w') ∨ (planF R rs plan = 0 ∧ ∃ bj bm, v = .tuple #[bptr bj 0, .int .i64 0] ∧ Sep NoB w w' [blk bj 119 [vr, vu, .map (some bm)], memo bm (KA rs)])) := by
 refine calls_enter Try.func58 rfl fun a0 hA0 => ?_
 replace hA0 : Fr 32 [] [(0, (Value.agg #[vr])), (1, vu), (2, vp)] a0 := hA0
 have hS0 : Sep NoB w w [(sl vr 2 R.length (pairs R)), (sl vu 3 rs.length (vtrips (runV lv rs))), (segsR false lv rs), (sl vp 3 plan.length (trips plan))] := sep_ro ⟨rfl, hm, rfl, hx.runs, rfl, ⟨hx.len, hx.segs⟩, rfl, hp, trivial⟩
 refine c_seq ?_
 refine c_region ?_
 refine stw hA0 (op_box hS0 rfl (hA0.ev rfl) (cs := [vr]) rfl) rfl rfl (by decide) ?_
 rintro a1 _ w3 ⟨b4, rfl, hS5⟩ hA2; clear hA0 hS0 a0
 refine st hA2 (op_assign rfl (evc _ _)) rfl rfl (by decide) fun a6 hA7 => ?_; clear hA2 a1
 refine st hA7 (op_assign rfl (evc _ _)) rfl rfl (by decide) fun a8 hA9 => ?_; clear hA7 a6
 refine wl_nil ?_
 refine then_n ?_
 refine c_seq ?_
 refine c_region ?_
 refine st hA9 (op_loadA rfl ty_33 (hA9.ev rfl) (hS5.bk 0 rfl) (l := [vr]) rfl rfl) rfl rfl (by decide) fun a10 hA11 => ?_; clear hA9 a8
 refine st hA11 (op_move rfl (hA11.ev rfl)) rfl rfl (by decide) fun a12 hA13 => ?_; clear hA11 a10
 refine stw hA13 (op_call rfl en_53 (ev2 (hA13.ev rfl) (hA13.ev rfl)) (poss_ok R rs lv vr vu _ (hm.step hS5.ext) (hx.step hS5.ext) (by omega) (by omega) he)) rfl rfl (by decide) ?_
 rintro a14 _ w16 ⟨bj19, bm20, rfl, hT17⟩ hA15; have hS18 := hS5.callS hT17 rfl; clear hT17 hA13 hS5 a12
 refine st hA15 (op_move rfl (hA15.ev rfl)) rfl rfl (by decide) fun a21 hA22 => ?_; clear hA15 a14
 refine st hA22 (op_extract rfl (hA22.ev rfl) rfl) rfl rfl (by decide) fun a23 hA24 => ?_; clear hA22 a21
 refine st hA24 (op_extract rfl (hA24.ev rfl) rfl) rfl rfl (by decide) fun a25 hA26 => ?_; clear hA24 a23
 refine st hA26 (op_assign rfl (hA26.ev rfl)) rfl rfl (by decide) fun a27 hA28 => ?_; clear hA26 a25
 refine st hA28 (op_assign rfl (hA28.ev rfl)) rfl rfl (by decide) fun a29 hA30 => ?_; clear hA28 a27
 refine wl_nil ?_
 refine then_n ?_
 refine c_seq ?_
 refine c_block ?_
 refine c_seq ?_
 have hA31 := hA30.as [(9, (Value.int .i64 0)), (8, (bptr bj19 0)), (3, (bptr b4 0)), (2, vp)] rfl; clear hA30
 refine c_region ?_
 refine st hA31 (op_move rfl (hA31.ev rfl)) rfl rfl (by decide) fun a32 hA33 => ?_; clear hA31 a29
 refine st hA33 (op_neq rfl (hA33.ev rfl) (evc _ _)) rfl rfl (by decide) fun a34 hA35 => ?_; clear hA33 a32
 refine st hA35 (op_assign rfl (hA35.ev rfl)) rfl rfl (by decide) fun a36 hA37 => ?_; clear hA35 a34
 refine wl_nil ?_
 refine then_n ?_
 refine c_false hA37 rfl ?_
 refine c_seq ?_
 refine c_region ?_
 refine st hA37 (op_move rfl (hA37.ev rfl)) rfl rfl (by decide) fun a38 hA39 => ?_; clear hA37 a36
 refine st hA39 (op_lenS rfl un_58 (hA39.ev rfl) (hS18.sk 6 rfl)) rfl rfl (by decide) fun a40 hA41 => ?_; clear hA39 a38
 refine st hA41 (op_gtr rfl (hA41.ev rfl) (evc _ _)) rfl rfl (by decide) fun a42 hA43 => ?_; clear hA41 a40
 refine st hA43 (op_move rfl (hA43.ev rfl)) rfl rfl (by decide) fun a44 hA45 => ?_; clear hA43 a42
 by_cases hb46 : 8 < (plan.length : Int)
 ·skip
  rw [decide_eq_true hb46] at hA45
  refine skp hA45 rfl rfl rfl rfl rfl (by decide) fun a47 hA48 => ?_; clear hA45 a44
  refine skp hA48 rfl rfl rfl rfl rfl (by decide) fun a49 hA50 => ?_; clear hA48 a47
  refine skp hA50 rfl rfl rfl rfl rfl (by decide) fun a51 hA52 => ?_; clear hA50 a49
  refine skp hA52 rfl rfl rfl rfl rfl (by decide) fun a53 hA54 => ?_; clear hA52 a51
  refine skp hA54 rfl rfl rfl rfl rfl (by decide) fun a55 hA56 => ?_; clear hA54 a53
  refine st hA56 (op_pick_t rfl (hA56.ev rfl) (evc _ _)) rfl rfl (by decide) fun a57 hA58 => ?_; clear hA56 a55
  refine st hA58 (op_assign rfl (hA58.ev rfl)) rfl rfl (by decide) fun a59 hA60 => ?_; clear hA58 a57
  refine wl_nil ?_
  refine then_n ?_
  refine c_true hA60 rfl ?_
  refine c_seq ?_
  have hA61 := hA60.as [] rfl; clear hA60
  refine c_region ?_
  refine st hA61 (op_assign rfl (evc _ _)) rfl rfl (by decide) fun a62 hA63 => ?_; clear hA61 a59
  refine st hA63 (op_assign rfl (evc _ _)) rfl rfl (by decide) fun a64 hA65 => ?_; clear hA63 a62
  refine wl_nil ?_
  refine then_n ?_
  refine c_ret ?_
  refine blk_ret ?_
  refine then_ret ?_
  refine fin_run hA65 (.inl rfl) (run_results2 hA65 rfl (.tmp rfl) (.tmp rfl)) ?_
  exact .inl ⟨by first | exact plan_2a he (by omega) | exact plan_2b he (by assumption), rfl, hS18.ext⟩
 ·skip
  rw [decide_eq_false hb46] at hA45
  refine stg hA45 (op_move rfl (hA45.ev rfl)) rfl rfl rfl rfl (by decide) fun a66 hA67 => ?_; clear hA45 a44
  refine stg hA67 (op_loadA rfl ty_33 (hA67.ev rfl) (hS18.bk 2 rfl) (l := [vr]) rfl rfl) rfl rfl rfl rfl (by decide) fun a68 hA69 => ?_; clear hA67 a66
  refine stg hA69 (op_makeFunc rfl (ev1 (hA69.ev rfl)) ev0) rfl rfl rfl rfl (by decide) fun a70 hA71 => ?_; clear hA69 a68
  refine stwg hA71 (op_call rfl en_79 (ev2 (hA71.ev rfl) (hA71.ev rfl)) (callsB (all_seg plan _ 80 #[(Value.agg #[vr])] #[] (fun i => segB R.length (plan.getD i (0, 0, 0))) _ (hS18.sk 6 rfl) (by omega) ⟨en_80, fun i hi W hW => segment_ok R vr _ _ _ W (hm.step (hS18.ext.trans hW)) hlen⟩) (allSegB R.length plan) rfl)) rfl rfl rfl rfl (by decide) ?_
  rintro a72 _ w74 ⟨rfl, hE75⟩ hA73; have hS76 := hS18.step hE75; clear hE75 hA71 hS18 a70
  refine stg hA73 (op_not rfl (hA73.ev rfl)) rfl rfl rfl rfl (by decide) fun a77 hA78 => ?_; clear hA73 a72
  refine st hA78 (op_pick_f rfl (hA78.ev rfl) (hA78.ev rfl)) rfl rfl (by decide) fun a79 hA80 => ?_; clear hA78 a77
  refine st hA80 (op_assign rfl (hA80.ev rfl)) rfl rfl (by decide) fun a81 hA82 => ?_; clear hA80 a79
  refine wl_nil ?_
  refine then_n ?_
  rcases Bool.eq_false_or_eq_true ((allSegB R.length plan)) with hb83 | hb83
  ·skip
   rw [hb83] at hA82
   refine c_false hA82 rfl ?_
   refine c_skip ?_
   refine blk_n ?_
   refine then_n ?_
   refine c_seq ?_
   have hA84 := hA82.as [(8, (bptr bj19 0))] rfl; clear hA82
   refine c_region ?_
   refine st hA84 (op_move rfl (hA84.ev rfl)) rfl rfl (by decide) fun a85 hA86 => ?_; clear hA84 a81
   refine st hA86 (op_assign rfl (hA86.ev rfl)) rfl rfl (by decide) fun a87 hA88 => ?_; clear hA86 a85
   refine st hA88 (op_assign rfl (evc _ _)) rfl rfl (by decide) fun a89 hA90 => ?_; clear hA88 a87
   refine wl_nil ?_
   refine then_n ?_
   refine c_ret ?_
   refine fin_run hA90 (.inl rfl) (run_results2 hA90 rfl (.tmp rfl) (.tmp rfl)) ?_
   exact .inr ⟨plan_0 he (by omega) (by assumption), _, _, rfl, hS76.keep [0, 1] (by decide) _ rfl rfl⟩
  ·skip
   rw [hb83] at hA82
   refine c_true hA82 rfl ?_
   refine c_seq ?_
   have hA91 := hA82.as [] rfl; clear hA82
   refine c_region ?_
   refine st hA91 (op_assign rfl (evc _ _)) rfl rfl (by decide) fun a92 hA93 => ?_; clear hA91 a81
   refine st hA93 (op_assign rfl (evc _ _)) rfl rfl (by decide) fun a94 hA95 => ?_; clear hA93 a92
   refine wl_nil ?_
   refine then_n ?_
   refine c_ret ?_
   refine blk_ret ?_
   refine then_ret ?_
   refine fin_run hA95 (.inl rfl) (run_results2 hA95 rfl (.tmp rfl) (.tmp rfl)) ?_
   exact .inl ⟨by first | exact plan_2a he (by omega) | exact plan_2b he (by assumption), rfl, hS76.ext⟩

theorem plan_bad (R : List (Int × Int)) (rs : List RunD) (lv : List Value) (vr vu : Value) (w : World) (hm : SlAt w vr 2 R.length (pairs R)) (hx : RunsAt w vu lv rs) (hlen : R.length ≤ 1000000) (hrl : rs.length ≤ 1000000) (plan : List Seg) (vp : Value) (hp : SlAt w vp 3 plan.length (trips plan)) (hpl : plan.length ≤ 1000000) (he : planF R rs plan ≠ 0) : Calls Try.prog 58 #[.agg #[vr], vu, vp] w (Ret fun v w' => v = .tuple #[.pointer none, .int .i64 (planF R rs plan)] ∧ Ext NoB w w') := by
 by_cases h0 : possF R rs = 0
 ·exact (plan_any R rs lv vr vu w hm hx hlen hrl plan vp hp hpl h0).mono (Ret.mono fun v w' h => by
   rcases h with ⟨h1, h⟩ | ⟨h, _⟩
   ·rw [h1]; exact h
   ·exact absurd h he)
 ·have := plan_p_ok R rs lv vr vu w hm hx hlen hrl plan vp hp hpl h0
  rw [plan_p h0]; exact this
theorem plan_ok (R : List (Int × Int)) (rs : List RunD) (lv : List Value) (vr vu : Value) (w : World) (hm : SlAt w vr 2 R.length (pairs R)) (hx : RunsAt w vu lv rs) (hlen : R.length ≤ 1000000) (hrl : rs.length ≤ 1000000) (plan : List Seg) (vp : Value) (hp : SlAt w vp 3 plan.length (trips plan)) (hpl : plan.length ≤ 1000000) (he : planF R rs plan = 0) : Calls Try.prog 58 #[.agg #[vr], vu, vp] w (Ret fun v w' => ∃ bj bm, v = .tuple #[bptr bj 0, .int .i64 0] ∧ Sep NoB w w' [blk bj 119 [vr, vu, .map (some bm)], memo bm (KA rs)]) :=
 (plan_any R rs lv vr vu w hm hx hlen hrl plan vp hp hpl (plan_is he).1).mono (Ret.mono fun v w' h => by
  rcases h with ⟨h, _⟩ | ⟨_, h⟩
  ·rw [he] at h; exact absurd h (by decide)
  ·exact h)

end Go.Proofs.Ytkkglkdnnfegkaa

namespace Go.Proofs.Ytkkglkdnnfegkaa
open Go.RowKit Go.Shelf Go.Eng
theorem ty_4 : tyK Try.prog 4 = some (false, 1) := by kernel_rfl
theorem bd_fv_42_0_i64i64 (x0 x1 : Int) (w : World) : (Instr.field 42 (.agg #[(.int .i64 x0), (.int .i64 x1)]) 0).run Try.prog w = .ok (.int .i64 x0) w := by kernel_rfl
theorem bd_fv_42_1_i64i64 (x0 x1 : Int) (w : World) : (Instr.field 42 (.agg #[(.int .i64 x0), (.int .i64 x1)]) 1).run Try.prog w = .ok (.int .i64 x1) w := by kernel_rfl
theorem ends_ok (bj bm : Nat) (R : List (Int × Int)) (rs : List RunD) (lv : List Value) (vr vu vp : Value) (plan : List Seg) (w : World) (hR : MatV R) (hV : RunsV R.length rs) (hl : lv.length = rs.length) (hpl : plan.length ≤ 8) (hs : ∀ i, i < plan.length → SegV R.length (plan.getD i (0, 0, 0))) (hJ : Sep (fun b => b = bm) w w [(memo bm (KA rs)), (rob bj 119 [vr, vu, (Value.map (some bm))]), (sl vr 2 R.length (pairs R)), (sl vu 3 rs.length (vtrips (runV lv rs))), (segsR false lv rs), (sl vp 3 plan.length (trips plan))]) :
  Calls Try.prog 59 #[(bptr bj 0), vp] w (Ret fun v w' => v = .tuple #[.agg (ints (leastR R rs plan)).toArray, .agg (ints (mostR R rs plan)).toArray] ∧ Ext (fun b => b = bm) w w' ∧ (memo bm (KA rs)).p w') := by
 refine calls_enterM Try.func59 rfl fun a0 hA0 => ?_
 replace hA0 : Fr 43 (marks []) [(0, (bptr bj 0)), (1, vp)] a0 := hA0
 have hS0 : Sep (fun b => b = bm) w w [(marksR []), (memo bm (KA rs)), (rob bj 119 [vr, vu, (Value.map (some bm))]), (sl vr 2 R.length (pairs R)), (sl vu 3 rs.length (vtrips (runV lv rs))), (segsR false lv rs), (sl vp 3 plan.length (trips plan))] := sep_marks (hJ)
 refine c_seq ?_
 refine c_region ?_
 refine stw hA0 (op_box hS0 rfl (hA0.ev rfl) (cs := [vp]) (isSl_cells (SlAt.isSl (hS0.sk 6 rfl)))) rfl rfl (by decide) ?_
 rintro a1 _ w3 ⟨b4, rfl, hS5⟩ hA2; clear hA0 hS0 a0
 refine stw hA2 (op_alloc hS5 rfl ze_104 (cs := (ints ([0, 0, 0]))) rfl) rfl rfl (by decide) ?_
 rintro a6 _ w8 ⟨b9, rfl, hS10⟩ hA7; clear hA2 hS5 a1
 refine stw hA7 (op_alloc hS10 rfl ze_104 (cs := (ints ([0, 0, 0]))) rfl) rfl rfl (by decide) ?_
 rintro a11 _ w13 ⟨b14, rfl, hS15⟩ hA12; clear hA7 hS10 a6
 refine wl_nil ?_
 refine then_n ?_
 refine c_seq ?_
 refine c_region ?_
 refine stw hA12 (op_alloc hS15 rfl ze_4 (cs := [(Value.bool false)]) rfl) rfl rfl (by decide) ?_
 rintro a16 _ w18 ⟨b19, rfl, hS20⟩ hA17; clear hA12 hS15 a11
 refine sts hA17 (op_store hS20 rfl ty_4 (hA17.ev rfl) (evc _ _) (i := 0) rfl (vs := [(Value.bool true)]) rfl rfl rfl (Nat.le_of_ble_eq_true rfl)) rfl rfl ?_
 intro _ w21 hS22 hA23; clear hA17
 have hS24 : Sep (fun b => b = bm) w w21 [(blk b19 4 [(Value.bool true)]), (blk b14 104 (ints ([0, 0, 0]))), (blk b9 104 (ints ([0, 0, 0]))), (blk b4 58 [vp]), (marksR []), (memo bm (KA rs)), (rob bj 119 [vr, vu, (Value.map (some bm))]), (sl vr 2 R.length (pairs R)), (sl vu 3 rs.length (vtrips (runV lv rs))), (segsR false lv rs), (sl vp 3 plan.length (trips plan))] := hS22; clear hS22 hS20
 refine wl_nil ?_
 refine then_n ?_
 refine c_seq ?_
 refine c_seq ?_
 refine c_region ?_
 refine st hA23 (op_move rfl (hA23.ev rfl)) rfl rfl (by decide) fun a25 hA26 => ?_; clear hA23 a16
 refine stw hA26 (op_call rfl en_54 (ev1 (hA26.ev rfl)) (every_ok _ _)) rfl rfl (by decide) ?_
 rintro a27 _ w29 ⟨bx32, rfl, hT30⟩ hA28; have hS31 := hS24.callS hT30 rfl; clear hT30 hA26 hS24 a25
 refine wl_nil ?_
 refine then_n ?_
 refine c_block ?_
 have hA33 := hA28.as [(11, (Value.func (.func 78) #[] #[(bptr bx32 0)])), (6, (bptr b19 0)), (5, (bptr b14 0)), (4, (bptr b9 0)), (3, (bptr b4 0))] rfl; clear hA28
 have hS34 : Sep (fun b => b = bm) w w29 [(marksR []), (memo bm (KA rs)), (blk bx32 97 [(bptr bj 0)]), (blk b19 4 [(Value.bool true)]), (blk b14 104 (ints ([0, 0, 0]))), (blk b9 104 (ints ([0, 0, 0]))), (blk b4 58 [vp]), (rob bj 119 [vr, vu, (Value.map (some bm))]), (sl vr 2 R.length (pairs R)), (sl vu 3 rs.length (vtrips (runV lv rs))), (segsR false lv rs), (sl vp 3 plan.length (trips plan))] := hS31.keep [5, 6, 0, 1, 2, 3, 4, 7, 8, 9, 10, 11] (by decide) _ rfl rfl; clear hS31
 refine c_rangeG hA33 (memo bm (KA rs)) rfl hS34 (hA33.ev rfl) en_78 ((allowedF R rs).length) (fun k => #[.agg (ints ((allowedF R rs).getD k [])).toArray]) (fun _ => rfl) [rob bx32 97 [bptr bj 0], rob bj 119 [vr, vu, .map (some bm)], sl vr 2 R.length (pairs R), sl vu 3 rs.length (vtrips (runV lv rs)), segsR false lv rs] (fun r hr => by simp only [List.mem_cons, List.not_mem_nil, or_false] at hr; rcases hr with rfl | rfl | rfl | rfl | rfl <;> rfl) (every_it bx32 bj bm R rs lv vr vu R.length hR.1 hR hV hl) (fun q L_ => L_ = [(blk bx32 97 [(bptr bj 0)]), (blk b19 4 [(Value.bool (decide (q = 0)))]), (blk b14 104 (ints (mostF plan (allowedF R rs) q))), (blk b9 104 (ints (leastF plan (allowedF R rs) q))), (blk b4 58 [vp]), (rob bj 119 [vr, vu, (Value.map (some bm))]), (sl vr 2 R.length (pairs R)), (sl vu 3 rs.length (vtrips (runV lv rs))), (segsR false lv rs), (sl vp 3 plan.length (trips plan))]) (fun _ => False) none rfl (fun q L_ hI_ G_ W_ r1_ r2_ hW_ => by obtain ⟨rfl⟩ := hI_; exact (Sep.keep (hW_.to_ro (i := 3) rfl) [2, 3, 8, 9, 10, 11] (by decide) _ rfl rfl)) (fun L_ hI_ => hI_.elim) ?_ ?_ (fun _ hc_ => by cases hc_)
 ·skip
  intro q hq L_ hL_ G43 hG44 l40 D41 rc42 a35 w36 ha39 hS37; obtain ⟨rfl⟩ := hL_
  have hA38 : Fr 43 [] [(12, (Value.agg (ints ((allowedF R rs).getD q [])).toArray)), (11, (Value.func (.func 78) #[] #[(bptr bx32 0)])), (6, (bptr b19 0)), (5, (bptr b14 0)), (4, (bptr b9 0)), (3, (bptr b4 0))] a35 := by rw [ha39]; exact Fr.round1 hA33 (by decide)
  clear ha39 hS34
  have hl3 := (allowed_rates hR hq).1.1
  refine c_region ?_
  refine stw hA38 (op_alloc hS37 rfl ze_104 (cs := [(Value.int .i64 0), (Value.int .i64 0), (Value.int .i64 0)]) rfl) rfl rfl (by decide) ?_
  rintro a45 _ w47 ⟨b48, rfl, hS49⟩ hA46; clear hA38 hS37 a35
  refine sts hA46 (op_store hS49 rfl ty_104 (hA46.ev rfl) (hA46.ev rfl) (i := 0) rfl (vs := (ints ((allowedF R rs).getD q []))) rfl (allowed_len3 hR hq).symm (ints_one _) (by decide)) rfl rfl ?_
  intro _ w50 hS51 hA53; have hS52 := hS51.blk_say (i := 0) rfl (cs' := (ints ((allowedF R rs).getD q []))) (setFrom_all _ _ (Eq.symm (allowed_len3 hR hq).symm)); clear hS51 hA46 hS49
  refine wl_nil ?_
  have hS54 : Sep (fun b => b = bm) w w50 [(obR l40 (.loop (rc42 .ready none))), (marksR (D41 :: [])), G43, (blk b48 104 (ints ((allowedF R rs).getD q []))), (blk bx32 97 [(bptr bj 0)]), (blk b19 4 [(Value.bool (decide (q = 0)))]), (blk b14 104 (ints (mostF plan (allowedF R rs) q))), (blk b9 104 (ints (leastF plan (allowedF R rs) q))), (blk b4 58 [vp]), (rob bj 119 [vr, vu, (Value.map (some bm))]), (sl vr 2 R.length (pairs R)), (sl vu 3 rs.length (vtrips (runV lv rs))), (segsR false lv rs), (sl vp 3 plan.length (trips plan))] := hS52.keep [1, 2, 3, 0, 4, 5, 6, 7, 8, 9, 10, 11, 12, 13] (by decide) _ rfl rfl; clear hS52
  refine ⟨rfl, _, hS54, ?_⟩; intro w55 hS56; clear hS54
  refine c_block ?_
  refine c_seq ?_
  refine c_seq ?_
  refine c_region ?_
  refine st hA53 (op_load1 rfl ty_58 (hA53.ev rfl) (hS56.bk 8 rfl) rfl) rfl rfl (by decide) fun a57 hA58 => ?_; clear hA53 a45
  refine st hA58 (op_loadA rfl ty_104 (hA58.ev rfl) (hS56.bk 3 rfl) (l := (ints ((allowedF R rs).getD q []))) (drop_take_all _ _ (allowed_len3 hR hq).symm) (allowed_len3 hR hq).symm) rfl rfl (by decide) fun a59 hA60 => ?_; clear hA58 a57
  refine stw hA60 (op_call rfl en_60 (ev2 (hA60.ev rfl) (hA60.ev rfl)) (stretch_ok plan _ ((allowedF R rs).getD q []) R.length _ (by omega) hR.1 (allowed_rates hR hq).1 hs (hS56.sk 13 rfl))) rfl rfl (by decide) ?_
  rintro a61 _ w63 ⟨rfl, hE64⟩ hA62; have hS65 := hS56.step hE64; clear hE64 hA60 hS56 a59
  refine stw hA62 (op_alloc hS65 rfl ze_42 (cs := [(Value.int .i64 0), (Value.int .i64 0)]) rfl) rfl rfl (by decide) ?_
  rintro a66 _ w68 ⟨b69, rfl, hS70⟩ hA67; clear hA62 hS65 a61
  refine sts hA67 (op_store hS70 rfl ty_42 (hA67.ev rfl) (hA67.ev rfl) (i := 0) rfl (vs := [(Value.int .i64 (stLo plan ((allowedF R rs).getD q []))), (Value.int .i64 (stHi plan ((allowedF R rs).getD q [])))]) rfl rfl rfl (Nat.le_of_ble_eq_true rfl)) rfl rfl ?_
  intro _ w71 hS72 hA73; clear hA67
  have hS74 : Sep (fun b => b = bm) w w71 [(blk b69 42 [(Value.int .i64 (stLo plan ((allowedF R rs).getD q []))), (Value.int .i64 (stHi plan ((allowedF R rs).getD q [])))]), (obR l40 (.loop (rc42 .busy none))), (marksR (D41 :: [])), G43, (blk b48 104 (ints ((allowedF R rs).getD q []))), (blk bx32 97 [(bptr bj 0)]), (blk b19 4 [(Value.bool (decide (q = 0)))]), (blk b14 104 (ints (mostF plan (allowedF R rs) q))), (blk b9 104 (ints (leastF plan (allowedF R rs) q))), (blk b4 58 [vp]), (rob bj 119 [vr, vu, (Value.map (some bm))]), (sl vr 2 R.length (pairs R)), (sl vu 3 rs.length (vtrips (runV lv rs))), (segsR false lv rs), (sl vp 3 plan.length (trips plan))] := hS72; clear hS72 hS70
  refine wl_nil ?_
  refine then_n ?_
  refine c_seq ?_
  have hA75 := hA73.as [(8, (bptr b69 0)), (7, (bptr b48 0)), (6, (bptr b19 0)), (5, (bptr b14 0)), (4, (bptr b9 0)), (3, (bptr b4 0))] rfl; clear hA73
  rcases Bool.eq_false_or_eq_true ((decide (q = 0))) with hb77 | hb77
  ·skip
   have hA78 := hA75.as [(8, (bptr b69 0)), (7, (bptr b48 0)), (6, (bptr b19 0)), (5, (bptr b14 0)), (4, (bptr b9 0)), (3, (bptr b4 0))] rfl; clear hA75
   refine c_drawV mixed hA78 hS74 8 [[], [0], [1], [1, 2], [1], [1], [1, 4, 5], [1, 6]] [(fun (vs79 : Nat → Value) (v_ : Value) (rs_ : List Res) => v_ = (Value.bool true) ∧ rs_ = []), (fun (vs79 : Nat → Value) (v_ : Value) (rs_ : List Res) => v_ = (Value.bool true) ∧ rs_ = []), (fun (vs79 : Nat → Value) (v_ : Value) (rs_ : List Res) => v_ = undef ∧ rs_ = []), (fun (vs79 : Nat → Value) (v_ : Value) (rs_ : List Res) => v_ = undef ∧ rs_ = []), (fun (vs79 : Nat → Value) (v_ : Value) (rs_ : List Res) => v_ = undef ∧ rs_ = []), (fun (vs79 : Nat → Value) (v_ : Value) (rs_ : List Res) => v_ = undef ∧ rs_ = []), (fun (vs79 : Nat → Value) (v_ : Value) (rs_ : List Res) => v_ = undef ∧ rs_ = []), (fun (vs79 : Nat → Value) (v_ : Value) (rs_ : List Res) => v_ = undef ∧ rs_ = [])] (by decide +kernel) (by decide +kernel) rfl rfl ⟨(fun _ _ _ _ _ h_ => h_), (fun _ _ _ _ _ h_ => h_), (fun _ _ _ _ _ h_ => h_), (fun _ _ _ _ _ h_ => h_), (fun _ _ _ _ _ h_ => h_), (fun _ _ _ _ _ h_ => h_), (fun _ _ _ _ _ h_ => h_), (fun _ _ _ _ _ h_ => h_), trivial⟩ ?_ ?_
   ·skip
    refine ⟨fun a w vs79 hA hS hd => ?_, ?_⟩
    ·skip
     exact opG_of rfl (vv (op_load1 rfl ty_4 (hA.ev rfl) (hS.bk 6 rfl) rfl) (And.intro (by show Value.bool _ = _; simp only [hb77, decide_true, decide_false, Bool.not_true, Bool.not_false]) rfl))
    refine ⟨fun a w vs79 hA hS hd => ?_, ?_⟩
    ·skip
     obtain ⟨e0, rs0, hy0, hp0⟩ := hd 0 (by decide)
     obtain ⟨hv0, hr0⟩ := hy0; subst hr0
     rw [hv0] at e0
     exact opG_of rfl (vv (op_move rfl (tmp_ev (slot_ev e0 rfl))) (And.intro rfl rfl))
    refine ⟨fun a w vs79 hA hS hd => ?_, ?_⟩
    ·skip
     obtain ⟨e1, rs1, hy1, hp1⟩ := hd 1 (by decide)
     obtain ⟨hv1, hr1⟩ := hy1; subst hr1
     rw [hv1] at e1
     exact opG_no rfl rfl (slot_ev e1 rfl) rfl (vskip (And.intro rfl rfl))
    refine ⟨fun a w vs79 hA hS hd => ?_, ?_⟩
    ·skip
     obtain ⟨e1, rs1, hy1, hp1⟩ := hd 1 (by decide)
     obtain ⟨hv1, hr1⟩ := hy1; subst hr1
     rw [hv1] at e1
     obtain ⟨e2, rs2, hy2, hp2⟩ := hd 2 (by decide)
     obtain ⟨hv2, hr2⟩ := hy2; subst hr2
     rw [hv2] at e2
     exact opG_no rfl rfl (slot_ev e1 rfl) rfl (vskip (And.intro rfl rfl))
    refine ⟨fun a w vs79 hA hS hd => ?_, ?_⟩
    ·skip
     obtain ⟨e1, rs1, hy1, hp1⟩ := hd 1 (by decide)
     obtain ⟨hv1, hr1⟩ := hy1; subst hr1
     rw [hv1] at e1
     exact opG_no rfl rfl (slot_ev e1 rfl) rfl (vskip (And.intro rfl rfl))
    refine ⟨fun a w vs79 hA hS hd => ?_, ?_⟩
    ·skip
     obtain ⟨e1, rs1, hy1, hp1⟩ := hd 1 (by decide)
     obtain ⟨hv1, hr1⟩ := hy1; subst hr1
     rw [hv1] at e1
     exact opG_no rfl rfl (slot_ev e1 rfl) rfl (vskip (And.intro rfl rfl))
    refine ⟨fun a w vs79 hA hS hd => ?_, ?_⟩
    ·skip
     obtain ⟨e1, rs1, hy1, hp1⟩ := hd 1 (by decide)
     obtain ⟨hv1, hr1⟩ := hy1; subst hr1
     rw [hv1] at e1
     obtain ⟨e4, rs4, hy4, hp4⟩ := hd 4 (by decide)
     obtain ⟨hv4, hr4⟩ := hy4; subst hr4
     rw [hv4] at e4
     obtain ⟨e5, rs5, hy5, hp5⟩ := hd 5 (by decide)
     obtain ⟨hv5, hr5⟩ := hy5; subst hr5
     rw [hv5] at e5
     exact opG_no rfl rfl (slot_ev e1 rfl) rfl (vskip (And.intro rfl rfl))
    refine ⟨fun a w vs79 hA hS hd => ?_, ?_⟩
    ·skip
     obtain ⟨e1, rs1, hy1, hp1⟩ := hd 1 (by decide)
     obtain ⟨hv1, hr1⟩ := hy1; subst hr1
     rw [hv1] at e1
     obtain ⟨e6, rs6, hy6, hp6⟩ := hd 6 (by decide)
     obtain ⟨hv6, hr6⟩ := hy6; subst hr6
     rw [hv6] at e6
     exact opG_no rfl rfl (slot_ev e1 rfl) rfl (vskip (And.intro rfl rfl))
    trivial
   intro a80 w81 vs79 rsf85 hA82 hH84 hS83; clear hA78 hS74
   obtain ⟨hs_0, hy_0⟩ := hH84 0 (by decide)
   obtain ⟨hv_0, hr_0⟩ := hy_0
   obtain ⟨hs_1, hy_1⟩ := hH84 1 (by decide)
   obtain ⟨hv_1, hr_1⟩ := hy_1
   obtain ⟨hs_2, hy_2⟩ := hH84 2 (by decide)
   obtain ⟨hv_2, hr_2⟩ := hy_2
   obtain ⟨hs_3, hy_3⟩ := hH84 3 (by decide)
   obtain ⟨hv_3, hr_3⟩ := hy_3
   obtain ⟨hs_4, hy_4⟩ := hH84 4 (by decide)
   obtain ⟨hv_4, hr_4⟩ := hy_4
   obtain ⟨hs_5, hy_5⟩ := hH84 5 (by decide)
   obtain ⟨hv_5, hr_5⟩ := hy_5
   obtain ⟨hs_6, hy_6⟩ := hH84 6 (by decide)
   obtain ⟨hv_6, hr_6⟩ := hy_6
   obtain ⟨hs_7, hy_7⟩ := hH84 7 (by decide)
   obtain ⟨hv_7, hr_7⟩ := hy_7
   have hS86 : Sep (fun b => b = bm) w w81 [(blk b69 42 [(Value.int .i64 (stLo plan ((allowedF R rs).getD q []))), (Value.int .i64 (stHi plan ((allowedF R rs).getD q [])))]), (obR l40 (.loop (rc42 .busy none))), (marksR (D41 :: [])), G43, (blk b48 104 (ints ((allowedF R rs).getD q []))), (blk bx32 97 [(bptr bj 0)]), (blk b19 4 [(Value.bool (decide (q = 0)))]), (blk b14 104 (ints (mostF plan (allowedF R rs) q))), (blk b9 104 (ints (leastF plan (allowedF R rs) q))), (blk b4 58 [vp]), (rob bj 119 [vr, vu, (Value.map (some bm))]), (sl vr 2 R.length (pairs R)), (sl vu 3 rs.length (vtrips (runV lv rs))), (segsR false lv rs), (sl vp 3 plan.length (trips plan))] := by rw [show catR rsf85 0 8 = ([] : List Res) by (try simp only [catR, hr_0, hr_1, hr_2, hr_3, hr_4, hr_5, hr_6, hr_7]); (try rfl)] at hS83; exact hS83
   rw [hv_1] at hs_1
   have hA87 : Fr 43 [] [(17, (Value.bool true)), (8, (bptr b69 0)), (7, (bptr b48 0)), (6, (bptr b19 0)), (5, (bptr b14 0)), (4, (bptr b9 0)), (3, (bptr b4 0))] a80 := hA82.add (slot_ev hs_1 rfl); clear hA82
   rw [hv_3] at hs_3
   have hA88 : Fr 43 [] [(19, undef), (17, (Value.bool true)), (8, (bptr b69 0)), (7, (bptr b48 0)), (6, (bptr b19 0)), (5, (bptr b14 0)), (4, (bptr b9 0)), (3, (bptr b4 0))] a80 := hA87.add (slot_ev hs_3 rfl); clear hA87
   rw [hv_7] at hs_7
   have hA89 : Fr 43 [] [(23, undef), (19, undef), (17, (Value.bool true)), (8, (bptr b69 0)), (7, (bptr b48 0)), (6, (bptr b19 0)), (5, (bptr b14 0)), (4, (bptr b9 0)), (3, (bptr b4 0))] a80 := hA88.add (slot_ev hs_7 rfl); clear hA88
   clear hH84 hS83 hs_0 hs_1 hs_2 hs_3 hs_4 hs_5 hs_6 hs_7
   clear hr_0
   clear hv_0
   clear hr_1
   clear hv_1
   clear hr_2
   clear hv_2
   clear hr_3
   clear hv_3
   clear hr_4
   clear hv_4
   clear hr_5
   clear hv_5
   clear hr_6
   clear hv_6
   clear hr_7
   clear hv_7
   refine skp hA89 rfl rfl rfl rfl rfl (by decide) fun a90 hA91 => ?_; clear hA89 a80
   refine st hA91 (op_pick_t rfl (hA91.ev rfl) (evc _ _)) rfl rfl (by decide) fun a92 hA93 => ?_; clear hA91 a90
   refine wl_nil ?_
   refine then_n ?_
   refine c_true hA93 rfl ?_
   have hA94 := hA93.as [(7, (bptr b48 0)), (6, (bptr b19 0)), (5, (bptr b14 0)), (4, (bptr b9 0)), (3, (bptr b4 0))] rfl; clear hA93
   refine c_region ?_
   refine st hA94 (op_loadA rfl ty_104 (hA94.ev rfl) (hS86.bk 4 rfl) (l := (ints ((allowedF R rs).getD q []))) (drop_take_all _ _ (allowed_len3 hR hq).symm) (allowed_len3 hR hq).symm) rfl rfl (by decide) fun a95 hA96 => ?_; clear hA94 a92
   refine sts hA96 (op_store hS86 rfl ty_104 (hA96.ev rfl) (hA96.ev rfl) (i := 8) rfl (vs := (ints ((allowedF R rs).getD q []))) rfl (allowed_len3 hR hq).symm (ints_one _) (by first | (simp only [ints, List.length_map, List.length_set]; omega) | (have h2_ := (show (ints (leastF plan (allowedF R rs) q)).length = 3 from (by rw [ints, List.length_map]; exact (least_rates (fun k hk => (allowed_rates hR hk).1) _ (by omega)).1)); omega))) rfl rfl ?_
   intro _ w97 hS98 hA100; have hS99 := hS98.blk_say (i := 8) rfl (cs' := (ints ((allowedF R rs).getD q []))) (setFrom_all _ _ (by first | (simp only [ints, List.length_map, List.length_set]; omega) | (have h1_ := (show (ints ((allowedF R rs).getD q [])).length = 3 from (allowed_len3 hR hq).symm); have h2_ := (show (ints (leastF plan (allowedF R rs) q)).length = 3 from (by rw [ints, List.length_map]; exact (least_rates (fun k hk => (allowed_rates hR hk).1) _ (by omega)).1)); omega))); clear hS98 hA96 hS86
   refine wl_nil ?_
   refine then_n ?_
   refine c_seq ?_
   refine c_seq ?_
   refine c_region ?_
   refine st hA100 (op_load1 rfl ty_58 (hA100.ev rfl) (hS99.bk 9 rfl) rfl) rfl rfl (by decide) fun a101 hA102 => ?_; clear hA100 a95
   refine st hA102 (op_loadA rfl ty_104 (hA102.ev rfl) (hS99.bk 4 rfl) (l := (ints ((allowedF R rs).getD q []))) (drop_take_all _ _ (allowed_len3 hR hq).symm) (allowed_len3 hR hq).symm) rfl rfl (by decide) fun a103 hA104 => ?_; clear hA102 a101
   refine stw hA104 (op_call rfl en_60 (ev2 (hA104.ev rfl) (hA104.ev rfl)) (stretch_ok plan _ ((allowedF R rs).getD q []) R.length _ (by omega) hR.1 (allowed_rates hR hq).1 hs (hS99.sk 14 rfl))) rfl rfl (by decide) ?_
   rintro a105 _ w107 ⟨rfl, hE108⟩ hA106; have hS109 := hS99.step hE108; clear hE108 hA104 hS99 a103
   refine stw hA106 (op_alloc hS109 rfl ze_42 (cs := [(Value.int .i64 0), (Value.int .i64 0)]) rfl) rfl rfl (by decide) ?_
   rintro a110 _ w112 ⟨b113, rfl, hS114⟩ hA111; clear hA106 hS109 a105
   refine sts hA111 (op_store hS114 rfl ty_42 (hA111.ev rfl) (hA111.ev rfl) (i := 0) rfl (vs := [(Value.int .i64 (stLo plan ((allowedF R rs).getD q []))), (Value.int .i64 (stHi plan ((allowedF R rs).getD q [])))]) rfl rfl rfl (Nat.le_of_ble_eq_true rfl)) rfl rfl ?_
   intro _ w115 hS116 hA117; clear hA111
   have hS118 : Sep (fun b => b = bm) w w115 [(blk b113 42 [(Value.int .i64 (stLo plan ((allowedF R rs).getD q []))), (Value.int .i64 (stHi plan ((allowedF R rs).getD q [])))]), (blk b69 42 [(Value.int .i64 (stLo plan ((allowedF R rs).getD q []))), (Value.int .i64 (stHi plan ((allowedF R rs).getD q [])))]), (obR l40 (.loop (rc42 .busy none))), (marksR (D41 :: [])), G43, (blk b48 104 (ints ((allowedF R rs).getD q []))), (blk bx32 97 [(bptr bj 0)]), (blk b19 4 [(Value.bool (decide (q = 0)))]), (blk b14 104 (ints (mostF plan (allowedF R rs) q))), (blk b9 104 (ints ((allowedF R rs).getD q []))), (blk b4 58 [vp]), (rob bj 119 [vr, vu, (Value.map (some bm))]), (sl vr 2 R.length (pairs R)), (sl vu 3 rs.length (vtrips (runV lv rs))), (segsR false lv rs), (sl vp 3 plan.length (trips plan))] := hS116; clear hS116 hS114
   refine wl_nil ?_
   refine then_n ?_
   refine c_seq ?_
   have hA119 := hA117.as [(9, (bptr b113 0)), (7, (bptr b48 0)), (6, (bptr b19 0)), (5, (bptr b14 0)), (3, (bptr b4 0))] rfl; clear hA117
   refine c_drawV mixed hA119 hS118 8 [[], [0], [1], [1, 2], [1], [1], [1, 4, 5], [1, 6]] [(fun (vs120 : Nat → Value) (v_ : Value) (rs_ : List Res) => v_ = (Value.bool true) ∧ rs_ = []), (fun (vs120 : Nat → Value) (v_ : Value) (rs_ : List Res) => v_ = (Value.bool true) ∧ rs_ = []), (fun (vs120 : Nat → Value) (v_ : Value) (rs_ : List Res) => v_ = undef ∧ rs_ = []), (fun (vs120 : Nat → Value) (v_ : Value) (rs_ : List Res) => v_ = undef ∧ rs_ = []), (fun (vs120 : Nat → Value) (v_ : Value) (rs_ : List Res) => v_ = undef ∧ rs_ = []), (fun (vs120 : Nat → Value) (v_ : Value) (rs_ : List Res) => v_ = undef ∧ rs_ = []), (fun (vs120 : Nat → Value) (v_ : Value) (rs_ : List Res) => v_ = undef ∧ rs_ = []), (fun (vs120 : Nat → Value) (v_ : Value) (rs_ : List Res) => v_ = undef ∧ rs_ = [])] (by decide +kernel) (by decide +kernel) rfl rfl ⟨(fun _ _ _ _ _ h_ => h_), (fun _ _ _ _ _ h_ => h_), (fun _ _ _ _ _ h_ => h_), (fun _ _ _ _ _ h_ => h_), (fun _ _ _ _ _ h_ => h_), (fun _ _ _ _ _ h_ => h_), (fun _ _ _ _ _ h_ => h_), (fun _ _ _ _ _ h_ => h_), trivial⟩ ?_ ?_
   ·skip
    refine ⟨fun a w vs120 hA hS hd => ?_, ?_⟩
    ·skip
     exact opG_of rfl (vv (op_load1 rfl ty_4 (hA.ev rfl) (hS.bk 7 rfl) rfl) (And.intro (by show Value.bool _ = _; simp only [hb77, decide_true, decide_false, Bool.not_true, Bool.not_false]) rfl))
    refine ⟨fun a w vs120 hA hS hd => ?_, ?_⟩
    ·skip
     obtain ⟨e0, rs0, hy0, hp0⟩ := hd 0 (by decide)
     obtain ⟨hv0, hr0⟩ := hy0; subst hr0
     rw [hv0] at e0
     exact opG_of rfl (vv (op_move rfl (tmp_ev (slot_ev e0 rfl))) (And.intro rfl rfl))
    refine ⟨fun a w vs120 hA hS hd => ?_, ?_⟩
    ·skip
     obtain ⟨e1, rs1, hy1, hp1⟩ := hd 1 (by decide)
     obtain ⟨hv1, hr1⟩ := hy1; subst hr1
     rw [hv1] at e1
     exact opG_no rfl rfl (slot_ev e1 rfl) rfl (vskip (And.intro rfl rfl))
    refine ⟨fun a w vs120 hA hS hd => ?_, ?_⟩
    ·skip
     obtain ⟨e1, rs1, hy1, hp1⟩ := hd 1 (by decide)
     obtain ⟨hv1, hr1⟩ := hy1; subst hr1
     rw [hv1] at e1
     obtain ⟨e2, rs2, hy2, hp2⟩ := hd 2 (by decide)
     obtain ⟨hv2, hr2⟩ := hy2; subst hr2
     rw [hv2] at e2
     exact opG_no rfl rfl (slot_ev e1 rfl) rfl (vskip (And.intro rfl rfl))
    refine ⟨fun a w vs120 hA hS hd => ?_, ?_⟩
    ·skip
     obtain ⟨e1, rs1, hy1, hp1⟩ := hd 1 (by decide)
     obtain ⟨hv1, hr1⟩ := hy1; subst hr1
     rw [hv1] at e1
     exact opG_no rfl rfl (slot_ev e1 rfl) rfl (vskip (And.intro rfl rfl))
    refine ⟨fun a w vs120 hA hS hd => ?_, ?_⟩
    ·skip
     obtain ⟨e1, rs1, hy1, hp1⟩ := hd 1 (by decide)
     obtain ⟨hv1, hr1⟩ := hy1; subst hr1
     rw [hv1] at e1
     exact opG_no rfl rfl (slot_ev e1 rfl) rfl (vskip (And.intro rfl rfl))
    refine ⟨fun a w vs120 hA hS hd => ?_, ?_⟩
    ·skip
     obtain ⟨e1, rs1, hy1, hp1⟩ := hd 1 (by decide)
     obtain ⟨hv1, hr1⟩ := hy1; subst hr1
     rw [hv1] at e1
     obtain ⟨e4, rs4, hy4, hp4⟩ := hd 4 (by decide)
     obtain ⟨hv4, hr4⟩ := hy4; subst hr4
     rw [hv4] at e4
     obtain ⟨e5, rs5, hy5, hp5⟩ := hd 5 (by decide)
     obtain ⟨hv5, hr5⟩ := hy5; subst hr5
     rw [hv5] at e5
     exact opG_no rfl rfl (slot_ev e1 rfl) rfl (vskip (And.intro rfl rfl))
    refine ⟨fun a w vs120 hA hS hd => ?_, ?_⟩
    ·skip
     obtain ⟨e1, rs1, hy1, hp1⟩ := hd 1 (by decide)
     obtain ⟨hv1, hr1⟩ := hy1; subst hr1
     rw [hv1] at e1
     obtain ⟨e6, rs6, hy6, hp6⟩ := hd 6 (by decide)
     obtain ⟨hv6, hr6⟩ := hy6; subst hr6
     rw [hv6] at e6
     exact opG_no rfl rfl (slot_ev e1 rfl) rfl (vskip (And.intro rfl rfl))
    trivial
   intro a121 w122 vs120 rsf126 hA123 hH125 hS124; clear hA119 hS118
   obtain ⟨hs_0, hy_0⟩ := hH125 0 (by decide)
   obtain ⟨hv_0, hr_0⟩ := hy_0
   obtain ⟨hs_1, hy_1⟩ := hH125 1 (by decide)
   obtain ⟨hv_1, hr_1⟩ := hy_1
   obtain ⟨hs_2, hy_2⟩ := hH125 2 (by decide)
   obtain ⟨hv_2, hr_2⟩ := hy_2
   obtain ⟨hs_3, hy_3⟩ := hH125 3 (by decide)
   obtain ⟨hv_3, hr_3⟩ := hy_3
   obtain ⟨hs_4, hy_4⟩ := hH125 4 (by decide)
   obtain ⟨hv_4, hr_4⟩ := hy_4
   obtain ⟨hs_5, hy_5⟩ := hH125 5 (by decide)
   obtain ⟨hv_5, hr_5⟩ := hy_5
   obtain ⟨hs_6, hy_6⟩ := hH125 6 (by decide)
   obtain ⟨hv_6, hr_6⟩ := hy_6
   obtain ⟨hs_7, hy_7⟩ := hH125 7 (by decide)
   obtain ⟨hv_7, hr_7⟩ := hy_7
   have hS127 : Sep (fun b => b = bm) w w122 [(blk b113 42 [(Value.int .i64 (stLo plan ((allowedF R rs).getD q []))), (Value.int .i64 (stHi plan ((allowedF R rs).getD q [])))]), (blk b69 42 [(Value.int .i64 (stLo plan ((allowedF R rs).getD q []))), (Value.int .i64 (stHi plan ((allowedF R rs).getD q [])))]), (obR l40 (.loop (rc42 .busy none))), (marksR (D41 :: [])), G43, (blk b48 104 (ints ((allowedF R rs).getD q []))), (blk bx32 97 [(bptr bj 0)]), (blk b19 4 [(Value.bool (decide (q = 0)))]), (blk b14 104 (ints (mostF plan (allowedF R rs) q))), (blk b9 104 (ints ((allowedF R rs).getD q []))), (blk b4 58 [vp]), (rob bj 119 [vr, vu, (Value.map (some bm))]), (sl vr 2 R.length (pairs R)), (sl vu 3 rs.length (vtrips (runV lv rs))), (segsR false lv rs), (sl vp 3 plan.length (trips plan))] := by rw [show catR rsf126 0 8 = ([] : List Res) by (try simp only [catR, hr_0, hr_1, hr_2, hr_3, hr_4, hr_5, hr_6, hr_7]); (try rfl)] at hS124; exact hS124
   rw [hv_1] at hs_1
   have hA128 : Fr 43 [] [(31, (Value.bool true)), (9, (bptr b113 0)), (7, (bptr b48 0)), (6, (bptr b19 0)), (5, (bptr b14 0)), (3, (bptr b4 0))] a121 := hA123.add (slot_ev hs_1 rfl); clear hA123
   rw [hv_3] at hs_3
   have hA129 : Fr 43 [] [(33, undef), (31, (Value.bool true)), (9, (bptr b113 0)), (7, (bptr b48 0)), (6, (bptr b19 0)), (5, (bptr b14 0)), (3, (bptr b4 0))] a121 := hA128.add (slot_ev hs_3 rfl); clear hA128
   rw [hv_7] at hs_7
   have hA130 : Fr 43 [] [(37, undef), (33, undef), (31, (Value.bool true)), (9, (bptr b113 0)), (7, (bptr b48 0)), (6, (bptr b19 0)), (5, (bptr b14 0)), (3, (bptr b4 0))] a121 := hA129.add (slot_ev hs_7 rfl); clear hA129
   clear hH125 hS124 hs_0 hs_1 hs_2 hs_3 hs_4 hs_5 hs_6 hs_7
   clear hr_0
   clear hv_0
   clear hr_1
   clear hv_1
   clear hr_2
   clear hv_2
   clear hr_3
   clear hv_3
   clear hr_4
   clear hv_4
   clear hr_5
   clear hv_5
   clear hr_6
   clear hv_6
   clear hr_7
   clear hv_7
   refine skp hA130 rfl rfl rfl rfl rfl (by decide) fun a131 hA132 => ?_; clear hA130 a121
   refine st hA132 (op_pick_t rfl (hA132.ev rfl) (evc _ _)) rfl rfl (by decide) fun a133 hA134 => ?_; clear hA132 a131
   refine wl_nil ?_
   refine then_n ?_
   refine c_true hA134 rfl ?_
   have hA135 := hA134.as [(7, (bptr b48 0)), (6, (bptr b19 0)), (5, (bptr b14 0))] rfl; clear hA134
   refine c_region ?_
   refine st hA135 (op_loadA rfl ty_104 (hA135.ev rfl) (hS127.bk 5 rfl) (l := (ints ((allowedF R rs).getD q []))) (drop_take_all _ _ (allowed_len3 hR hq).symm) (allowed_len3 hR hq).symm) rfl rfl (by decide) fun a136 hA137 => ?_; clear hA135 a133
   refine sts hA137 (op_store hS127 rfl ty_104 (hA137.ev rfl) (hA137.ev rfl) (i := 8) rfl (vs := (ints ((allowedF R rs).getD q []))) rfl (allowed_len3 hR hq).symm (ints_one _) (by first | (simp only [ints, List.length_map, List.length_set]; omega) | (have h2_ := (show (ints (mostF plan (allowedF R rs) q)).length = 3 from (by rw [ints, List.length_map]; exact (most_rates (fun k hk => (allowed_rates hR hk).1) _ (by omega)).1)); omega))) rfl rfl ?_
   intro _ w138 hS139 hA141; have hS140 := hS139.blk_say (i := 8) rfl (cs' := (ints ((allowedF R rs).getD q []))) (setFrom_all _ _ (by first | (simp only [ints, List.length_map, List.length_set]; omega) | (have h1_ := (show (ints ((allowedF R rs).getD q [])).length = 3 from (allowed_len3 hR hq).symm); have h2_ := (show (ints (mostF plan (allowedF R rs) q)).length = 3 from (by rw [ints, List.length_map]; exact (most_rates (fun k hk => (allowed_rates hR hk).1) _ (by omega)).1)); omega))); clear hS139 hA137 hS127
   refine wl_nil ?_
   refine then_n ?_
   refine c_region ?_
   refine sts hA141 (op_store hS140 rfl ty_4 (hA141.ev rfl) (evc _ _) (i := 7) rfl (vs := [(Value.bool false)]) rfl rfl rfl (Nat.le_of_ble_eq_true rfl)) rfl rfl ?_
   intro _ w142 hS143 hA144; clear hA141
   have hS145 : Sep (fun b => b = bm) w w142 [(blk b113 42 [(Value.int .i64 (stLo plan ((allowedF R rs).getD q []))), (Value.int .i64 (stHi plan ((allowedF R rs).getD q [])))]), (blk b69 42 [(Value.int .i64 (stLo plan ((allowedF R rs).getD q []))), (Value.int .i64 (stHi plan ((allowedF R rs).getD q [])))]), (obR l40 (.loop (rc42 .busy none))), (marksR (D41 :: [])), G43, (blk b48 104 (ints ((allowedF R rs).getD q []))), (blk bx32 97 [(bptr bj 0)]), (blk b19 4 [(Value.bool false)]), (blk b14 104 (ints ((allowedF R rs).getD q []))), (blk b9 104 (ints ((allowedF R rs).getD q []))), (blk b4 58 [vp]), (rob bj 119 [vr, vu, (Value.map (some bm))]), (sl vr 2 R.length (pairs R)), (sl vu 3 rs.length (vtrips (runV lv rs))), (segsR false lv rs), (sl vp 3 plan.length (trips plan))] := hS143; clear hS143 hS140
   refine wl_nil ?_
   refine blk_n ?_
   have hS146 : Sep (fun b => b = bm) w w142 [(obR l40 (.loop (rc42 .busy none))), (marksR (D41 :: [])), G43, (blk bx32 97 [(bptr bj 0)]), (blk b19 4 [(Value.bool false)]), (blk b14 104 (ints ((allowedF R rs).getD q []))), (blk b9 104 (ints ((allowedF R rs).getD q []))), (blk b4 58 [vp]), (rob bj 119 [vr, vu, (Value.map (some bm))]), (sl vr 2 R.length (pairs R)), (sl vu 3 rs.length (vtrips (runV lv rs))), (segsR false lv rs), (sl vp 3 plan.length (trips plan))] := hS145.keep [2, 3, 4, 6, 7, 8, 9, 10, 11, 12, 13, 14, 15] (by decide) _ rfl rfl; clear hS145
   exact re_n ⟨_, rfl, rfl⟩ (((hS146.blk_say (i := 6) rfl (cs' := ints (leastF plan (allowedF R rs) (q + 1))) (congrArg ints (by first | exact (least_a (by assumption)).symm | exact (least_b (by assumption)).symm | exact (least_c (by assumption) (by assumption)).symm))).blk_say (i := 5) rfl (cs' := ints (mostF plan (allowedF R rs) (q + 1))) (congrArg ints (by first | exact (most_a (by assumption)).symm | exact (most_b (by assumption)).symm | exact (most_c (by assumption) (by assumption)).symm))).blk_say (i := 4) rfl (cs' := [Value.bool (decide (q + 1 = 0))]) (by rw [decide_eq_false (Nat.succ_ne_zero q)]))
  ·skip
   have hA147 := hA75.as [(8, (bptr b69 0)), (7, (bptr b48 0)), (6, (bptr b19 0)), (5, (bptr b14 0)), (4, (bptr b9 0)), (3, (bptr b4 0))] rfl; clear hA75
   refine c_drawV mixed hA147 hS74 8 [[], [0], [1], [1, 2], [1], [1], [1, 4, 5], [1, 6]] [(fun (vs148 : Nat → Value) (v_ : Value) (rs_ : List Res) => v_ = (Value.bool false) ∧ rs_ = []), (fun (vs148 : Nat → Value) (v_ : Value) (rs_ : List Res) => v_ = (Value.bool false) ∧ rs_ = []), (fun (vs148 : Nat → Value) (v_ : Value) (rs_ : List Res) => v_ = (bptr b69 0) ∧ rs_ = []), (fun (vs148 : Nat → Value) (v_ : Value) (rs_ : List Res) => v_ = (Value.int .i64 (stLo plan ((allowedF R rs).getD q []))) ∧ rs_ = []), (fun (vs148 : Nat → Value) (v_ : Value) (rs_ : List Res) => v_ = vp ∧ rs_ = []), (fun (vs148 : Nat → Value) (v_ : Value) (rs_ : List Res) => v_ = (Value.agg (ints (leastF plan (allowedF R rs) q)).toArray) ∧ rs_ = []), (fun (vs148 : Nat → Value) (v_ : Value) (rs_ : List Res) => v_ = (Value.agg #[(Value.int .i64 (stLo plan (leastF plan (allowedF R rs) q))), (Value.int .i64 (stHi plan (leastF plan (allowedF R rs) q)))]) ∧ rs_ = []), (fun (vs148 : Nat → Value) (v_ : Value) (rs_ : List Res) => v_ = (Value.int .i64 (stLo plan (leastF plan (allowedF R rs) q))) ∧ rs_ = [])] (by decide +kernel) (by decide +kernel) rfl rfl ⟨(fun _ _ _ _ _ h_ => h_), (fun _ _ _ _ _ h_ => h_), (fun _ _ _ _ _ h_ => h_), (fun _ _ _ _ _ h_ => h_), (fun _ _ _ _ _ h_ => h_), (fun _ _ _ _ _ h_ => h_), (fun _ _ _ _ _ h_ => h_), (fun _ _ _ _ _ h_ => h_), trivial⟩ ?_ ?_
   ·skip
    refine ⟨fun a w vs148 hA hS hd => ?_, ?_⟩
    ·skip
     exact opG_of rfl (vv (op_load1 rfl ty_4 (hA.ev rfl) (hS.bk 6 rfl) rfl) (And.intro (by show Value.bool _ = _; simp only [hb77, decide_true, decide_false, Bool.not_true, Bool.not_false]) rfl))
    refine ⟨fun a w vs148 hA hS hd => ?_, ?_⟩
    ·skip
     obtain ⟨e0, rs0, hy0, hp0⟩ := hd 0 (by decide)
     obtain ⟨hv0, hr0⟩ := hy0; subst hr0
     rw [hv0] at e0
     exact opG_of rfl (vv (op_move rfl (tmp_ev (slot_ev e0 rfl))) (And.intro rfl rfl))
    refine ⟨fun a w vs148 hA hS hd => ?_, ?_⟩
    ·skip
     obtain ⟨e1, rs1, hy1, hp1⟩ := hd 1 (by decide)
     obtain ⟨hv1, hr1⟩ := hy1; subst hr1
     rw [hv1] at e1
     exact opG_yes rfl rfl (slot_ev e1 rfl) (vv (op_field rfl fd_42_0 (hA.ev rfl)) (And.intro rfl rfl))
    refine ⟨fun a w vs148 hA hS hd => ?_, ?_⟩
    ·skip
     obtain ⟨e1, rs1, hy1, hp1⟩ := hd 1 (by decide)
     obtain ⟨hv1, hr1⟩ := hy1; subst hr1
     rw [hv1] at e1
     obtain ⟨e2, rs2, hy2, hp2⟩ := hd 2 (by decide)
     obtain ⟨hv2, hr2⟩ := hy2; subst hr2
     rw [hv2] at e2
     exact opG_yes rfl rfl (slot_ev e1 rfl) (vv (op_load1 rfl ty_3 (tmp_ev (slot_ev e2 rfl)) (hS.bk 0 rfl) rfl) (And.intro rfl rfl))
    refine ⟨fun a w vs148 hA hS hd => ?_, ?_⟩
    ·skip
     obtain ⟨e1, rs1, hy1, hp1⟩ := hd 1 (by decide)
     obtain ⟨hv1, hr1⟩ := hy1; subst hr1
     rw [hv1] at e1
     exact opG_yes rfl rfl (slot_ev e1 rfl) (vv (op_load1 rfl ty_58 (hA.ev rfl) (hS.bk 9 rfl) rfl) (And.intro rfl rfl))
    refine ⟨fun a w vs148 hA hS hd => ?_, ?_⟩
    ·skip
     obtain ⟨e1, rs1, hy1, hp1⟩ := hd 1 (by decide)
     obtain ⟨hv1, hr1⟩ := hy1; subst hr1
     rw [hv1] at e1
     exact opG_yes rfl rfl (slot_ev e1 rfl) (vv (op_loadA rfl ty_104 (hA.ev rfl) (hS.bk 8 rfl) (l := (ints (leastF plan (allowedF R rs) q))) (drop_take_all _ _ (by rw [ints, List.length_map]; exact (least_rates (fun k hk => (allowed_rates hR hk).1) _ (by omega)).1)) (by rw [ints, List.length_map]; exact (least_rates (fun k hk => (allowed_rates hR hk).1) _ (by omega)).1)) (And.intro rfl rfl))
    refine ⟨fun a w vs148 hA hS hd => ?_, ?_⟩
    ·skip
     obtain ⟨e1, rs1, hy1, hp1⟩ := hd 1 (by decide)
     obtain ⟨hv1, hr1⟩ := hy1; subst hr1
     rw [hv1] at e1
     obtain ⟨e4, rs4, hy4, hp4⟩ := hd 4 (by decide)
     obtain ⟨hv4, hr4⟩ := hy4; subst hr4
     rw [hv4] at e4
     obtain ⟨e5, rs5, hy5, hp5⟩ := hd 5 (by decide)
     obtain ⟨hv5, hr5⟩ := hy5; subst hr5
     rw [hv5] at e5
     exact opG_yes rfl rfl (slot_ev e1 rfl) (vx (op_call rfl en_60 (ev2 (tmp_ev (slot_ev e4 rfl)) (tmp_ev (slot_ev e5 rfl))) (stretch_ok plan _ (leastF plan (allowedF R rs) q) R.length _ (by omega) hR.1 (least_rates (fun k hk => (allowed_rates hR hk).1) q (by omega)) hs (hS.sk 14 rfl))) (And.intro rfl rfl))
    refine ⟨fun a w vs148 hA hS hd => ?_, ?_⟩
    ·skip
     obtain ⟨e1, rs1, hy1, hp1⟩ := hd 1 (by decide)
     obtain ⟨hv1, hr1⟩ := hy1; subst hr1
     rw [hv1] at e1
     obtain ⟨e6, rs6, hy6, hp6⟩ := hd 6 (by decide)
     obtain ⟨hv6, hr6⟩ := hy6; subst hr6
     rw [hv6] at e6
     exact opG_yes rfl rfl (slot_ev e1 rfl) (vv (op_fieldV rfl (tmp_ev (slot_ev e6 rfl)) (bd_fv_42_0_i64i64 _ _)) (And.intro rfl rfl))
    trivial
   intro a149 w150 vs148 rsf154 hA151 hH153 hS152; clear hA147 hS74
   obtain ⟨hs_0, hy_0⟩ := hH153 0 (by decide)
   obtain ⟨hv_0, hr_0⟩ := hy_0
   obtain ⟨hs_1, hy_1⟩ := hH153 1 (by decide)
   obtain ⟨hv_1, hr_1⟩ := hy_1
   obtain ⟨hs_2, hy_2⟩ := hH153 2 (by decide)
   obtain ⟨hv_2, hr_2⟩ := hy_2
   obtain ⟨hs_3, hy_3⟩ := hH153 3 (by decide)
   obtain ⟨hv_3, hr_3⟩ := hy_3
   obtain ⟨hs_4, hy_4⟩ := hH153 4 (by decide)
   obtain ⟨hv_4, hr_4⟩ := hy_4
   obtain ⟨hs_5, hy_5⟩ := hH153 5 (by decide)
   obtain ⟨hv_5, hr_5⟩ := hy_5
   obtain ⟨hs_6, hy_6⟩ := hH153 6 (by decide)
   obtain ⟨hv_6, hr_6⟩ := hy_6
   obtain ⟨hs_7, hy_7⟩ := hH153 7 (by decide)
   obtain ⟨hv_7, hr_7⟩ := hy_7
   have hS155 : Sep (fun b => b = bm) w w150 [(blk b69 42 [(Value.int .i64 (stLo plan ((allowedF R rs).getD q []))), (Value.int .i64 (stHi plan ((allowedF R rs).getD q [])))]), (obR l40 (.loop (rc42 .busy none))), (marksR (D41 :: [])), G43, (blk b48 104 (ints ((allowedF R rs).getD q []))), (blk bx32 97 [(bptr bj 0)]), (blk b19 4 [(Value.bool (decide (q = 0)))]), (blk b14 104 (ints (mostF plan (allowedF R rs) q))), (blk b9 104 (ints (leastF plan (allowedF R rs) q))), (blk b4 58 [vp]), (rob bj 119 [vr, vu, (Value.map (some bm))]), (sl vr 2 R.length (pairs R)), (sl vu 3 rs.length (vtrips (runV lv rs))), (segsR false lv rs), (sl vp 3 plan.length (trips plan))] := by rw [show catR rsf154 0 8 = ([] : List Res) by (try simp only [catR, hr_0, hr_1, hr_2, hr_3, hr_4, hr_5, hr_6, hr_7]); (try rfl)] at hS152; exact hS152
   rw [hv_1] at hs_1
   have hA156 : Fr 43 [] [(17, (Value.bool false)), (8, (bptr b69 0)), (7, (bptr b48 0)), (6, (bptr b19 0)), (5, (bptr b14 0)), (4, (bptr b9 0)), (3, (bptr b4 0))] a149 := hA151.add (slot_ev hs_1 rfl); clear hA151
   rw [hv_3] at hs_3
   have hA157 : Fr 43 [] [(19, (Value.int .i64 (stLo plan ((allowedF R rs).getD q [])))), (17, (Value.bool false)), (8, (bptr b69 0)), (7, (bptr b48 0)), (6, (bptr b19 0)), (5, (bptr b14 0)), (4, (bptr b9 0)), (3, (bptr b4 0))] a149 := hA156.add (slot_ev hs_3 rfl); clear hA156
   rw [hv_7] at hs_7
   have hA158 : Fr 43 [] [(23, (Value.int .i64 (stLo plan (leastF plan (allowedF R rs) q)))), (19, (Value.int .i64 (stLo plan ((allowedF R rs).getD q [])))), (17, (Value.bool false)), (8, (bptr b69 0)), (7, (bptr b48 0)), (6, (bptr b19 0)), (5, (bptr b14 0)), (4, (bptr b9 0)), (3, (bptr b4 0))] a149 := hA157.add (slot_ev hs_7 rfl); clear hA157
   clear hH153 hS152 hs_0 hs_1 hs_2 hs_3 hs_4 hs_5 hs_6 hs_7
   clear hr_0
   clear hv_0
   clear hr_1
   clear hv_1
   clear hr_2
   clear hv_2
   clear hr_3
   clear hv_3
   clear hr_4
   clear hv_4
   clear hr_5
   clear hv_5
   clear hr_6
   clear hv_6
   clear hr_7
   clear hv_7
   refine stg hA158 (op_lss rfl (hA158.ev rfl) (hA158.ev rfl)) rfl rfl rfl rfl (by decide) fun a159 hA160 => ?_; clear hA158 a149
   refine st hA160 (op_pick_f rfl (hA160.ev rfl) (hA160.ev rfl)) rfl rfl (by decide) fun a161 hA162 => ?_; clear hA160 a159
   refine wl_nil ?_
   refine then_n ?_
   by_cases hb163 : (stLo plan ((allowedF R rs).getD q [])) < (stLo plan (leastF plan (allowedF R rs) q))
   ·skip
    rw [decide_eq_true hb163] at hA162
    refine c_true hA162 rfl ?_
    have hA164 := hA162.as [(7, (bptr b48 0)), (6, (bptr b19 0)), (5, (bptr b14 0)), (4, (bptr b9 0)), (3, (bptr b4 0))] rfl; clear hA162
    refine c_region ?_
    refine st hA164 (op_loadA rfl ty_104 (hA164.ev rfl) (hS155.bk 4 rfl) (l := (ints ((allowedF R rs).getD q []))) (drop_take_all _ _ (allowed_len3 hR hq).symm) (allowed_len3 hR hq).symm) rfl rfl (by decide) fun a165 hA166 => ?_; clear hA164 a161
    refine sts hA166 (op_store hS155 rfl ty_104 (hA166.ev rfl) (hA166.ev rfl) (i := 8) rfl (vs := (ints ((allowedF R rs).getD q []))) rfl (allowed_len3 hR hq).symm (ints_one _) (by first | (simp only [ints, List.length_map, List.length_set]; omega) | (have h2_ := (show (ints (leastF plan (allowedF R rs) q)).length = 3 from (by rw [ints, List.length_map]; exact (least_rates (fun k hk => (allowed_rates hR hk).1) _ (by omega)).1)); omega))) rfl rfl ?_
    intro _ w167 hS168 hA170; have hS169 := hS168.blk_say (i := 8) rfl (cs' := (ints ((allowedF R rs).getD q []))) (setFrom_all _ _ (by first | (simp only [ints, List.length_map, List.length_set]; omega) | (have h1_ := (show (ints ((allowedF R rs).getD q [])).length = 3 from (allowed_len3 hR hq).symm); have h2_ := (show (ints (leastF plan (allowedF R rs) q)).length = 3 from (by rw [ints, List.length_map]; exact (least_rates (fun k hk => (allowed_rates hR hk).1) _ (by omega)).1)); omega))); clear hS168 hA166 hS155
    refine wl_nil ?_
    refine then_n ?_
    refine c_seq ?_
    refine c_seq ?_
    refine c_region ?_
    refine st hA170 (op_load1 rfl ty_58 (hA170.ev rfl) (hS169.bk 9 rfl) rfl) rfl rfl (by decide) fun a171 hA172 => ?_; clear hA170 a165
    refine st hA172 (op_loadA rfl ty_104 (hA172.ev rfl) (hS169.bk 4 rfl) (l := (ints ((allowedF R rs).getD q []))) (drop_take_all _ _ (allowed_len3 hR hq).symm) (allowed_len3 hR hq).symm) rfl rfl (by decide) fun a173 hA174 => ?_; clear hA172 a171
    refine stw hA174 (op_call rfl en_60 (ev2 (hA174.ev rfl) (hA174.ev rfl)) (stretch_ok plan _ ((allowedF R rs).getD q []) R.length _ (by omega) hR.1 (allowed_rates hR hq).1 hs (hS169.sk 14 rfl))) rfl rfl (by decide) ?_
    rintro a175 _ w177 ⟨rfl, hE178⟩ hA176; have hS179 := hS169.step hE178; clear hE178 hA174 hS169 a173
    refine stw hA176 (op_alloc hS179 rfl ze_42 (cs := [(Value.int .i64 0), (Value.int .i64 0)]) rfl) rfl rfl (by decide) ?_
    rintro a180 _ w182 ⟨b183, rfl, hS184⟩ hA181; clear hA176 hS179 a175
    refine sts hA181 (op_store hS184 rfl ty_42 (hA181.ev rfl) (hA181.ev rfl) (i := 0) rfl (vs := [(Value.int .i64 (stLo plan ((allowedF R rs).getD q []))), (Value.int .i64 (stHi plan ((allowedF R rs).getD q [])))]) rfl rfl rfl (Nat.le_of_ble_eq_true rfl)) rfl rfl ?_
    intro _ w185 hS186 hA187; clear hA181
    have hS188 : Sep (fun b => b = bm) w w185 [(blk b183 42 [(Value.int .i64 (stLo plan ((allowedF R rs).getD q []))), (Value.int .i64 (stHi plan ((allowedF R rs).getD q [])))]), (blk b69 42 [(Value.int .i64 (stLo plan ((allowedF R rs).getD q []))), (Value.int .i64 (stHi plan ((allowedF R rs).getD q [])))]), (obR l40 (.loop (rc42 .busy none))), (marksR (D41 :: [])), G43, (blk b48 104 (ints ((allowedF R rs).getD q []))), (blk bx32 97 [(bptr bj 0)]), (blk b19 4 [(Value.bool (decide (q = 0)))]), (blk b14 104 (ints (mostF plan (allowedF R rs) q))), (blk b9 104 (ints ((allowedF R rs).getD q []))), (blk b4 58 [vp]), (rob bj 119 [vr, vu, (Value.map (some bm))]), (sl vr 2 R.length (pairs R)), (sl vu 3 rs.length (vtrips (runV lv rs))), (segsR false lv rs), (sl vp 3 plan.length (trips plan))] := hS186; clear hS186 hS184
    refine wl_nil ?_
    refine then_n ?_
    refine c_seq ?_
    have hA189 := hA187.as [(9, (bptr b183 0)), (7, (bptr b48 0)), (6, (bptr b19 0)), (5, (bptr b14 0)), (3, (bptr b4 0))] rfl; clear hA187
    refine c_drawV mixed hA189 hS188 8 [[], [0], [1], [1, 2], [1], [1], [1, 4, 5], [1, 6]] [(fun (vs190 : Nat → Value) (v_ : Value) (rs_ : List Res) => v_ = (Value.bool false) ∧ rs_ = []), (fun (vs190 : Nat → Value) (v_ : Value) (rs_ : List Res) => v_ = (Value.bool false) ∧ rs_ = []), (fun (vs190 : Nat → Value) (v_ : Value) (rs_ : List Res) => v_ = (bptr b183 1) ∧ rs_ = []), (fun (vs190 : Nat → Value) (v_ : Value) (rs_ : List Res) => v_ = (Value.int .i64 (stHi plan ((allowedF R rs).getD q []))) ∧ rs_ = []), (fun (vs190 : Nat → Value) (v_ : Value) (rs_ : List Res) => v_ = vp ∧ rs_ = []), (fun (vs190 : Nat → Value) (v_ : Value) (rs_ : List Res) => v_ = (Value.agg (ints (mostF plan (allowedF R rs) q)).toArray) ∧ rs_ = []), (fun (vs190 : Nat → Value) (v_ : Value) (rs_ : List Res) => v_ = (Value.agg #[(Value.int .i64 (stLo plan (mostF plan (allowedF R rs) q))), (Value.int .i64 (stHi plan (mostF plan (allowedF R rs) q)))]) ∧ rs_ = []), (fun (vs190 : Nat → Value) (v_ : Value) (rs_ : List Res) => v_ = (Value.int .i64 (stHi plan (mostF plan (allowedF R rs) q))) ∧ rs_ = [])] (by decide +kernel) (by decide +kernel) rfl rfl ⟨(fun _ _ _ _ _ h_ => h_), (fun _ _ _ _ _ h_ => h_), (fun _ _ _ _ _ h_ => h_), (fun _ _ _ _ _ h_ => h_), (fun _ _ _ _ _ h_ => h_), (fun _ _ _ _ _ h_ => h_), (fun _ _ _ _ _ h_ => h_), (fun _ _ _ _ _ h_ => h_), trivial⟩ ?_ ?_
    ·skip
     refine ⟨fun a w vs190 hA hS hd => ?_, ?_⟩
     ·skip
      exact opG_of rfl (vv (op_load1 rfl ty_4 (hA.ev rfl) (hS.bk 7 rfl) rfl) (And.intro (by show Value.bool _ = _; simp only [hb77, decide_true, decide_false, Bool.not_true, Bool.not_false]) rfl))
     refine ⟨fun a w vs190 hA hS hd => ?_, ?_⟩
     ·skip
      obtain ⟨e0, rs0, hy0, hp0⟩ := hd 0 (by decide)
      obtain ⟨hv0, hr0⟩ := hy0; subst hr0
      rw [hv0] at e0
      exact opG_of rfl (vv (op_move rfl (tmp_ev (slot_ev e0 rfl))) (And.intro rfl rfl))
     refine ⟨fun a w vs190 hA hS hd => ?_, ?_⟩
     ·skip
      obtain ⟨e1, rs1, hy1, hp1⟩ := hd 1 (by decide)
      obtain ⟨hv1, hr1⟩ := hy1; subst hr1
      rw [hv1] at e1
      exact opG_yes rfl rfl (slot_ev e1 rfl) (vv (op_field rfl fd_42_1 (hA.ev rfl)) (And.intro rfl rfl))
     refine ⟨fun a w vs190 hA hS hd => ?_, ?_⟩
     ·skip
      obtain ⟨e1, rs1, hy1, hp1⟩ := hd 1 (by decide)
      obtain ⟨hv1, hr1⟩ := hy1; subst hr1
      rw [hv1] at e1
      obtain ⟨e2, rs2, hy2, hp2⟩ := hd 2 (by decide)
      obtain ⟨hv2, hr2⟩ := hy2; subst hr2
      rw [hv2] at e2
      exact opG_yes rfl rfl (slot_ev e1 rfl) (vv (op_load1 rfl ty_3 (tmp_ev (slot_ev e2 rfl)) (hS.bk 0 rfl) rfl) (And.intro rfl rfl))
     refine ⟨fun a w vs190 hA hS hd => ?_, ?_⟩
     ·skip
      obtain ⟨e1, rs1, hy1, hp1⟩ := hd 1 (by decide)
      obtain ⟨hv1, hr1⟩ := hy1; subst hr1
      rw [hv1] at e1
      exact opG_yes rfl rfl (slot_ev e1 rfl) (vv (op_load1 rfl ty_58 (hA.ev rfl) (hS.bk 10 rfl) rfl) (And.intro rfl rfl))
     refine ⟨fun a w vs190 hA hS hd => ?_, ?_⟩
     ·skip
      obtain ⟨e1, rs1, hy1, hp1⟩ := hd 1 (by decide)
      obtain ⟨hv1, hr1⟩ := hy1; subst hr1
      rw [hv1] at e1
      exact opG_yes rfl rfl (slot_ev e1 rfl) (vv (op_loadA rfl ty_104 (hA.ev rfl) (hS.bk 8 rfl) (l := (ints (mostF plan (allowedF R rs) q))) (drop_take_all _ _ (by rw [ints, List.length_map]; exact (most_rates (fun k hk => (allowed_rates hR hk).1) _ (by omega)).1)) (by rw [ints, List.length_map]; exact (most_rates (fun k hk => (allowed_rates hR hk).1) _ (by omega)).1)) (And.intro rfl rfl))
     refine ⟨fun a w vs190 hA hS hd => ?_, ?_⟩
     ·skip
      obtain ⟨e1, rs1, hy1, hp1⟩ := hd 1 (by decide)
      obtain ⟨hv1, hr1⟩ := hy1; subst hr1
      rw [hv1] at e1
      obtain ⟨e4, rs4, hy4, hp4⟩ := hd 4 (by decide)
      obtain ⟨hv4, hr4⟩ := hy4; subst hr4
      rw [hv4] at e4
      obtain ⟨e5, rs5, hy5, hp5⟩ := hd 5 (by decide)
      obtain ⟨hv5, hr5⟩ := hy5; subst hr5
      rw [hv5] at e5
      exact opG_yes rfl rfl (slot_ev e1 rfl) (vx (op_call rfl en_60 (ev2 (tmp_ev (slot_ev e4 rfl)) (tmp_ev (slot_ev e5 rfl))) (stretch_ok plan _ (mostF plan (allowedF R rs) q) R.length _ (by omega) hR.1 (most_rates (fun k hk => (allowed_rates hR hk).1) q (by omega)) hs (hS.sk 15 rfl))) (And.intro rfl rfl))
     refine ⟨fun a w vs190 hA hS hd => ?_, ?_⟩
     ·skip
      obtain ⟨e1, rs1, hy1, hp1⟩ := hd 1 (by decide)
      obtain ⟨hv1, hr1⟩ := hy1; subst hr1
      rw [hv1] at e1
      obtain ⟨e6, rs6, hy6, hp6⟩ := hd 6 (by decide)
      obtain ⟨hv6, hr6⟩ := hy6; subst hr6
      rw [hv6] at e6
      exact opG_yes rfl rfl (slot_ev e1 rfl) (vv (op_fieldV rfl (tmp_ev (slot_ev e6 rfl)) (bd_fv_42_1_i64i64 _ _)) (And.intro rfl rfl))
     trivial
    intro a191 w192 vs190 rsf196 hA193 hH195 hS194; clear hA189 hS188
    obtain ⟨hs_0, hy_0⟩ := hH195 0 (by decide)
    obtain ⟨hv_0, hr_0⟩ := hy_0
    obtain ⟨hs_1, hy_1⟩ := hH195 1 (by decide)
    obtain ⟨hv_1, hr_1⟩ := hy_1
    obtain ⟨hs_2, hy_2⟩ := hH195 2 (by decide)
    obtain ⟨hv_2, hr_2⟩ := hy_2
    obtain ⟨hs_3, hy_3⟩ := hH195 3 (by decide)
    obtain ⟨hv_3, hr_3⟩ := hy_3
    obtain ⟨hs_4, hy_4⟩ := hH195 4 (by decide)
    obtain ⟨hv_4, hr_4⟩ := hy_4
    obtain ⟨hs_5, hy_5⟩ := hH195 5 (by decide)
    obtain ⟨hv_5, hr_5⟩ := hy_5
    obtain ⟨hs_6, hy_6⟩ := hH195 6 (by decide)
    obtain ⟨hv_6, hr_6⟩ := hy_6
    obtain ⟨hs_7, hy_7⟩ := hH195 7 (by decide)
    obtain ⟨hv_7, hr_7⟩ := hy_7
    have hS197 : Sep (fun b => b = bm) w w192 [(blk b183 42 [(Value.int .i64 (stLo plan ((allowedF R rs).getD q []))), (Value.int .i64 (stHi plan ((allowedF R rs).getD q [])))]), (blk b69 42 [(Value.int .i64 (stLo plan ((allowedF R rs).getD q []))), (Value.int .i64 (stHi plan ((allowedF R rs).getD q [])))]), (obR l40 (.loop (rc42 .busy none))), (marksR (D41 :: [])), G43, (blk b48 104 (ints ((allowedF R rs).getD q []))), (blk bx32 97 [(bptr bj 0)]), (blk b19 4 [(Value.bool (decide (q = 0)))]), (blk b14 104 (ints (mostF plan (allowedF R rs) q))), (blk b9 104 (ints ((allowedF R rs).getD q []))), (blk b4 58 [vp]), (rob bj 119 [vr, vu, (Value.map (some bm))]), (sl vr 2 R.length (pairs R)), (sl vu 3 rs.length (vtrips (runV lv rs))), (segsR false lv rs), (sl vp 3 plan.length (trips plan))] := by rw [show catR rsf196 0 8 = ([] : List Res) by (try simp only [catR, hr_0, hr_1, hr_2, hr_3, hr_4, hr_5, hr_6, hr_7]); (try rfl)] at hS194; exact hS194
    rw [hv_1] at hs_1
    have hA198 : Fr 43 [] [(31, (Value.bool false)), (9, (bptr b183 0)), (7, (bptr b48 0)), (6, (bptr b19 0)), (5, (bptr b14 0)), (3, (bptr b4 0))] a191 := hA193.add (slot_ev hs_1 rfl); clear hA193
    rw [hv_3] at hs_3
    have hA199 : Fr 43 [] [(33, (Value.int .i64 (stHi plan ((allowedF R rs).getD q [])))), (31, (Value.bool false)), (9, (bptr b183 0)), (7, (bptr b48 0)), (6, (bptr b19 0)), (5, (bptr b14 0)), (3, (bptr b4 0))] a191 := hA198.add (slot_ev hs_3 rfl); clear hA198
    rw [hv_7] at hs_7
    have hA200 : Fr 43 [] [(37, (Value.int .i64 (stHi plan (mostF plan (allowedF R rs) q)))), (33, (Value.int .i64 (stHi plan ((allowedF R rs).getD q [])))), (31, (Value.bool false)), (9, (bptr b183 0)), (7, (bptr b48 0)), (6, (bptr b19 0)), (5, (bptr b14 0)), (3, (bptr b4 0))] a191 := hA199.add (slot_ev hs_7 rfl); clear hA199
    clear hH195 hS194 hs_0 hs_1 hs_2 hs_3 hs_4 hs_5 hs_6 hs_7
    clear hr_0
    clear hv_0
    clear hr_1
    clear hv_1
    clear hr_2
    clear hv_2
    clear hr_3
    clear hv_3
    clear hr_4
    clear hv_4
    clear hr_5
    clear hv_5
    clear hr_6
    clear hv_6
    clear hr_7
    clear hv_7
    refine stg hA200 (op_gtr rfl (hA200.ev rfl) (hA200.ev rfl)) rfl rfl rfl rfl (by decide) fun a201 hA202 => ?_; clear hA200 a191
    refine st hA202 (op_pick_f rfl (hA202.ev rfl) (hA202.ev rfl)) rfl rfl (by decide) fun a203 hA204 => ?_; clear hA202 a201
    refine wl_nil ?_
    refine then_n ?_
    by_cases hb205 : (stHi plan (mostF plan (allowedF R rs) q)) < (stHi plan ((allowedF R rs).getD q []))
    ·skip
     rw [decide_eq_true hb205] at hA204
     refine c_true hA204 rfl ?_
     have hA206 := hA204.as [(7, (bptr b48 0)), (6, (bptr b19 0)), (5, (bptr b14 0))] rfl; clear hA204
     refine c_region ?_
     refine st hA206 (op_loadA rfl ty_104 (hA206.ev rfl) (hS197.bk 5 rfl) (l := (ints ((allowedF R rs).getD q []))) (drop_take_all _ _ (allowed_len3 hR hq).symm) (allowed_len3 hR hq).symm) rfl rfl (by decide) fun a207 hA208 => ?_; clear hA206 a203
     refine sts hA208 (op_store hS197 rfl ty_104 (hA208.ev rfl) (hA208.ev rfl) (i := 8) rfl (vs := (ints ((allowedF R rs).getD q []))) rfl (allowed_len3 hR hq).symm (ints_one _) (by first | (simp only [ints, List.length_map, List.length_set]; omega) | (have h2_ := (show (ints (mostF plan (allowedF R rs) q)).length = 3 from (by rw [ints, List.length_map]; exact (most_rates (fun k hk => (allowed_rates hR hk).1) _ (by omega)).1)); omega))) rfl rfl ?_
     intro _ w209 hS210 hA212; have hS211 := hS210.blk_say (i := 8) rfl (cs' := (ints ((allowedF R rs).getD q []))) (setFrom_all _ _ (by first | (simp only [ints, List.length_map, List.length_set]; omega) | (have h1_ := (show (ints ((allowedF R rs).getD q [])).length = 3 from (allowed_len3 hR hq).symm); have h2_ := (show (ints (mostF plan (allowedF R rs) q)).length = 3 from (by rw [ints, List.length_map]; exact (most_rates (fun k hk => (allowed_rates hR hk).1) _ (by omega)).1)); omega))); clear hS210 hA208 hS197
     refine wl_nil ?_
     refine then_n ?_
     refine c_region ?_
     refine sts hA212 (op_store hS211 rfl ty_4 (hA212.ev rfl) (evc _ _) (i := 7) rfl (vs := [(Value.bool false)]) rfl rfl rfl (Nat.le_of_ble_eq_true rfl)) rfl rfl ?_
     intro _ w213 hS214 hA215; clear hA212
     have hS216 : Sep (fun b => b = bm) w w213 [(blk b183 42 [(Value.int .i64 (stLo plan ((allowedF R rs).getD q []))), (Value.int .i64 (stHi plan ((allowedF R rs).getD q [])))]), (blk b69 42 [(Value.int .i64 (stLo plan ((allowedF R rs).getD q []))), (Value.int .i64 (stHi plan ((allowedF R rs).getD q [])))]), (obR l40 (.loop (rc42 .busy none))), (marksR (D41 :: [])), G43, (blk b48 104 (ints ((allowedF R rs).getD q []))), (blk bx32 97 [(bptr bj 0)]), (blk b19 4 [(Value.bool false)]), (blk b14 104 (ints ((allowedF R rs).getD q []))), (blk b9 104 (ints ((allowedF R rs).getD q []))), (blk b4 58 [vp]), (rob bj 119 [vr, vu, (Value.map (some bm))]), (sl vr 2 R.length (pairs R)), (sl vu 3 rs.length (vtrips (runV lv rs))), (segsR false lv rs), (sl vp 3 plan.length (trips plan))] := hS214; clear hS214 hS211
     refine wl_nil ?_
     refine blk_n ?_
     have hS217 : Sep (fun b => b = bm) w w213 [(obR l40 (.loop (rc42 .busy none))), (marksR (D41 :: [])), G43, (blk bx32 97 [(bptr bj 0)]), (blk b19 4 [(Value.bool false)]), (blk b14 104 (ints ((allowedF R rs).getD q []))), (blk b9 104 (ints ((allowedF R rs).getD q []))), (blk b4 58 [vp]), (rob bj 119 [vr, vu, (Value.map (some bm))]), (sl vr 2 R.length (pairs R)), (sl vu 3 rs.length (vtrips (runV lv rs))), (segsR false lv rs), (sl vp 3 plan.length (trips plan))] := hS216.keep [2, 3, 4, 6, 7, 8, 9, 10, 11, 12, 13, 14, 15] (by decide) _ rfl rfl; clear hS216
     exact re_n ⟨_, rfl, rfl⟩ (((hS217.blk_say (i := 6) rfl (cs' := ints (leastF plan (allowedF R rs) (q + 1))) (congrArg ints (by first | exact (least_a (by assumption)).symm | exact (least_b (by assumption)).symm | exact (least_c (by assumption) (by assumption)).symm))).blk_say (i := 5) rfl (cs' := ints (mostF plan (allowedF R rs) (q + 1))) (congrArg ints (by first | exact (most_a (by assumption)).symm | exact (most_b (by assumption)).symm | exact (most_c (by assumption) (by assumption)).symm))).blk_say (i := 4) rfl (cs' := [Value.bool (decide (q + 1 = 0))]) (by rw [decide_eq_false (Nat.succ_ne_zero q)]))
    ·skip
     rw [decide_eq_false hb205] at hA204
     refine c_false hA204 rfl ?_
     refine c_skip ?_
     refine then_n ?_
     have hA218 := hA204.as [(6, (bptr b19 0))] rfl; clear hA204
     refine c_region ?_
     refine sts hA218 (op_store hS197 rfl ty_4 (hA218.ev rfl) (evc _ _) (i := 7) rfl (vs := [(Value.bool false)]) rfl rfl rfl (Nat.le_of_ble_eq_true rfl)) rfl rfl ?_
     intro _ w219 hS220 hA221; clear hA218
     have hS222 : Sep (fun b => b = bm) w w219 [(blk b183 42 [(Value.int .i64 (stLo plan ((allowedF R rs).getD q []))), (Value.int .i64 (stHi plan ((allowedF R rs).getD q [])))]), (blk b69 42 [(Value.int .i64 (stLo plan ((allowedF R rs).getD q []))), (Value.int .i64 (stHi plan ((allowedF R rs).getD q [])))]), (obR l40 (.loop (rc42 .busy none))), (marksR (D41 :: [])), G43, (blk b48 104 (ints ((allowedF R rs).getD q []))), (blk bx32 97 [(bptr bj 0)]), (blk b19 4 [(Value.bool false)]), (blk b14 104 (ints (mostF plan (allowedF R rs) q))), (blk b9 104 (ints ((allowedF R rs).getD q []))), (blk b4 58 [vp]), (rob bj 119 [vr, vu, (Value.map (some bm))]), (sl vr 2 R.length (pairs R)), (sl vu 3 rs.length (vtrips (runV lv rs))), (segsR false lv rs), (sl vp 3 plan.length (trips plan))] := hS220; clear hS220 hS197
     refine wl_nil ?_
     refine blk_n ?_
     have hS223 : Sep (fun b => b = bm) w w219 [(obR l40 (.loop (rc42 .busy none))), (marksR (D41 :: [])), G43, (blk bx32 97 [(bptr bj 0)]), (blk b19 4 [(Value.bool false)]), (blk b14 104 (ints (mostF plan (allowedF R rs) q))), (blk b9 104 (ints ((allowedF R rs).getD q []))), (blk b4 58 [vp]), (rob bj 119 [vr, vu, (Value.map (some bm))]), (sl vr 2 R.length (pairs R)), (sl vu 3 rs.length (vtrips (runV lv rs))), (segsR false lv rs), (sl vp 3 plan.length (trips plan))] := hS222.keep [2, 3, 4, 6, 7, 8, 9, 10, 11, 12, 13, 14, 15] (by decide) _ rfl rfl; clear hS222
     exact re_n ⟨_, rfl, rfl⟩ (((hS223.blk_say (i := 6) rfl (cs' := ints (leastF plan (allowedF R rs) (q + 1))) (congrArg ints (by first | exact (least_a (by assumption)).symm | exact (least_b (by assumption)).symm | exact (least_c (by assumption) (by assumption)).symm))).blk_say (i := 5) rfl (cs' := ints (mostF plan (allowedF R rs) (q + 1))) (congrArg ints (by first | exact (most_a (by assumption)).symm | exact (most_b (by assumption)).symm | exact (most_c (by assumption) (by assumption)).symm))).blk_say (i := 4) rfl (cs' := [Value.bool (decide (q + 1 = 0))]) (by rw [decide_eq_false (Nat.succ_ne_zero q)]))
   ·skip
    rw [decide_eq_false hb163] at hA162
    refine c_false hA162 rfl ?_
    refine c_skip ?_
    refine then_n ?_
    refine c_seq ?_
    refine c_seq ?_
    have hA224 := hA162.as [(7, (bptr b48 0)), (6, (bptr b19 0)), (5, (bptr b14 0)), (3, (bptr b4 0))] rfl; clear hA162
    refine c_region ?_
    refine st hA224 (op_load1 rfl ty_58 (hA224.ev rfl) (hS155.bk 9 rfl) rfl) rfl rfl (by decide) fun a225 hA226 => ?_; clear hA224 a161
    refine st hA226 (op_loadA rfl ty_104 (hA226.ev rfl) (hS155.bk 4 rfl) (l := (ints ((allowedF R rs).getD q []))) (drop_take_all _ _ (allowed_len3 hR hq).symm) (allowed_len3 hR hq).symm) rfl rfl (by decide) fun a227 hA228 => ?_; clear hA226 a225
    refine stw hA228 (op_call rfl en_60 (ev2 (hA228.ev rfl) (hA228.ev rfl)) (stretch_ok plan _ ((allowedF R rs).getD q []) R.length _ (by omega) hR.1 (allowed_rates hR hq).1 hs (hS155.sk 14 rfl))) rfl rfl (by decide) ?_
    rintro a229 _ w231 ⟨rfl, hE232⟩ hA230; have hS233 := hS155.step hE232; clear hE232 hA228 hS155 a227
    refine stw hA230 (op_alloc hS233 rfl ze_42 (cs := [(Value.int .i64 0), (Value.int .i64 0)]) rfl) rfl rfl (by decide) ?_
    rintro a234 _ w236 ⟨b237, rfl, hS238⟩ hA235; clear hA230 hS233 a229
    refine sts hA235 (op_store hS238 rfl ty_42 (hA235.ev rfl) (hA235.ev rfl) (i := 0) rfl (vs := [(Value.int .i64 (stLo plan ((allowedF R rs).getD q []))), (Value.int .i64 (stHi plan ((allowedF R rs).getD q [])))]) rfl rfl rfl (Nat.le_of_ble_eq_true rfl)) rfl rfl ?_
    intro _ w239 hS240 hA241; clear hA235
    have hS242 : Sep (fun b => b = bm) w w239 [(blk b237 42 [(Value.int .i64 (stLo plan ((allowedF R rs).getD q []))), (Value.int .i64 (stHi plan ((allowedF R rs).getD q [])))]), (blk b69 42 [(Value.int .i64 (stLo plan ((allowedF R rs).getD q []))), (Value.int .i64 (stHi plan ((allowedF R rs).getD q [])))]), (obR l40 (.loop (rc42 .busy none))), (marksR (D41 :: [])), G43, (blk b48 104 (ints ((allowedF R rs).getD q []))), (blk bx32 97 [(bptr bj 0)]), (blk b19 4 [(Value.bool (decide (q = 0)))]), (blk b14 104 (ints (mostF plan (allowedF R rs) q))), (blk b9 104 (ints (leastF plan (allowedF R rs) q))), (blk b4 58 [vp]), (rob bj 119 [vr, vu, (Value.map (some bm))]), (sl vr 2 R.length (pairs R)), (sl vu 3 rs.length (vtrips (runV lv rs))), (segsR false lv rs), (sl vp 3 plan.length (trips plan))] := hS240; clear hS240 hS238
    refine wl_nil ?_
    refine then_n ?_
    refine c_seq ?_
    have hA243 := hA241.as [(9, (bptr b237 0)), (7, (bptr b48 0)), (6, (bptr b19 0)), (5, (bptr b14 0)), (3, (bptr b4 0))] rfl; clear hA241
    refine c_drawV mixed hA243 hS242 8 [[], [0], [1], [1, 2], [1], [1], [1, 4, 5], [1, 6]] [(fun (vs244 : Nat → Value) (v_ : Value) (rs_ : List Res) => v_ = (Value.bool false) ∧ rs_ = []), (fun (vs244 : Nat → Value) (v_ : Value) (rs_ : List Res) => v_ = (Value.bool false) ∧ rs_ = []), (fun (vs244 : Nat → Value) (v_ : Value) (rs_ : List Res) => v_ = (bptr b237 1) ∧ rs_ = []), (fun (vs244 : Nat → Value) (v_ : Value) (rs_ : List Res) => v_ = (Value.int .i64 (stHi plan ((allowedF R rs).getD q []))) ∧ rs_ = []), (fun (vs244 : Nat → Value) (v_ : Value) (rs_ : List Res) => v_ = vp ∧ rs_ = []), (fun (vs244 : Nat → Value) (v_ : Value) (rs_ : List Res) => v_ = (Value.agg (ints (mostF plan (allowedF R rs) q)).toArray) ∧ rs_ = []), (fun (vs244 : Nat → Value) (v_ : Value) (rs_ : List Res) => v_ = (Value.agg #[(Value.int .i64 (stLo plan (mostF plan (allowedF R rs) q))), (Value.int .i64 (stHi plan (mostF plan (allowedF R rs) q)))]) ∧ rs_ = []), (fun (vs244 : Nat → Value) (v_ : Value) (rs_ : List Res) => v_ = (Value.int .i64 (stHi plan (mostF plan (allowedF R rs) q))) ∧ rs_ = [])] (by decide +kernel) (by decide +kernel) rfl rfl ⟨(fun _ _ _ _ _ h_ => h_), (fun _ _ _ _ _ h_ => h_), (fun _ _ _ _ _ h_ => h_), (fun _ _ _ _ _ h_ => h_), (fun _ _ _ _ _ h_ => h_), (fun _ _ _ _ _ h_ => h_), (fun _ _ _ _ _ h_ => h_), (fun _ _ _ _ _ h_ => h_), trivial⟩ ?_ ?_
    ·skip
     refine ⟨fun a w vs244 hA hS hd => ?_, ?_⟩
     ·skip
      exact opG_of rfl (vv (op_load1 rfl ty_4 (hA.ev rfl) (hS.bk 7 rfl) rfl) (And.intro (by show Value.bool _ = _; simp only [hb77, decide_true, decide_false, Bool.not_true, Bool.not_false]) rfl))
     refine ⟨fun a w vs244 hA hS hd => ?_, ?_⟩
     ·skip
      obtain ⟨e0, rs0, hy0, hp0⟩ := hd 0 (by decide)
      obtain ⟨hv0, hr0⟩ := hy0; subst hr0
      rw [hv0] at e0
      exact opG_of rfl (vv (op_move rfl (tmp_ev (slot_ev e0 rfl))) (And.intro rfl rfl))
     refine ⟨fun a w vs244 hA hS hd => ?_, ?_⟩
     ·skip
      obtain ⟨e1, rs1, hy1, hp1⟩ := hd 1 (by decide)
      obtain ⟨hv1, hr1⟩ := hy1; subst hr1
      rw [hv1] at e1
      exact opG_yes rfl rfl (slot_ev e1 rfl) (vv (op_field rfl fd_42_1 (hA.ev rfl)) (And.intro rfl rfl))
     refine ⟨fun a w vs244 hA hS hd => ?_, ?_⟩
     ·skip
      obtain ⟨e1, rs1, hy1, hp1⟩ := hd 1 (by decide)
      obtain ⟨hv1, hr1⟩ := hy1; subst hr1
      rw [hv1] at e1
      obtain ⟨e2, rs2, hy2, hp2⟩ := hd 2 (by decide)
      obtain ⟨hv2, hr2⟩ := hy2; subst hr2
      rw [hv2] at e2
      exact opG_yes rfl rfl (slot_ev e1 rfl) (vv (op_load1 rfl ty_3 (tmp_ev (slot_ev e2 rfl)) (hS.bk 0 rfl) rfl) (And.intro rfl rfl))
     refine ⟨fun a w vs244 hA hS hd => ?_, ?_⟩
     ·skip
      obtain ⟨e1, rs1, hy1, hp1⟩ := hd 1 (by decide)
      obtain ⟨hv1, hr1⟩ := hy1; subst hr1
      rw [hv1] at e1
      exact opG_yes rfl rfl (slot_ev e1 rfl) (vv (op_load1 rfl ty_58 (hA.ev rfl) (hS.bk 10 rfl) rfl) (And.intro rfl rfl))
     refine ⟨fun a w vs244 hA hS hd => ?_, ?_⟩
     ·skip
      obtain ⟨e1, rs1, hy1, hp1⟩ := hd 1 (by decide)
      obtain ⟨hv1, hr1⟩ := hy1; subst hr1
      rw [hv1] at e1
      exact opG_yes rfl rfl (slot_ev e1 rfl) (vv (op_loadA rfl ty_104 (hA.ev rfl) (hS.bk 8 rfl) (l := (ints (mostF plan (allowedF R rs) q))) (drop_take_all _ _ (by rw [ints, List.length_map]; exact (most_rates (fun k hk => (allowed_rates hR hk).1) _ (by omega)).1)) (by rw [ints, List.length_map]; exact (most_rates (fun k hk => (allowed_rates hR hk).1) _ (by omega)).1)) (And.intro rfl rfl))
     refine ⟨fun a w vs244 hA hS hd => ?_, ?_⟩
     ·skip
      obtain ⟨e1, rs1, hy1, hp1⟩ := hd 1 (by decide)
      obtain ⟨hv1, hr1⟩ := hy1; subst hr1
      rw [hv1] at e1
      obtain ⟨e4, rs4, hy4, hp4⟩ := hd 4 (by decide)
      obtain ⟨hv4, hr4⟩ := hy4; subst hr4
      rw [hv4] at e4
      obtain ⟨e5, rs5, hy5, hp5⟩ := hd 5 (by decide)
      obtain ⟨hv5, hr5⟩ := hy5; subst hr5
      rw [hv5] at e5
      exact opG_yes rfl rfl (slot_ev e1 rfl) (vx (op_call rfl en_60 (ev2 (tmp_ev (slot_ev e4 rfl)) (tmp_ev (slot_ev e5 rfl))) (stretch_ok plan _ (mostF plan (allowedF R rs) q) R.length _ (by omega) hR.1 (most_rates (fun k hk => (allowed_rates hR hk).1) q (by omega)) hs (hS.sk 15 rfl))) (And.intro rfl rfl))
     refine ⟨fun a w vs244 hA hS hd => ?_, ?_⟩
     ·skip
      obtain ⟨e1, rs1, hy1, hp1⟩ := hd 1 (by decide)
      obtain ⟨hv1, hr1⟩ := hy1; subst hr1
      rw [hv1] at e1
      obtain ⟨e6, rs6, hy6, hp6⟩ := hd 6 (by decide)
      obtain ⟨hv6, hr6⟩ := hy6; subst hr6
      rw [hv6] at e6
      exact opG_yes rfl rfl (slot_ev e1 rfl) (vv (op_fieldV rfl (tmp_ev (slot_ev e6 rfl)) (bd_fv_42_1_i64i64 _ _)) (And.intro rfl rfl))
     trivial
    intro a245 w246 vs244 rsf250 hA247 hH249 hS248; clear hA243 hS242
    obtain ⟨hs_0, hy_0⟩ := hH249 0 (by decide)
    obtain ⟨hv_0, hr_0⟩ := hy_0
    obtain ⟨hs_1, hy_1⟩ := hH249 1 (by decide)
    obtain ⟨hv_1, hr_1⟩ := hy_1
    obtain ⟨hs_2, hy_2⟩ := hH249 2 (by decide)
    obtain ⟨hv_2, hr_2⟩ := hy_2
    obtain ⟨hs_3, hy_3⟩ := hH249 3 (by decide)
    obtain ⟨hv_3, hr_3⟩ := hy_3
    obtain ⟨hs_4, hy_4⟩ := hH249 4 (by decide)
    obtain ⟨hv_4, hr_4⟩ := hy_4
    obtain ⟨hs_5, hy_5⟩ := hH249 5 (by decide)
    obtain ⟨hv_5, hr_5⟩ := hy_5
    obtain ⟨hs_6, hy_6⟩ := hH249 6 (by decide)
    obtain ⟨hv_6, hr_6⟩ := hy_6
    obtain ⟨hs_7, hy_7⟩ := hH249 7 (by decide)
    obtain ⟨hv_7, hr_7⟩ := hy_7
    have hS251 : Sep (fun b => b = bm) w w246 [(blk b237 42 [(Value.int .i64 (stLo plan ((allowedF R rs).getD q []))), (Value.int .i64 (stHi plan ((allowedF R rs).getD q [])))]), (blk b69 42 [(Value.int .i64 (stLo plan ((allowedF R rs).getD q []))), (Value.int .i64 (stHi plan ((allowedF R rs).getD q [])))]), (obR l40 (.loop (rc42 .busy none))), (marksR (D41 :: [])), G43, (blk b48 104 (ints ((allowedF R rs).getD q []))), (blk bx32 97 [(bptr bj 0)]), (blk b19 4 [(Value.bool (decide (q = 0)))]), (blk b14 104 (ints (mostF plan (allowedF R rs) q))), (blk b9 104 (ints (leastF plan (allowedF R rs) q))), (blk b4 58 [vp]), (rob bj 119 [vr, vu, (Value.map (some bm))]), (sl vr 2 R.length (pairs R)), (sl vu 3 rs.length (vtrips (runV lv rs))), (segsR false lv rs), (sl vp 3 plan.length (trips plan))] := by rw [show catR rsf250 0 8 = ([] : List Res) by (try simp only [catR, hr_0, hr_1, hr_2, hr_3, hr_4, hr_5, hr_6, hr_7]); (try rfl)] at hS248; exact hS248
    rw [hv_1] at hs_1
    have hA252 : Fr 43 [] [(31, (Value.bool false)), (9, (bptr b237 0)), (7, (bptr b48 0)), (6, (bptr b19 0)), (5, (bptr b14 0)), (3, (bptr b4 0))] a245 := hA247.add (slot_ev hs_1 rfl); clear hA247
    rw [hv_3] at hs_3
    have hA253 : Fr 43 [] [(33, (Value.int .i64 (stHi plan ((allowedF R rs).getD q [])))), (31, (Value.bool false)), (9, (bptr b237 0)), (7, (bptr b48 0)), (6, (bptr b19 0)), (5, (bptr b14 0)), (3, (bptr b4 0))] a245 := hA252.add (slot_ev hs_3 rfl); clear hA252
    rw [hv_7] at hs_7
    have hA254 : Fr 43 [] [(37, (Value.int .i64 (stHi plan (mostF plan (allowedF R rs) q)))), (33, (Value.int .i64 (stHi plan ((allowedF R rs).getD q [])))), (31, (Value.bool false)), (9, (bptr b237 0)), (7, (bptr b48 0)), (6, (bptr b19 0)), (5, (bptr b14 0)), (3, (bptr b4 0))] a245 := hA253.add (slot_ev hs_7 rfl); clear hA253
    clear hH249 hS248 hs_0 hs_1 hs_2 hs_3 hs_4 hs_5 hs_6 hs_7
    clear hr_0
    clear hv_0
    clear hr_1
    clear hv_1
    clear hr_2
    clear hv_2
    clear hr_3
    clear hv_3
    clear hr_4
    clear hv_4
    clear hr_5
    clear hv_5
    clear hr_6
    clear hv_6
    clear hr_7
    clear hv_7
    refine stg hA254 (op_gtr rfl (hA254.ev rfl) (hA254.ev rfl)) rfl rfl rfl rfl (by decide) fun a255 hA256 => ?_; clear hA254 a245
    refine st hA256 (op_pick_f rfl (hA256.ev rfl) (hA256.ev rfl)) rfl rfl (by decide) fun a257 hA258 => ?_; clear hA256 a255
    refine wl_nil ?_
    refine then_n ?_
    by_cases hb259 : (stHi plan (mostF plan (allowedF R rs) q)) < (stHi plan ((allowedF R rs).getD q []))
    ·skip
     rw [decide_eq_true hb259] at hA258
     refine c_true hA258 rfl ?_
     have hA260 := hA258.as [(7, (bptr b48 0)), (6, (bptr b19 0)), (5, (bptr b14 0))] rfl; clear hA258
     refine c_region ?_
     refine st hA260 (op_loadA rfl ty_104 (hA260.ev rfl) (hS251.bk 5 rfl) (l := (ints ((allowedF R rs).getD q []))) (drop_take_all _ _ (allowed_len3 hR hq).symm) (allowed_len3 hR hq).symm) rfl rfl (by decide) fun a261 hA262 => ?_; clear hA260 a257
     refine sts hA262 (op_store hS251 rfl ty_104 (hA262.ev rfl) (hA262.ev rfl) (i := 8) rfl (vs := (ints ((allowedF R rs).getD q []))) rfl (allowed_len3 hR hq).symm (ints_one _) (by first | (simp only [ints, List.length_map, List.length_set]; omega) | (have h2_ := (show (ints (mostF plan (allowedF R rs) q)).length = 3 from (by rw [ints, List.length_map]; exact (most_rates (fun k hk => (allowed_rates hR hk).1) _ (by omega)).1)); omega))) rfl rfl ?_
     intro _ w263 hS264 hA266; have hS265 := hS264.blk_say (i := 8) rfl (cs' := (ints ((allowedF R rs).getD q []))) (setFrom_all _ _ (by first | (simp only [ints, List.length_map, List.length_set]; omega) | (have h1_ := (show (ints ((allowedF R rs).getD q [])).length = 3 from (allowed_len3 hR hq).symm); have h2_ := (show (ints (mostF plan (allowedF R rs) q)).length = 3 from (by rw [ints, List.length_map]; exact (most_rates (fun k hk => (allowed_rates hR hk).1) _ (by omega)).1)); omega))); clear hS264 hA262 hS251
     refine wl_nil ?_
     refine then_n ?_
     refine c_region ?_
     refine sts hA266 (op_store hS265 rfl ty_4 (hA266.ev rfl) (evc _ _) (i := 7) rfl (vs := [(Value.bool false)]) rfl rfl rfl (Nat.le_of_ble_eq_true rfl)) rfl rfl ?_
     intro _ w267 hS268 hA269; clear hA266
     have hS270 : Sep (fun b => b = bm) w w267 [(blk b237 42 [(Value.int .i64 (stLo plan ((allowedF R rs).getD q []))), (Value.int .i64 (stHi plan ((allowedF R rs).getD q [])))]), (blk b69 42 [(Value.int .i64 (stLo plan ((allowedF R rs).getD q []))), (Value.int .i64 (stHi plan ((allowedF R rs).getD q [])))]), (obR l40 (.loop (rc42 .busy none))), (marksR (D41 :: [])), G43, (blk b48 104 (ints ((allowedF R rs).getD q []))), (blk bx32 97 [(bptr bj 0)]), (blk b19 4 [(Value.bool false)]), (blk b14 104 (ints ((allowedF R rs).getD q []))), (blk b9 104 (ints (leastF plan (allowedF R rs) q))), (blk b4 58 [vp]), (rob bj 119 [vr, vu, (Value.map (some bm))]), (sl vr 2 R.length (pairs R)), (sl vu 3 rs.length (vtrips (runV lv rs))), (segsR false lv rs), (sl vp 3 plan.length (trips plan))] := hS268; clear hS268 hS265
     refine wl_nil ?_
     refine blk_n ?_
     have hS271 : Sep (fun b => b = bm) w w267 [(obR l40 (.loop (rc42 .busy none))), (marksR (D41 :: [])), G43, (blk bx32 97 [(bptr bj 0)]), (blk b19 4 [(Value.bool false)]), (blk b14 104 (ints ((allowedF R rs).getD q []))), (blk b9 104 (ints (leastF plan (allowedF R rs) q))), (blk b4 58 [vp]), (rob bj 119 [vr, vu, (Value.map (some bm))]), (sl vr 2 R.length (pairs R)), (sl vu 3 rs.length (vtrips (runV lv rs))), (segsR false lv rs), (sl vp 3 plan.length (trips plan))] := hS270.keep [2, 3, 4, 6, 7, 8, 9, 10, 11, 12, 13, 14, 15] (by decide) _ rfl rfl; clear hS270
     exact re_n ⟨_, rfl, rfl⟩ (((hS271.blk_say (i := 6) rfl (cs' := ints (leastF plan (allowedF R rs) (q + 1))) (congrArg ints (by first | exact (least_a (by assumption)).symm | exact (least_b (by assumption)).symm | exact (least_c (by assumption) (by assumption)).symm))).blk_say (i := 5) rfl (cs' := ints (mostF plan (allowedF R rs) (q + 1))) (congrArg ints (by first | exact (most_a (by assumption)).symm | exact (most_b (by assumption)).symm | exact (most_c (by assumption) (by assumption)).symm))).blk_say (i := 4) rfl (cs' := [Value.bool (decide (q + 1 = 0))]) (by rw [decide_eq_false (Nat.succ_ne_zero q)]))
    ·skip
     rw [decide_eq_false hb259] at hA258
     refine c_false hA258 rfl ?_
     refine c_skip ?_
     refine then_n ?_
     have hA272 := hA258.as [(6, (bptr b19 0))] rfl; clear hA258
     refine c_region ?_
     refine sts hA272 (op_store hS251 rfl ty_4 (hA272.ev rfl) (evc _ _) (i := 7) rfl (vs := [(Value.bool false)]) rfl rfl rfl (Nat.le_of_ble_eq_true rfl)) rfl rfl ?_
     intro _ w273 hS274 hA275; clear hA272
     have hS276 : Sep (fun b => b = bm) w w273 [(blk b237 42 [(Value.int .i64 (stLo plan ((allowedF R rs).getD q []))), (Value.int .i64 (stHi plan ((allowedF R rs).getD q [])))]), (blk b69 42 [(Value.int .i64 (stLo plan ((allowedF R rs).getD q []))), (Value.int .i64 (stHi plan ((allowedF R rs).getD q [])))]), (obR l40 (.loop (rc42 .busy none))), (marksR (D41 :: [])), G43, (blk b48 104 (ints ((allowedF R rs).getD q []))), (blk bx32 97 [(bptr bj 0)]), (blk b19 4 [(Value.bool false)]), (blk b14 104 (ints (mostF plan (allowedF R rs) q))), (blk b9 104 (ints (leastF plan (allowedF R rs) q))), (blk b4 58 [vp]), (rob bj 119 [vr, vu, (Value.map (some bm))]), (sl vr 2 R.length (pairs R)), (sl vu 3 rs.length (vtrips (runV lv rs))), (segsR false lv rs), (sl vp 3 plan.length (trips plan))] := hS274; clear hS274 hS251
     refine wl_nil ?_
     refine blk_n ?_
     have hS277 : Sep (fun b => b = bm) w w273 [(obR l40 (.loop (rc42 .busy none))), (marksR (D41 :: [])), G43, (blk bx32 97 [(bptr bj 0)]), (blk b19 4 [(Value.bool false)]), (blk b14 104 (ints (mostF plan (allowedF R rs) q))), (blk b9 104 (ints (leastF plan (allowedF R rs) q))), (blk b4 58 [vp]), (rob bj 119 [vr, vu, (Value.map (some bm))]), (sl vr 2 R.length (pairs R)), (sl vu 3 rs.length (vtrips (runV lv rs))), (segsR false lv rs), (sl vp 3 plan.length (trips plan))] := hS276.keep [2, 3, 4, 6, 7, 8, 9, 10, 11, 12, 13, 14, 15] (by decide) _ rfl rfl; clear hS276
     exact re_n ⟨_, rfl, rfl⟩ (((hS277.blk_say (i := 6) rfl (cs' := ints (leastF plan (allowedF R rs) (q + 1))) (congrArg ints (by first | exact (least_a (by assumption)).symm | exact (least_b (by assumption)).symm | exact (least_c (by assumption) (by assumption)).symm))).blk_say (i := 5) rfl (cs' := ints (mostF plan (allowedF R rs) (q + 1))) (congrArg ints (by first | exact (most_a (by assumption)).symm | exact (most_b (by assumption)).symm | exact (most_c (by assumption) (by assumption)).symm))).blk_say (i := 4) rfl (cs' := [Value.bool (decide (q + 1 = 0))]) (by rw [decide_eq_false (Nat.succ_ne_zero q)]))
 intro L_ hL_ D282 a278 w279 hA281 hS280; obtain ⟨rfl⟩ := hL_; clear hA33 hS34
 refine blk_n ?_
 refine then_n ?_
 refine c_seq ?_
 have hA283 := hA281.as [(5, (bptr b14 0)), (4, (bptr b9 0))] rfl; clear hA281
 refine c_drawF mixed hA283 hS280 2 1 rfl rfl [[], []] [(fun (vs284 : Nat → Value) (v_ : Value) (rs_ : List Res) => v_ = (Value.agg (ints (leastF plan (allowedF R rs) (allowedF R rs).length)).toArray) ∧ rs_ = []), (fun (vs284 : Nat → Value) (v_ : Value) (rs_ : List Res) => v_ = (Value.agg (ints (mostF plan (allowedF R rs) (allowedF R rs).length)).toArray) ∧ rs_ = [])] (by decide +kernel) (by decide +kernel) (by decide +kernel) rfl rfl ⟨(fun _ _ _ _ _ h_ => h_), (fun _ _ _ _ _ h_ => h_), trivial⟩ ?_ ?_ ?_
 ·skip
  refine ⟨fun a w vs284 hA hS hd => ?_, ?_⟩
  ·skip
   exact opG_of rfl (vv (op_loadA rfl ty_104 (hA.ev rfl) (hS.bk 5 rfl) (l := (ints (leastF plan (allowedF R rs) (allowedF R rs).length))) (drop_take_all _ _ (by rw [ints, List.length_map]; exact (least_rates (fun k hk => (allowed_rates hR hk).1) _ (by omega)).1)) (by rw [ints, List.length_map]; exact (least_rates (fun k hk => (allowed_rates hR hk).1) _ (by omega)).1)) (And.intro rfl rfl))
  refine ⟨fun a w vs284 hA hS hd => ?_, ?_⟩
  ·skip
   exact opG_of rfl (vv (op_loadA rfl ty_104 (hA.ev rfl) (hS.bk 4 rfl) (l := (ints (mostF plan (allowedF R rs) (allowedF R rs).length))) (drop_take_all _ _ (by rw [ints, List.length_map]; exact (most_rates (fun k hk => (allowed_rates hR hk).1) _ (by omega)).1)) (by rw [ints, List.length_map]; exact (most_rates (fun k hk => (allowed_rates hR hk).1) _ (by omega)).1)) (And.intro rfl rfl))
  trivial
 ·skip
  intro a285 w286 vs284 rsf290 hA287 hH289 hS288; clear hA283 hS280
  obtain ⟨hs_0, hy_0⟩ := hH289 0 (by decide)
  obtain ⟨hv_0, hr_0⟩ := hy_0
  obtain ⟨hs_1, hy_1⟩ := hH289 1 (by decide)
  obtain ⟨hv_1, hr_1⟩ := hy_1
  have hS291 : Sep (fun b => b = bm) w w286 [(marksR (D282 :: [])), (memo bm (KA rs)), (blk bx32 97 [(bptr bj 0)]), (blk b19 4 [(Value.bool (decide ((allowedF R rs).length = 0)))]), (blk b14 104 (ints (mostF plan (allowedF R rs) (allowedF R rs).length))), (blk b9 104 (ints (leastF plan (allowedF R rs) (allowedF R rs).length))), (blk b4 58 [vp]), (rob bj 119 [vr, vu, (Value.map (some bm))]), (sl vr 2 R.length (pairs R)), (sl vu 3 rs.length (vtrips (runV lv rs))), (segsR false lv rs), (sl vp 3 plan.length (trips plan))] := by rw [show catR rsf290 0 2 = ([] : List Res) by (try simp only [catR, hr_0, hr_1]); (try rfl)] at hS288; exact hS288
  rw [hv_0] at hs_0
  have hA292 : Fr 43 (marks (D282 :: [])) [(41, (Value.agg (ints (leastF plan (allowedF R rs) (allowedF R rs).length)).toArray)), (5, (bptr b14 0)), (4, (bptr b9 0))] a285 := hA287.add (slot_ev hs_0 rfl); clear hA287
  rw [hv_1] at hs_1
  have hA293 : Fr 43 (marks (D282 :: [])) [(42, (Value.agg (ints (mostF plan (allowedF R rs) (allowedF R rs).length)).toArray)), (41, (Value.agg (ints (leastF plan (allowedF R rs) (allowedF R rs).length)).toArray)), (5, (bptr b14 0)), (4, (bptr b9 0))] a285 := hA292.add (slot_ev hs_1 rfl); clear hA292
  clear hH289 hS288 hs_0 hs_1
  clear hr_0
  clear hv_0
  clear hr_1
  clear hv_1
  refine sts hA293 (op_store hS291 rfl ty_104 (hA293.ev rfl) (hA293.ev rfl) (i := 5) rfl (vs := (ints (leastF plan (allowedF R rs) (allowedF R rs).length))) rfl (by rw [ints, List.length_map]; exact (least_rates (fun k hk => (allowed_rates hR hk).1) _ (by omega)).1) (ints_one _) (by first | (simp only [ints, List.length_map, List.length_set]; omega) | (have h2_ := (show (ints (leastF plan (allowedF R rs) (allowedF R rs).length)).length = 3 from (by rw [ints, List.length_map]; exact (least_rates (fun k hk => (allowed_rates hR hk).1) _ (by omega)).1)); omega))) rfl rfl ?_
  intro _ w294 hS295 hA297; have hS296 := hS295.blk_say (i := 5) rfl (cs' := (ints (leastF plan (allowedF R rs) (allowedF R rs).length))) (setFrom_all _ _ (by first | (simp only [ints, List.length_map, List.length_set]; omega) | (have h1_ := (show (ints (leastF plan (allowedF R rs) (allowedF R rs).length)).length = 3 from (by rw [ints, List.length_map]; exact (least_rates (fun k hk => (allowed_rates hR hk).1) _ (by omega)).1)); have h2_ := (show (ints (leastF plan (allowedF R rs) (allowedF R rs).length)).length = 3 from (by rw [ints, List.length_map]; exact (least_rates (fun k hk => (allowed_rates hR hk).1) _ (by omega)).1)); omega))); clear hS295 hA293 hS291
  refine sts hA297 (op_store hS296 rfl ty_104 (hA297.ev rfl) (hA297.ev rfl) (i := 4) rfl (vs := (ints (mostF plan (allowedF R rs) (allowedF R rs).length))) rfl (by rw [ints, List.length_map]; exact (most_rates (fun k hk => (allowed_rates hR hk).1) _ (by omega)).1) (ints_one _) (by first | (simp only [ints, List.length_map, List.length_set]; omega) | (have h2_ := (show (ints (mostF plan (allowedF R rs) (allowedF R rs).length)).length = 3 from (by rw [ints, List.length_map]; exact (most_rates (fun k hk => (allowed_rates hR hk).1) _ (by omega)).1)); omega))) rfl rfl ?_
  intro _ w298 hS299 hA301; have hS300 := hS299.blk_say (i := 4) rfl (cs' := (ints (mostF plan (allowedF R rs) (allowedF R rs).length))) (setFrom_all _ _ (by first | (simp only [ints, List.length_map, List.length_set]; omega) | (have h1_ := (show (ints (mostF plan (allowedF R rs) (allowedF R rs).length)).length = 3 from (by rw [ints, List.length_map]; exact (most_rates (fun k hk => (allowed_rates hR hk).1) _ (by omega)).1)); have h2_ := (show (ints (mostF plan (allowedF R rs) (allowedF R rs).length)).length = 3 from (by rw [ints, List.length_map]; exact (most_rates (fun k hk => (allowed_rates hR hk).1) _ (by omega)).1)); omega))); clear hS299 hA297 hS296
  refine wl_nil ?_
  refine then_n ?_
  refine c_ret ?_
  refine fin_runM hA301 (.inl rfl) hS300 ?_
  intro w302 hS303; clear hS300
  refine ⟨_, (run_results2 hA301 rfl (.cellA rfl ty_104 (hS303.bk 4 rfl) (l := (ints (leastF plan (allowedF R rs) (allowedF R rs).length))) (drop_take_all _ _ (by rw [ints, List.length_map]; exact (least_rates (fun k hk => (allowed_rates hR hk).1) _ (by omega)).1)) (by rw [ints, List.length_map]; exact (least_rates (fun k hk => (allowed_rates hR hk).1) _ (by omega)).1)) (.cellA rfl ty_104 (hS303.bk 3 rfl) (l := (ints (mostF plan (allowedF R rs) (allowedF R rs).length))) (drop_take_all _ _ (by rw [ints, List.length_map]; exact (most_rates (fun k hk => (allowed_rates hR hk).1) _ (by omega)).1)) (by rw [ints, List.length_map]; exact (most_rates (fun k hk => (allowed_rates hR hk).1) _ (by omega)).1))), ?_⟩
  exact ⟨rfl, hS303.ext, hS303.ok 0 _ rfl⟩
 ·skip
  intro a304 w305 vs284 rsf309 hA306 hH308 hrq hS307; clear hA283 hS280
  obtain ⟨hs_0, hy_0⟩ := hH308 0 (by decide) (by decide)
  obtain ⟨hv_0, hr_0⟩ := hy_0
  have hS310 : Sep (fun b => b = bm) w w305 [(marksR (D282 :: [])), (memo bm (KA rs)), (blk bx32 97 [(bptr bj 0)]), (blk b19 4 [(Value.bool (decide ((allowedF R rs).length = 0)))]), (blk b14 104 (ints (mostF plan (allowedF R rs) (allowedF R rs).length))), (blk b9 104 (ints (leastF plan (allowedF R rs) (allowedF R rs).length))), (blk b4 58 [vp]), (rob bj 119 [vr, vu, (Value.map (some bm))]), (sl vr 2 R.length (pairs R)), (sl vu 3 rs.length (vtrips (runV lv rs))), (segsR false lv rs), (sl vp 3 plan.length (trips plan))] := by rw [show catR rsf309 0 2 = ([] : List Res) by (try simp only [catR, hr_0, hrq]); (try rfl)] at hS307; exact hS307
  rw [hv_0] at hs_0
  have hA311 : Fr 43 (marks (D282 :: [])) [(41, (Value.agg (ints (leastF plan (allowedF R rs) (allowedF R rs).length)).toArray)), (5, (bptr b14 0)), (4, (bptr b9 0))] a304 := hA306.add (slot_ev hs_0 rfl); clear hA306
  clear hH308 hS307 hs_0 hrq
  clear hr_0
  clear hv_0
  refine sts hA311 (op_store hS310 rfl ty_104 (hA311.ev rfl) (hA311.ev rfl) (i := 5) rfl (vs := (ints (leastF plan (allowedF R rs) (allowedF R rs).length))) rfl (by rw [ints, List.length_map]; exact (least_rates (fun k hk => (allowed_rates hR hk).1) _ (by omega)).1) (ints_one _) (by first | (simp only [ints, List.length_map, List.length_set]; omega) | (have h2_ := (show (ints (leastF plan (allowedF R rs) (allowedF R rs).length)).length = 3 from (by rw [ints, List.length_map]; exact (least_rates (fun k hk => (allowed_rates hR hk).1) _ (by omega)).1)); omega))) rfl rfl ?_
  intro _ w312 hS313 hA315; have hS314 := hS313.blk_say (i := 5) rfl (cs' := (ints (leastF plan (allowedF R rs) (allowedF R rs).length))) (setFrom_all _ _ (by first | (simp only [ints, List.length_map, List.length_set]; omega) | (have h1_ := (show (ints (leastF plan (allowedF R rs) (allowedF R rs).length)).length = 3 from (by rw [ints, List.length_map]; exact (least_rates (fun k hk => (allowed_rates hR hk).1) _ (by omega)).1)); have h2_ := (show (ints (leastF plan (allowedF R rs) (allowedF R rs).length)).length = 3 from (by rw [ints, List.length_map]; exact (least_rates (fun k hk => (allowed_rates hR hk).1) _ (by omega)).1)); omega))); clear hS313 hA311 hS310
  refine st hA315 (op_loadA rfl ty_104 (hA315.ev rfl) (hS314.bk 4 rfl) (l := (ints (mostF plan (allowedF R rs) (allowedF R rs).length))) (drop_take_all _ _ (by rw [ints, List.length_map]; exact (most_rates (fun k hk => (allowed_rates hR hk).1) _ (by omega)).1)) (by rw [ints, List.length_map]; exact (most_rates (fun k hk => (allowed_rates hR hk).1) _ (by omega)).1)) rfl rfl (by decide) fun a316 hA317 => ?_; clear hA315 a304
  refine sts hA317 (op_store hS314 rfl ty_104 (hA317.ev rfl) (hA317.ev rfl) (i := 4) rfl (vs := (ints (mostF plan (allowedF R rs) (allowedF R rs).length))) rfl (by rw [ints, List.length_map]; exact (most_rates (fun k hk => (allowed_rates hR hk).1) _ (by omega)).1) (ints_one _) (by first | (simp only [ints, List.length_map, List.length_set]; omega) | (have h2_ := (show (ints (mostF plan (allowedF R rs) (allowedF R rs).length)).length = 3 from (by rw [ints, List.length_map]; exact (most_rates (fun k hk => (allowed_rates hR hk).1) _ (by omega)).1)); omega))) rfl rfl ?_
  intro _ w318 hS319 hA321; have hS320 := hS319.blk_say (i := 4) rfl (cs' := (ints (mostF plan (allowedF R rs) (allowedF R rs).length))) (setFrom_all _ _ (by first | (simp only [ints, List.length_map, List.length_set]; omega) | (have h1_ := (show (ints (mostF plan (allowedF R rs) (allowedF R rs).length)).length = 3 from (by rw [ints, List.length_map]; exact (most_rates (fun k hk => (allowed_rates hR hk).1) _ (by omega)).1)); have h2_ := (show (ints (mostF plan (allowedF R rs) (allowedF R rs).length)).length = 3 from (by rw [ints, List.length_map]; exact (most_rates (fun k hk => (allowed_rates hR hk).1) _ (by omega)).1)); omega))); clear hS319 hA317 hS314
  refine wl_nil ?_
  refine then_n ?_
  refine c_ret ?_
  refine fin_runM hA321 (.inl rfl) hS320 ?_
  intro w322 hS323; clear hS320
  refine ⟨_, (run_results2 hA321 rfl (.cellA rfl ty_104 (hS323.bk 4 rfl) (l := (ints (leastF plan (allowedF R rs) (allowedF R rs).length))) (drop_take_all _ _ (by rw [ints, List.length_map]; exact (least_rates (fun k hk => (allowed_rates hR hk).1) _ (by omega)).1)) (by rw [ints, List.length_map]; exact (least_rates (fun k hk => (allowed_rates hR hk).1) _ (by omega)).1)) (.cellA rfl ty_104 (hS323.bk 3 rfl) (l := (ints (mostF plan (allowedF R rs) (allowedF R rs).length))) (drop_take_all _ _ (by rw [ints, List.length_map]; exact (most_rates (fun k hk => (allowed_rates hR hk).1) _ (by omega)).1)) (by rw [ints, List.length_map]; exact (most_rates (fun k hk => (allowed_rates hR hk).1) _ (by omega)).1))), ?_⟩
  exact ⟨rfl, hS323.ext, hS323.ok 0 _ rfl⟩

end Go.Proofs.Ytkkglkdnnfegkaa

namespace Go.Proofs.Ytkkglkdnnfegkaa
open Go.RowKit Go.Shelf Go.Eng
theorem en_58 : ∀ args w, (callFunc 58 args).run Try.prog w = .ok (.enter 58 args) w := enters_of Try.func58 (by kernel_rfl) rfl
theorem bd_42_  (w : World) : (Instr.build 42 #[]).run Try.prog w = .ok (.agg #[(Value.int .i64 0), (Value.int .i64 0)]) w := by kernel_rfl
theorem en_59 : ∀ args w, (callFunc 59 args).run Try.prog w = .ok (.enter 59 args) w := enters_of Try.func59 (by kernel_rfl) rfl
theorem en_57 : ∀ args w, (callFunc 57 args).run Try.prog w = .ok (.enter 57 args) w := enters_of Try.func57 (by kernel_rfl) rfl
theorem tw_42 : twoInts Try.prog 42 = true := by kernel_rfl
theorem stretch_bad (R : List (Int × Int)) (rs : List RunD) (lv : List Value) (vr vu : Value) (w : World) (hm : SlAt w vr 2 R.length (pairs R)) (hx : RunsAt w vu lv rs) (hlen : R.length ≤ 1000000) (hrl : rs.length ≤ 1000000) (plan : List Seg) (vp : Value) (hp : SlAt w vp 3 plan.length (trips plan)) (hpl : plan.length ≤ 1000000) (he : planF R rs plan ≠ 0) :
  Calls Try.prog 28 #[(Value.agg #[vr]), vu, vp] w (Ret fun v w' => v = .tuple #[.agg #[.int .i64 0, .int .i64 0], .int .i64 (planF R rs plan)] ∧ Ext NoB w w') := by
 refine calls_enter Try.func28 rfl fun a0 hA0 => ?_
 replace hA0 : Fr 38 [] [(0, (Value.agg #[vr])), (1, vu), (2, vp)] a0 := hA0
 have hS0 : Sep NoB w w [(sl vr 2 R.length (pairs R)), (sl vu 3 rs.length (vtrips (runV lv rs))), (segsR false lv rs), (sl vp 3 plan.length (trips plan))] := sep_ro ⟨rfl, hm, rfl, hx.runs, rfl, ⟨hx.len, hx.segs⟩, rfl, hp, trivial⟩
 refine c_seq ?_
 refine c_region ?_
 refine stw hA0 (op_box hS0 rfl (hA0.ev rfl) (cs := [vr]) rfl) rfl rfl (by decide) ?_
 rintro a1 _ w3 ⟨b4, rfl, hS5⟩ hA2; clear hA0 hS0 a0
 refine stw hA2 (op_alloc hS5 rfl ze_42 (cs := [(Value.int .i64 0), (Value.int .i64 0)]) rfl) rfl rfl (by decide) ?_
 rintro a6 _ w8 ⟨b9, rfl, hS10⟩ hA7; clear hA2 hS5 a1
 refine st hA7 (op_assign rfl (evc _ _)) rfl rfl (by decide) fun a11 hA12 => ?_; clear hA7 a6
 refine wl_nil ?_
 refine then_n ?_
 refine c_seq ?_
 refine c_region ?_
 refine st hA12 (op_loadA rfl ty_33 (hA12.ev rfl) (hS10.bk 1 rfl) (l := [vr]) rfl rfl) rfl rfl (by decide) fun a13 hA14 => ?_; clear hA12 a11
 refine st hA14 (op_move rfl (hA14.ev rfl)) rfl rfl (by decide) fun a15 hA16 => ?_; clear hA14 a13
 refine st hA16 (op_move rfl (hA16.ev rfl)) rfl rfl (by decide) fun a17 hA18 => ?_; clear hA16 a15
 refine stw hA18 (op_call rfl en_58 (ev3 (hA18.ev rfl) (hA18.ev rfl) (hA18.ev rfl)) (plan_bad R rs lv vr vu _ (hm.step hS10.ext) (hx.step hS10.ext) (by omega) (by omega) plan vp (hp.step hS10.ext) (by omega) he)) rfl rfl (by decide) ?_
 rintro a19 _ w21 ⟨rfl, hE22⟩ hA20; have hS23 := hS10.step hE22; clear hE22 hA18 hS10 a17
 refine st hA20 (op_move rfl (hA20.ev rfl)) rfl rfl (by decide) fun a24 hA25 => ?_; clear hA20 a19
 refine st hA25 (op_extract rfl (hA25.ev rfl) rfl) rfl rfl (by decide) fun a26 hA27 => ?_; clear hA25 a24
 refine st hA27 (op_extract rfl (hA27.ev rfl) rfl) rfl rfl (by decide) fun a28 hA29 => ?_; clear hA27 a26
 refine st hA29 (op_assign rfl (hA29.ev rfl)) rfl rfl (by decide) fun a30 hA31 => ?_; clear hA29 a28
 refine st hA31 (op_assign rfl (hA31.ev rfl)) rfl rfl (by decide) fun a32 hA33 => ?_; clear hA31 a30
 refine wl_nil ?_
 refine then_n ?_
 refine c_seq ?_
 refine c_seq ?_
 have hA34 := hA33.as [(9, (Value.int .i64 (planF R rs plan))), (8, (Value.pointer none)), (6, (bptr b9 0)), (2, vp)] rfl; clear hA33
 refine c_region ?_
 refine st hA34 (op_move rfl (hA34.ev rfl)) rfl rfl (by decide) fun a35 hA36 => ?_; clear hA34 a32
 refine st hA36 (op_neq rfl (hA36.ev rfl) (evc _ _)) rfl rfl (by decide) fun a37 hA38 => ?_; clear hA36 a35
 have hd39 : ¬ ((planF R rs plan) = 0) := he
 rw [decide_eq_false hd39] at hA38
 refine wl_nil ?_
 refine then_n ?_
 refine c_true hA38 rfl ?_
 refine c_seq ?_
 refine c_region ?_
 refine st hA38 (op_build rfl pv0 bd_42_) rfl rfl (by decide) fun a40 hA41 => ?_; clear hA38 a37
 refine st hA41 (op_move rfl (hA41.ev rfl)) rfl rfl (by decide) fun a42 hA43 => ?_; clear hA41 a40
 refine sts hA43 (op_store hS23 rfl ty_42 (hA43.ev rfl) (hA43.ev rfl) (i := 0) rfl (vs := [(Value.int .i64 0), (Value.int .i64 0)]) rfl rfl rfl (Nat.le_of_ble_eq_true rfl)) rfl rfl ?_
 intro _ w44 hS45 hA46; clear hA43
 have hS47 : Sep NoB w w44 [(blk b9 42 [(Value.int .i64 0), (Value.int .i64 0)]), (blk b4 33 [vr]), (sl vr 2 R.length (pairs R)), (sl vu 3 rs.length (vtrips (runV lv rs))), (segsR false lv rs), (sl vp 3 plan.length (trips plan))] := hS45; clear hS45 hS23
 refine st hA46 (op_assign rfl (hA46.ev rfl)) rfl rfl (by decide) fun a48 hA49 => ?_; clear hA46 a42
 refine wl_nil ?_
 refine then_n ?_
 refine c_ret ?_
 refine then_ret ?_
 refine fin_run hA49 (.inl rfl) (run_results2 hA49 rfl (.cellA rfl ty_42 (hS47.bk 0 rfl) (l := [(Value.int .i64 0), (Value.int .i64 0)]) rfl rfl) (.tmp rfl)) ?_
 exact ⟨rfl, hS47.ext⟩

theorem stretch_fine (R : List (Int × Int)) (rs : List RunD) (lv : List Value) (vr vu : Value) (w : World) (hm : SlAt w vr 2 R.length (pairs R)) (hx : RunsAt w vu lv rs) (hlen : R.length ≤ 1000000) (hrl : rs.length ≤ 1000000) (plan : List Seg) (vp : Value) (hp : SlAt w vp 3 plan.length (trips plan)) (hpl : plan.length ≤ 1000000) (he : planF R rs plan = 0) :
  Calls Try.prog 28 #[(Value.agg #[vr]), vu, vp] w (Ret fun v w' => v = .tuple #[.agg #[.int .i64 (stLo plan (leastR R rs plan)), .int .i64 (stHi plan (mostR R rs plan))], .int .i64 0] ∧ Ext NoB w w') := by
 refine calls_enter Try.func28 rfl fun a0 hA0 => ?_
 replace hA0 : Fr 38 [] [(0, (Value.agg #[vr])), (1, vu), (2, vp)] a0 := hA0
 have hpi := plan_is he
 have hs := hpi.2.2
 have hp8 := hpi.2.1
 have hR := (check_mat (enter_mat (poss_is hpi.1).1)).1
 have hR1 := (check_mat (enter_mat (poss_is hpi.1).1)).2.1
 have hR3 := hR.1
 have hV := enter_runs (poss_is hpi.1).1
 have hS0 : Sep NoB w w [(sl vr 2 R.length (pairs R)), (sl vu 3 rs.length (vtrips (runV lv rs))), (segsR false lv rs), (sl vp 3 plan.length (trips plan))] := sep_ro ⟨rfl, hm, rfl, hx.runs, rfl, ⟨hx.len, hx.segs⟩, rfl, hp, trivial⟩
 refine c_seq ?_
 refine c_region ?_
 refine stw hA0 (op_box hS0 rfl (hA0.ev rfl) (cs := [vr]) rfl) rfl rfl (by decide) ?_
 rintro a1 _ w3 ⟨b4, rfl, hS5⟩ hA2; clear hA0 hS0 a0
 refine stw hA2 (op_alloc hS5 rfl ze_42 (cs := [(Value.int .i64 0), (Value.int .i64 0)]) rfl) rfl rfl (by decide) ?_
 rintro a6 _ w8 ⟨b9, rfl, hS10⟩ hA7; clear hA2 hS5 a1
 refine st hA7 (op_assign rfl (evc _ _)) rfl rfl (by decide) fun a11 hA12 => ?_; clear hA7 a6
 refine wl_nil ?_
 refine then_n ?_
 refine c_seq ?_
 refine c_region ?_
 refine st hA12 (op_loadA rfl ty_33 (hA12.ev rfl) (hS10.bk 1 rfl) (l := [vr]) rfl rfl) rfl rfl (by decide) fun a13 hA14 => ?_; clear hA12 a11
 refine st hA14 (op_move rfl (hA14.ev rfl)) rfl rfl (by decide) fun a15 hA16 => ?_; clear hA14 a13
 refine st hA16 (op_move rfl (hA16.ev rfl)) rfl rfl (by decide) fun a17 hA18 => ?_; clear hA16 a15
 refine stw hA18 (op_call rfl en_58 (ev3 (hA18.ev rfl) (hA18.ev rfl) (hA18.ev rfl)) (plan_ok R rs lv vr vu _ (hm.step hS10.ext) (hx.step hS10.ext) (by omega) (by omega) plan vp (hp.step hS10.ext) (by omega) he)) rfl rfl (by decide) ?_
 rintro a19 _ w21 ⟨bj24, bm25, rfl, hT22⟩ hA20; have hS23 := hS10.callS hT22 rfl; clear hT22 hA18 hS10 a17
 refine st hA20 (op_move rfl (hA20.ev rfl)) rfl rfl (by decide) fun a26 hA27 => ?_; clear hA20 a19
 refine st hA27 (op_extract rfl (hA27.ev rfl) rfl) rfl rfl (by decide) fun a28 hA29 => ?_; clear hA27 a26
 refine st hA29 (op_extract rfl (hA29.ev rfl) rfl) rfl rfl (by decide) fun a30 hA31 => ?_; clear hA29 a28
 refine st hA31 (op_assign rfl (hA31.ev rfl)) rfl rfl (by decide) fun a32 hA33 => ?_; clear hA31 a30
 refine st hA33 (op_assign rfl (hA33.ev rfl)) rfl rfl (by decide) fun a34 hA35 => ?_; clear hA33 a32
 refine wl_nil ?_
 refine then_n ?_
 refine c_seq ?_
 refine c_seq ?_
 have hA36 := hA35.as [(9, (Value.int .i64 0)), (8, (bptr bj24 0)), (6, (bptr b9 0)), (2, vp)] rfl; clear hA35
 refine c_region ?_
 refine st hA36 (op_move rfl (hA36.ev rfl)) rfl rfl (by decide) fun a37 hA38 => ?_; clear hA36 a34
 refine st hA38 (op_neq rfl (hA38.ev rfl) (evc _ _)) rfl rfl (by decide) fun a39 hA40 => ?_; clear hA38 a37
 refine wl_nil ?_
 refine then_n ?_
 refine c_false hA40 rfl ?_
 refine c_skip ?_
 refine then_n ?_
 refine c_seq ?_
 refine c_region ?_
 refine st hA40 (op_move rfl (hA40.ev rfl)) rfl rfl (by decide) fun a41 hA42 => ?_; clear hA40 a39
 refine st hA42 (op_move rfl (hA42.ev rfl)) rfl rfl (by decide) fun a43 hA44 => ?_; clear hA42 a41
 refine stw hA44 (op_call rfl en_59 (ev2 (hA44.ev rfl) (hA44.ev rfl)) (ends_ok _ _ R rs lv vr vu vp plan _ hR hV hx.len hp8 hs (hS23.lendM (i := 1) rfl [0, 4, 5, 6, 7] ⟨rfl, by decide, hS23.bk 0 rfl, ⟨_, rfl, fun _ hz => hz⟩, rfl, by decide, hS23.sk 4 rfl, ⟨_, rfl, fun _ hz => hz⟩, rfl, by decide, hS23.sk 5 rfl, ⟨_, rfl, fun _ hz => hz⟩, rfl, by decide, hS23.ok 6 _ rfl, ⟨_, rfl, fun _ hz => hz⟩, rfl, by decide, hS23.sk 7 rfl, ⟨_, rfl, fun _ hz => hz⟩, trivial⟩))) rfl rfl (by decide) ?_
 rintro a45 _ w47 ⟨rfl, hE48, hM49⟩ hA46; have hS50 := hS23.updM (i := 1) rfl hE48 hM49; clear hE48 hM49 hA44 hS23 a43
 refine st hA46 (op_move rfl (hA46.ev rfl)) rfl rfl (by decide) fun a51 hA52 => ?_; clear hA46 a45
 refine st hA52 (op_extract rfl (hA52.ev rfl) rfl) rfl rfl (by decide) fun a53 hA54 => ?_; clear hA52 a51
 refine st hA54 (op_extract rfl (hA54.ev rfl) rfl) rfl rfl (by decide) fun a55 hA56 => ?_; clear hA54 a53
 refine stw hA56 (op_alloc hS50 rfl ze_104 (cs := [(Value.int .i64 0), (Value.int .i64 0), (Value.int .i64 0)]) rfl) rfl rfl (by decide) ?_
 rintro a57 _ w59 ⟨b60, rfl, hS61⟩ hA58; clear hA56 hS50 a55
 refine stw hA58 (op_alloc hS61 rfl ze_104 (cs := [(Value.int .i64 0), (Value.int .i64 0), (Value.int .i64 0)]) rfl) rfl rfl (by decide) ?_
 rintro a62 _ w64 ⟨b65, rfl, hS66⟩ hA63; clear hA58 hS61 a57
 refine sts hA63 (op_store hS66 rfl ty_104 (hA63.ev rfl) (hA63.ev rfl) (i := 1) rfl (vs := (ints (leastR R rs plan))) rfl (by rw [ints, List.length_map]; exact (leastR_rates hR).1) (ints_one _) (by decide)) rfl rfl ?_
 intro _ w67 hS68 hA70; have hS69 := hS68.blk_say (i := 1) rfl (cs' := (ints (leastR R rs plan))) (setFrom_all _ _ (Eq.symm (by rw [ints, List.length_map]; exact (leastR_rates hR).1))); clear hS68 hA63 hS66
 refine sts hA70 (op_store hS69 rfl ty_104 (hA70.ev rfl) (hA70.ev rfl) (i := 0) rfl (vs := (ints (mostR R rs plan))) rfl (by rw [ints, List.length_map]; exact (mostR_rates hR).1) (ints_one _) (by decide)) rfl rfl ?_
 intro _ w71 hS72 hA74; have hS73 := hS72.blk_say (i := 0) rfl (cs' := (ints (mostR R rs plan))) (setFrom_all _ _ (Eq.symm (by rw [ints, List.length_map]; exact (mostR_rates hR).1))); clear hS72 hA70 hS69
 refine wl_nil ?_
 refine then_n ?_
 refine c_seq ?_
 have hA75 := hA74.as [(11, (bptr b65 0)), (10, (bptr b60 0)), (6, (bptr b9 0)), (2, vp)] rfl; clear hA74
 have hA76 := hA75.as [(11, (bptr b65 0)), (10, (bptr b60 0)), (6, (bptr b9 0)), (2, vp)] rfl; clear hA75
 refine c_drawV mixed hA76 hS73 8 [[], [], [0, 1], [2], [], [], [4, 5], [6]] [(fun (vs77 : Nat → Value) (v_ : Value) (rs_ : List Res) => v_ = vp ∧ rs_ = []), (fun (vs77 : Nat → Value) (v_ : Value) (rs_ : List Res) => v_ = (Value.agg (ints (leastR R rs plan)).toArray) ∧ rs_ = []), (fun (vs77 : Nat → Value) (v_ : Value) (rs_ : List Res) => v_ = (Value.agg #[(Value.int .i64 (stLo plan (leastR R rs plan))), (Value.int .i64 (stHi plan (leastR R rs plan)))]) ∧ rs_ = []), (fun (vs77 : Nat → Value) (v_ : Value) (rs_ : List Res) => v_ = (Value.int .i64 (stLo plan (leastR R rs plan))) ∧ rs_ = []), (fun (vs77 : Nat → Value) (v_ : Value) (rs_ : List Res) => v_ = vp ∧ rs_ = []), (fun (vs77 : Nat → Value) (v_ : Value) (rs_ : List Res) => v_ = (Value.agg (ints (mostR R rs plan)).toArray) ∧ rs_ = []), (fun (vs77 : Nat → Value) (v_ : Value) (rs_ : List Res) => v_ = (Value.agg #[(Value.int .i64 (stLo plan (mostR R rs plan))), (Value.int .i64 (stHi plan (mostR R rs plan)))]) ∧ rs_ = []), (fun (vs77 : Nat → Value) (v_ : Value) (rs_ : List Res) => v_ = (Value.int .i64 (stHi plan (mostR R rs plan))) ∧ rs_ = [])] (by decide +kernel) (by decide +kernel) rfl rfl ⟨(fun _ _ _ _ _ h_ => h_), (fun _ _ _ _ _ h_ => h_), (fun _ _ _ _ _ h_ => h_), (fun _ _ _ _ _ h_ => h_), (fun _ _ _ _ _ h_ => h_), (fun _ _ _ _ _ h_ => h_), (fun _ _ _ _ _ h_ => h_), (fun _ _ _ _ _ h_ => h_), trivial⟩ ?_ ?_
 ·skip
  refine ⟨fun a w vs77 hA hS hd => ?_, ?_⟩
  ·skip
   exact opG_of rfl (vv (op_move rfl (hA.ev rfl)) (And.intro rfl rfl))
  refine ⟨fun a w vs77 hA hS hd => ?_, ?_⟩
  ·skip
   exact opG_of rfl (vv (op_loadA rfl ty_104 (hA.ev rfl) (hS.bk 1 rfl) (l := (ints (leastR R rs plan))) (drop_take_all _ _ (by rw [ints, List.length_map]; exact (leastR_rates hR).1)) (by rw [ints, List.length_map]; exact (leastR_rates hR).1)) (And.intro rfl rfl))
  refine ⟨fun a w vs77 hA hS hd => ?_, ?_⟩
  ·skip
   obtain ⟨e0, rs0, hy0, hp0⟩ := hd 0 (by decide)
   obtain ⟨hv0, hr0⟩ := hy0; subst hr0
   rw [hv0] at e0
   obtain ⟨e1, rs1, hy1, hp1⟩ := hd 1 (by decide)
   obtain ⟨hv1, hr1⟩ := hy1; subst hr1
   rw [hv1] at e1
   exact opG_of rfl (vx (op_call rfl en_60 (ev2 (tmp_ev (slot_ev e0 rfl)) (tmp_ev (slot_ev e1 rfl))) (stretch_ok plan _ (leastR R rs plan) R.length _ (by omega) hR.1 (leastR_rates hR) hs (hS.sk 9 rfl))) (And.intro rfl rfl))
  refine ⟨fun a w vs77 hA hS hd => ?_, ?_⟩
  ·skip
   obtain ⟨e2, rs2, hy2, hp2⟩ := hd 2 (by decide)
   obtain ⟨hv2, hr2⟩ := hy2; subst hr2
   rw [hv2] at e2
   exact opG_of rfl (vv (op_fieldV rfl (tmp_ev (slot_ev e2 rfl)) (bd_fv_42_0_i64i64 _ _)) (And.intro rfl rfl))
  refine ⟨fun a w vs77 hA hS hd => ?_, ?_⟩
  ·skip
   exact opG_of rfl (vv (op_move rfl (hA.ev rfl)) (And.intro rfl rfl))
  refine ⟨fun a w vs77 hA hS hd => ?_, ?_⟩
  ·skip
   exact opG_of rfl (vv (op_loadA rfl ty_104 (hA.ev rfl) (hS.bk 0 rfl) (l := (ints (mostR R rs plan))) (drop_take_all _ _ (by rw [ints, List.length_map]; exact (mostR_rates hR).1)) (by rw [ints, List.length_map]; exact (mostR_rates hR).1)) (And.intro rfl rfl))
  refine ⟨fun a w vs77 hA hS hd => ?_, ?_⟩
  ·skip
   obtain ⟨e4, rs4, hy4, hp4⟩ := hd 4 (by decide)
   obtain ⟨hv4, hr4⟩ := hy4; subst hr4
   rw [hv4] at e4
   obtain ⟨e5, rs5, hy5, hp5⟩ := hd 5 (by decide)
   obtain ⟨hv5, hr5⟩ := hy5; subst hr5
   rw [hv5] at e5
   exact opG_of rfl (vx (op_call rfl en_60 (ev2 (tmp_ev (slot_ev e4 rfl)) (tmp_ev (slot_ev e5 rfl))) (stretch_ok plan _ (mostR R rs plan) R.length _ (by omega) hR.1 (mostR_rates hR) hs (hS.sk 9 rfl))) (And.intro rfl rfl))
  refine ⟨fun a w vs77 hA hS hd => ?_, ?_⟩
  ·skip
   obtain ⟨e6, rs6, hy6, hp6⟩ := hd 6 (by decide)
   obtain ⟨hv6, hr6⟩ := hy6; subst hr6
   rw [hv6] at e6
   exact opG_of rfl (vv (op_fieldV rfl (tmp_ev (slot_ev e6 rfl)) (bd_fv_42_1_i64i64 _ _)) (And.intro rfl rfl))
  trivial
 intro a78 w79 vs77 rsf83 hA80 hH82 hS81; clear hA76 hS73
 obtain ⟨hs_0, hy_0⟩ := hH82 0 (by decide)
 obtain ⟨hv_0, hr_0⟩ := hy_0
 obtain ⟨hs_1, hy_1⟩ := hH82 1 (by decide)
 obtain ⟨hv_1, hr_1⟩ := hy_1
 obtain ⟨hs_2, hy_2⟩ := hH82 2 (by decide)
 obtain ⟨hv_2, hr_2⟩ := hy_2
 obtain ⟨hs_3, hy_3⟩ := hH82 3 (by decide)
 obtain ⟨hv_3, hr_3⟩ := hy_3
 obtain ⟨hs_4, hy_4⟩ := hH82 4 (by decide)
 obtain ⟨hv_4, hr_4⟩ := hy_4
 obtain ⟨hs_5, hy_5⟩ := hH82 5 (by decide)
 obtain ⟨hv_5, hr_5⟩ := hy_5
 obtain ⟨hs_6, hy_6⟩ := hH82 6 (by decide)
 obtain ⟨hv_6, hr_6⟩ := hy_6
 obtain ⟨hs_7, hy_7⟩ := hH82 7 (by decide)
 obtain ⟨hv_7, hr_7⟩ := hy_7
 have hS84 : Sep NoB w w79 [(blk b65 104 (ints (mostR R rs plan))), (blk b60 104 (ints (leastR R rs plan))), (blk bj24 119 [vr, vu, (Value.map (some bm25))]), (memo bm25 (KA rs)), (blk b9 42 [(Value.int .i64 0), (Value.int .i64 0)]), (blk b4 33 [vr]), (sl vr 2 R.length (pairs R)), (sl vu 3 rs.length (vtrips (runV lv rs))), (segsR false lv rs), (sl vp 3 plan.length (trips plan))] := by rw [show catR rsf83 0 8 = ([] : List Res) by (try simp only [catR, hr_0, hr_1, hr_2, hr_3, hr_4, hr_5, hr_6, hr_7]); (try rfl)] at hS81; exact hS81
 rw [hv_3] at hs_3
 have hA85 : Fr 38 [] [(32, (Value.int .i64 (stLo plan (leastR R rs plan)))), (11, (bptr b65 0)), (10, (bptr b60 0)), (6, (bptr b9 0)), (2, vp)] a78 := hA80.add (slot_ev hs_3 rfl); clear hA80
 rw [hv_7] at hs_7
 have hA86 : Fr 38 [] [(36, (Value.int .i64 (stHi plan (mostR R rs plan)))), (32, (Value.int .i64 (stLo plan (leastR R rs plan)))), (11, (bptr b65 0)), (10, (bptr b60 0)), (6, (bptr b9 0)), (2, vp)] a78 := hA85.add (slot_ev hs_7 rfl); clear hA85
 clear hH82 hS81 hs_0 hs_1 hs_2 hs_3 hs_4 hs_5 hs_6 hs_7
 clear hr_0
 clear hv_0
 clear hr_1
 clear hv_1
 clear hr_2
 clear hv_2
 clear hr_3
 clear hv_3
 clear hr_4
 clear hv_4
 clear hr_5
 clear hv_5
 clear hr_6
 clear hv_6
 clear hr_7
 clear hv_7
 refine st hA86 (op_build rfl (pv2 (hA86.ev rfl) (hA86.ev rfl)) (bd_42_0i_1i _ _)) rfl rfl (by decide) fun a87 hA88 => ?_; clear hA86 a78
 refine sts hA88 (op_store hS84 rfl ty_42 (hA88.ev rfl) (hA88.ev rfl) (i := 4) rfl (vs := [(Value.int .i64 (stLo plan (leastR R rs plan))), (Value.int .i64 (stHi plan (mostR R rs plan)))]) rfl rfl rfl (Nat.le_of_ble_eq_true rfl)) rfl rfl ?_
 intro _ w89 hS90 hA91; clear hA88
 have hS92 : Sep NoB w w89 [(blk b65 104 (ints (mostR R rs plan))), (blk b60 104 (ints (leastR R rs plan))), (blk bj24 119 [vr, vu, (Value.map (some bm25))]), (memo bm25 (KA rs)), (blk b9 42 [(Value.int .i64 (stLo plan (leastR R rs plan))), (Value.int .i64 (stHi plan (mostR R rs plan)))]), (blk b4 33 [vr]), (sl vr 2 R.length (pairs R)), (sl vu 3 rs.length (vtrips (runV lv rs))), (segsR false lv rs), (sl vp 3 plan.length (trips plan))] := hS90; clear hS90 hS84
 refine st hA91 (op_assign rfl (evc _ _)) rfl rfl (by decide) fun a93 hA94 => ?_; clear hA91 a87
 refine wl_nil ?_
 refine then_n ?_
 refine c_ret ?_
 refine fin_run hA94 (.inl rfl) (run_results2 hA94 rfl (.cellA rfl ty_42 (hS92.bk 4 rfl) (l := [(Value.int .i64 (stLo plan (leastR R rs plan))), (Value.int .i64 (stHi plan (mostR R rs plan)))]) rfl rfl) (.tmp rfl)) ?_
 exact ⟨rfl, hS92.ext⟩

theorem life_bad (R : List (Int × Int)) (rs : List RunD) (lv : List Value) (vr vu : Value) (w : World) (hm : SlAt w vr 2 R.length (pairs R)) (hx : RunsAt w vu lv rs) (hlen : R.length ≤ 1000000) (hrl : rs.length ≤ 1000000) (band s : Int) (he : possF R rs ≠ 0) :
  Calls Try.prog 23 #[(Value.agg #[vr]), vu, (Value.int .i64 band), (Value.int .i64 s)] w (Ret fun v w' => v = .tuple #[.agg #[.int .i64 0, .int .i64 0], .int .i64 (possF R rs)] ∧ Ext NoB w w') := by
 refine calls_enterM Try.func23 rfl fun a0 hA0 => ?_
 replace hA0 : Fr 63 (marks []) [(0, (Value.agg #[vr])), (1, vu), (2, (Value.int .i64 band)), (3, (Value.int .i64 s))] a0 := hA0
 have hS0 : Sep NoB w w [(marksR []), (sl vr 2 R.length (pairs R)), (sl vu 3 rs.length (vtrips (runV lv rs))), (segsR false lv rs)] := sep_marks (sep_ro ⟨rfl, hm, rfl, hx.runs, rfl, ⟨hx.len, hx.segs⟩, trivial⟩)
 refine c_seq ?_
 refine c_region ?_
 refine stw hA0 (op_box hS0 rfl (hA0.ev rfl) (cs := [vr]) rfl) rfl rfl (by decide) ?_
 rintro a1 _ w3 ⟨b4, rfl, hS5⟩ hA2; clear hA0 hS0 a0
 refine stw hA2 (op_box hS5 rfl (hA2.ev rfl) (cs := [(Value.int .i64 band)]) rfl) rfl rfl (by decide) ?_
 rintro a6 _ w8 ⟨b9, rfl, hS10⟩ hA7; clear hA2 hS5 a1
 refine stw hA7 (op_box hS10 rfl (hA7.ev rfl) (cs := [(Value.int .i64 s)]) rfl) rfl rfl (by decide) ?_
 rintro a11 _ w13 ⟨b14, rfl, hS15⟩ hA12; clear hA7 hS10 a6
 refine stw hA12 (op_alloc hS15 rfl ze_42 (cs := [(Value.int .i64 0), (Value.int .i64 0)]) rfl) rfl rfl (by decide) ?_
 rintro a16 _ w18 ⟨b19, rfl, hS20⟩ hA17; clear hA12 hS15 a11
 refine st hA17 (op_assign rfl (evc _ _)) rfl rfl (by decide) fun a21 hA22 => ?_; clear hA17 a16
 refine wl_nil ?_
 refine then_n ?_
 refine c_seq ?_
 refine c_region ?_
 refine st hA22 (op_loadA rfl ty_33 (hA22.ev rfl) (hS20.bk 3 rfl) (l := [vr]) rfl rfl) rfl rfl (by decide) fun a23 hA24 => ?_; clear hA22 a21
 refine st hA24 (op_move rfl (hA24.ev rfl)) rfl rfl (by decide) fun a25 hA26 => ?_; clear hA24 a23
 refine stw hA26 (op_call rfl en_53 (ev2 (hA26.ev rfl) (hA26.ev rfl)) (poss_bad R rs lv vr vu _ (hm.step hS20.ext) (hx.step hS20.ext) (by omega) (by omega) he)) rfl rfl (by decide) ?_
 rintro a27 _ w29 ⟨rfl, hE30⟩ hA28; have hS31 := hS20.step hE30; clear hE30 hA26 hS20 a25
 refine st hA28 (op_move rfl (hA28.ev rfl)) rfl rfl (by decide) fun a32 hA33 => ?_; clear hA28 a27
 refine st hA33 (op_extract rfl (hA33.ev rfl) rfl) rfl rfl (by decide) fun a34 hA35 => ?_; clear hA33 a32
 refine st hA35 (op_extract rfl (hA35.ev rfl) rfl) rfl rfl (by decide) fun a36 hA37 => ?_; clear hA35 a34
 refine st hA37 (op_assign rfl (hA37.ev rfl)) rfl rfl (by decide) fun a38 hA39 => ?_; clear hA37 a36
 refine st hA39 (op_assign rfl (hA39.ev rfl)) rfl rfl (by decide) fun a40 hA41 => ?_; clear hA39 a38
 refine wl_nil ?_
 refine then_n ?_
 refine c_seq ?_
 refine c_block ?_
 refine c_seq ?_
 have hA42 := hA41.as [(11, (Value.int .i64 (possF R rs))), (10, (Value.pointer none)), (8, (bptr b19 0)), (7, (bptr b14 0)), (6, (bptr b9 0)), (4, (bptr b4 0))] rfl; clear hA41
 refine c_region ?_
 refine st hA42 (op_move rfl (hA42.ev rfl)) rfl rfl (by decide) fun a43 hA44 => ?_; clear hA42 a40
 refine st hA44 (op_neq rfl (hA44.ev rfl) (evc _ _)) rfl rfl (by decide) fun a45 hA46 => ?_; clear hA44 a43
 have hd47 : ¬ ((possF R rs) = 0) := he
 rw [decide_eq_false hd47] at hA46
 refine st hA46 (op_assign rfl (hA46.ev rfl)) rfl rfl (by decide) fun a48 hA49 => ?_; clear hA46 a45
 refine wl_nil ?_
 refine then_n ?_
 refine c_true hA49 rfl ?_
 refine c_seq ?_
 have hA50 := hA49.as [(11, (Value.int .i64 (possF R rs))), (8, (bptr b19 0))] rfl; clear hA49
 refine c_region ?_
 refine st hA50 (op_build rfl pv0 bd_42_) rfl rfl (by decide) fun a51 hA52 => ?_; clear hA50 a48
 refine st hA52 (op_move rfl (hA52.ev rfl)) rfl rfl (by decide) fun a53 hA54 => ?_; clear hA52 a51
 refine sts hA54 (op_store hS31 rfl ty_42 (hA54.ev rfl) (hA54.ev rfl) (i := 0) rfl (vs := [(Value.int .i64 0), (Value.int .i64 0)]) rfl rfl rfl (Nat.le_of_ble_eq_true rfl)) rfl rfl ?_
 intro _ w55 hS56 hA57; clear hA54
 have hS58 : Sep NoB w w55 [(blk b19 42 [(Value.int .i64 0), (Value.int .i64 0)]), (blk b14 3 [(Value.int .i64 s)]), (blk b9 3 [(Value.int .i64 band)]), (blk b4 33 [vr]), (marksR []), (sl vr 2 R.length (pairs R)), (sl vu 3 rs.length (vtrips (runV lv rs))), (segsR false lv rs)] := hS56; clear hS56 hS31
 refine st hA57 (op_assign rfl (hA57.ev rfl)) rfl rfl (by decide) fun a59 hA60 => ?_; clear hA57 a53
 refine wl_nil ?_
 refine then_n ?_
 refine c_ret ?_
 refine blk_ret ?_
 refine then_ret ?_
 have hS61 : Sep NoB w w55 [(marksR []), (blk b19 42 [(Value.int .i64 0), (Value.int .i64 0)]), (blk b14 3 [(Value.int .i64 s)]), (blk b9 3 [(Value.int .i64 band)]), (blk b4 33 [vr]), (sl vr 2 R.length (pairs R)), (sl vu 3 rs.length (vtrips (runV lv rs))), (segsR false lv rs)] := hS58.keep [4, 0, 1, 2, 3, 5, 6, 7] (by decide) _ rfl rfl; clear hS58
 refine fin_runM hA60 (.inl rfl) hS61 ?_
 intro w62 hS63; clear hS61
 refine ⟨_, (run_results2 hA60 rfl (.cellA rfl ty_42 (hS63.bk 0 rfl) (l := [(Value.int .i64 0), (Value.int .i64 0)]) rfl rfl) (.tmp rfl)), ?_⟩
 exact ⟨rfl, hS63.ext⟩

theorem life_any (R : List (Int × Int)) (rs : List RunD) (lv : List Value) (vr vu : Value) (w : World) (hm : SlAt w vr 2 R.length (pairs R)) (hx : RunsAt w vu lv rs) (hlen : R.length ≤ 1000000) (hrl : rs.length ≤ 1000000) (band s : Int) (he : possF R rs = 0) :
  Calls Try.prog 23 #[(Value.agg #[vr]), vu, (Value.int .i64 band), (Value.int .i64 s)] w (Ret fun v w' => (lifeE R rs band s = 2 ∧ v = .tuple #[.agg #[.int .i64 0, .int .i64 0], .int .i64 2] ∧ Ext NoB w w') ∨ (lifeE R rs band s = 0 ∧ v = .tuple #[.agg #[.int .i64 (lifeR (allowedF R rs) band.toNat s).1, .int .i64 (lifeR (allowedF R rs) band.toNat s).2], .int .i64 0] ∧ Ext NoB w w')) := by
 refine calls_enterM Try.func23 rfl fun a0 hA0 => ?_
 replace hA0 : Fr 63 (marks []) [(0, (Value.agg #[vr])), (1, vu), (2, (Value.int .i64 band)), (3, (Value.int .i64 s))] a0 := hA0
 have hR := (check_mat (enter_mat (poss_is he).1)).1
 have hR1 := (check_mat (enter_mat (poss_is he).1)).2.1
 have hR3 := hR.1
 have hal_ := allowed_le (rs := rs) hR
 have hV := enter_runs (poss_is he).1
 have hS0 : Sep NoB w w [(marksR []), (sl vr 2 R.length (pairs R)), (sl vu 3 rs.length (vtrips (runV lv rs))), (segsR false lv rs)] := sep_marks (sep_ro ⟨rfl, hm, rfl, hx.runs, rfl, ⟨hx.len, hx.segs⟩, trivial⟩)
 refine c_seq ?_
 refine c_region ?_
 refine stw hA0 (op_box hS0 rfl (hA0.ev rfl) (cs := [vr]) rfl) rfl rfl (by decide) ?_
 rintro a1 _ w3 ⟨b4, rfl, hS5⟩ hA2; clear hA0 hS0 a0
 refine stw hA2 (op_box hS5 rfl (hA2.ev rfl) (cs := [(Value.int .i64 band)]) rfl) rfl rfl (by decide) ?_
 rintro a6 _ w8 ⟨b9, rfl, hS10⟩ hA7; clear hA2 hS5 a1
 refine stw hA7 (op_box hS10 rfl (hA7.ev rfl) (cs := [(Value.int .i64 s)]) rfl) rfl rfl (by decide) ?_
 rintro a11 _ w13 ⟨b14, rfl, hS15⟩ hA12; clear hA7 hS10 a6
 refine stw hA12 (op_alloc hS15 rfl ze_42 (cs := [(Value.int .i64 0), (Value.int .i64 0)]) rfl) rfl rfl (by decide) ?_
 rintro a16 _ w18 ⟨b19, rfl, hS20⟩ hA17; clear hA12 hS15 a11
 refine st hA17 (op_assign rfl (evc _ _)) rfl rfl (by decide) fun a21 hA22 => ?_; clear hA17 a16
 refine wl_nil ?_
 refine then_n ?_
 refine c_seq ?_
 refine c_region ?_
 refine st hA22 (op_loadA rfl ty_33 (hA22.ev rfl) (hS20.bk 3 rfl) (l := [vr]) rfl rfl) rfl rfl (by decide) fun a23 hA24 => ?_; clear hA22 a21
 refine st hA24 (op_move rfl (hA24.ev rfl)) rfl rfl (by decide) fun a25 hA26 => ?_; clear hA24 a23
 refine stw hA26 (op_call rfl en_53 (ev2 (hA26.ev rfl) (hA26.ev rfl)) (poss_ok R rs lv vr vu _ (hm.step hS20.ext) (hx.step hS20.ext) (by omega) (by omega) he)) rfl rfl (by decide) ?_
 rintro a27 _ w29 ⟨bj32, bm33, rfl, hT30⟩ hA28; have hS31 := hS20.callS hT30 rfl; clear hT30 hA26 hS20 a25
 refine st hA28 (op_move rfl (hA28.ev rfl)) rfl rfl (by decide) fun a34 hA35 => ?_; clear hA28 a27
 refine st hA35 (op_extract rfl (hA35.ev rfl) rfl) rfl rfl (by decide) fun a36 hA37 => ?_; clear hA35 a34
 refine st hA37 (op_extract rfl (hA37.ev rfl) rfl) rfl rfl (by decide) fun a38 hA39 => ?_; clear hA37 a36
 refine st hA39 (op_assign rfl (hA39.ev rfl)) rfl rfl (by decide) fun a40 hA41 => ?_; clear hA39 a38
 refine st hA41 (op_assign rfl (hA41.ev rfl)) rfl rfl (by decide) fun a42 hA43 => ?_; clear hA41 a40
 refine wl_nil ?_
 refine then_n ?_
 refine c_seq ?_
 refine c_block ?_
 refine c_seq ?_
 have hA44 := hA43.as [(11, (Value.int .i64 0)), (10, (bptr bj32 0)), (8, (bptr b19 0)), (7, (bptr b14 0)), (6, (bptr b9 0)), (4, (bptr b4 0))] rfl; clear hA43
 refine c_region ?_
 refine st hA44 (op_move rfl (hA44.ev rfl)) rfl rfl (by decide) fun a45 hA46 => ?_; clear hA44 a42
 refine st hA46 (op_neq rfl (hA46.ev rfl) (evc _ _)) rfl rfl (by decide) fun a47 hA48 => ?_; clear hA46 a45
 refine st hA48 (op_assign rfl (hA48.ev rfl)) rfl rfl (by decide) fun a49 hA50 => ?_; clear hA48 a47
 refine wl_nil ?_
 refine then_n ?_
 refine c_false hA50 rfl ?_
 refine c_seq ?_
 refine c_region ?_
 refine st hA50 (op_load1 rfl ty_3 (hA50.ev rfl) (hS31.bk 4 rfl) rfl) rfl rfl (by decide) fun a51 hA52 => ?_; clear hA50 a49
 refine st hA52 (op_field rfl fd_33_0 (hA52.ev rfl)) rfl rfl (by decide) fun a53 hA54 => ?_; clear hA52 a51
 refine st hA54 (op_load1 rfl ty_28 (hA54.ev rfl) (hS31.bk 5 rfl) rfl) rfl rfl (by decide) fun a55 hA56 => ?_; clear hA54 a53
 refine st hA56 (op_lenS rfl un_28 (hA56.ev rfl) (hS31.sk 7 rfl)) rfl rfl (by decide) fun a57 hA58 => ?_; clear hA56 a55
 refine st hA58 (op_sub rfl (hA58.ev rfl) (evc _ _) (by omega) (by omega)) rfl rfl (by decide) fun a59 hA60 => ?_; clear hA58 a57
 refine stw hA60 (op_call rfl en_56 (ev3 (hA60.ev rfl) (evc _ _) (hA60.ev rfl)) (within_ok _ _ _ _)) rfl rfl (by decide) ?_
 rintro a61 _ W_ ⟨rfl, hW_⟩ hA62; have hW2_ := hW_.symm; subst hW2_; clear hW_ hA60 a59
 refine st hA62 (op_not rfl (hA62.ev rfl)) rfl rfl (by decide) fun a64 hA65 => ?_; clear hA62 a61
 refine st hA65 (op_move rfl (hA65.ev rfl)) rfl rfl (by decide) fun a66 hA67 => ?_; clear hA65 a64
 rcases Bool.eq_false_or_eq_true ((decide (0 ≤ band) && decide (band ≤ ((R.length : Int) - 1)))) with hb68 | hb68
 ·skip
  rw [hb68] at hA67
  have hq69 := hb68; simp only [Bool.and_eq_true, Bool.and_eq_false_iff, decide_eq_true_eq, decide_eq_false_iff_not] at hq69
  refine stg hA67 (op_load1 rfl ty_3 (hA67.ev rfl) (hS31.bk 3 rfl) rfl) rfl rfl rfl rfl (by decide) fun a70 hA71 => ?_; clear hA67 a66
  refine stwg hA71 (op_call rfl en_56 (ev3 (hA71.ev rfl) (evc _ _) (evc _ _)) (within_ok _ _ _ _)) rfl rfl rfl rfl (by decide) ?_
  rintro a72 _ W_ ⟨rfl, hW_⟩ hA73; have hW2_ := hW_.symm; subst hW2_; clear hW_ hA71 a70
  refine stg hA73 (op_not rfl (hA73.ev rfl)) rfl rfl rfl rfl (by decide) fun a75 hA76 => ?_; clear hA73 a72
  refine st hA76 (op_pick_f rfl (hA76.ev rfl) (hA76.ev rfl)) rfl rfl (by decide) fun a77 hA78 => ?_; clear hA76 a75
  refine st hA78 (op_assign rfl (hA78.ev rfl)) rfl rfl (by decide) fun a79 hA80 => ?_; clear hA78 a77
  refine wl_nil ?_
  refine then_n ?_
  rcases Bool.eq_false_or_eq_true ((decide (0 ≤ s) && decide (s ≤ 10000000000))) with hb81 | hb81
  ·skip
   rw [hb81] at hA80
   have hq82 := hb81; simp only [Bool.and_eq_true, Bool.and_eq_false_iff, decide_eq_true_eq, decide_eq_false_iff_not] at hq82
   refine c_false hA80 rfl ?_
   refine c_skip ?_
   refine blk_n ?_
   refine then_n ?_
   refine c_seq ?_
   have hA83 := hA80.as [(10, (bptr bj32 0)), (8, (bptr b19 0)), (7, (bptr b14 0)), (6, (bptr b9 0))] rfl; clear hA80
   refine c_region ?_
   refine st hA83 (op_build rfl (pv2 (evc _ _) (evc _ _)) (bd_42_0i_1i _ _)) rfl rfl (by decide) fun a84 hA85 => ?_; clear hA83 a79
   refine stw hA85 (op_alloc hS31 rfl ze_42 (cs := [(Value.int .i64 0), (Value.int .i64 0)]) rfl) rfl rfl (by decide) ?_
   rintro a86 _ w88 ⟨b89, rfl, hS90⟩ hA87; clear hA85 hS31 a84
   refine sts hA87 (op_store hS90 rfl ty_42 (hA87.ev rfl) (hA87.ev rfl) (i := 0) rfl (vs := [(Value.int .i64 (-1)), (Value.int .i64 (-1))]) rfl rfl rfl (Nat.le_of_ble_eq_true rfl)) rfl rfl ?_
   intro _ w91 hS92 hA93; clear hA87
   have hS94 : Sep NoB w w91 [(blk b89 42 [(Value.int .i64 (-1)), (Value.int .i64 (-1))]), (blk bj32 119 [vr, vu, (Value.map (some bm33))]), (memo bm33 (KA rs)), (blk b19 42 [(Value.int .i64 0), (Value.int .i64 0)]), (blk b14 3 [(Value.int .i64 s)]), (blk b9 3 [(Value.int .i64 band)]), (blk b4 33 [vr]), (marksR []), (sl vr 2 R.length (pairs R)), (sl vu 3 rs.length (vtrips (runV lv rs))), (segsR false lv rs)] := hS92; clear hS92 hS90
   refine wl_nil ?_
   refine then_n ?_
   refine c_seq ?_
   refine c_region ?_
   refine st hA93 (op_loadA rfl ty_42 (hA93.ev rfl) (hS94.bk 0 rfl) (l := [(Value.int .i64 (-1)), (Value.int .i64 (-1))]) rfl rfl) rfl rfl (by decide) fun a95 hA96 => ?_; clear hA93 a86
   refine stw hA96 (op_alloc hS94 rfl ze_42 (cs := [(Value.int .i64 0), (Value.int .i64 0)]) rfl) rfl rfl (by decide) ?_
   rintro a97 _ w99 ⟨b100, rfl, hS101⟩ hA98; clear hA96 hS94 a95
   refine stw hA98 (op_alloc hS101 rfl ze_4 (cs := [(Value.bool false)]) rfl) rfl rfl (by decide) ?_
   rintro a102 _ w104 ⟨b105, rfl, hS106⟩ hA103; clear hA98 hS101 a97
   refine sts hA103 (op_store hS106 rfl ty_42 (hA103.ev rfl) (hA103.ev rfl) (i := 1) rfl (vs := [(Value.int .i64 (-1)), (Value.int .i64 (-1))]) rfl rfl rfl (Nat.le_of_ble_eq_true rfl)) rfl rfl ?_
   intro _ w107 hS108 hA109; clear hA103
   have hS110 : Sep NoB w w107 [(blk b105 4 [(Value.bool false)]), (blk b100 42 [(Value.int .i64 (-1)), (Value.int .i64 (-1))]), (blk b89 42 [(Value.int .i64 (-1)), (Value.int .i64 (-1))]), (blk bj32 119 [vr, vu, (Value.map (some bm33))]), (memo bm33 (KA rs)), (blk b19 42 [(Value.int .i64 0), (Value.int .i64 0)]), (blk b14 3 [(Value.int .i64 s)]), (blk b9 3 [(Value.int .i64 band)]), (blk b4 33 [vr]), (marksR []), (sl vr 2 R.length (pairs R)), (sl vu 3 rs.length (vtrips (runV lv rs))), (segsR false lv rs)] := hS108; clear hS108 hS106
   refine sts hA109 (op_store hS110 rfl ty_4 (hA109.ev rfl) (evc _ _) (i := 0) rfl (vs := [(Value.bool false)]) rfl rfl rfl (Nat.le_of_ble_eq_true rfl)) rfl rfl ?_
   intro _ w111 hS112 hA113; clear hA109
   have hS114 : Sep NoB w w111 [(blk b105 4 [(Value.bool false)]), (blk b100 42 [(Value.int .i64 (-1)), (Value.int .i64 (-1))]), (blk b89 42 [(Value.int .i64 (-1)), (Value.int .i64 (-1))]), (blk bj32 119 [vr, vu, (Value.map (some bm33))]), (memo bm33 (KA rs)), (blk b19 42 [(Value.int .i64 0), (Value.int .i64 0)]), (blk b14 3 [(Value.int .i64 s)]), (blk b9 3 [(Value.int .i64 band)]), (blk b4 33 [vr]), (marksR []), (sl vr 2 R.length (pairs R)), (sl vu 3 rs.length (vtrips (runV lv rs))), (segsR false lv rs)] := hS112; clear hS112 hS110
   refine wl_nil ?_
   refine then_n ?_
   refine c_seq ?_
   refine c_seq ?_
   refine c_region ?_
   refine st hA113 (op_move rfl (hA113.ev rfl)) rfl rfl (by decide) fun a115 hA116 => ?_; clear hA113 a102
   refine stw hA116 (op_call rfl en_54 (ev1 (hA116.ev rfl)) (every_ok _ _)) rfl rfl (by decide) ?_
   rintro a117 _ w119 ⟨bx122, rfl, hT120⟩ hA118; have hS121 := hS114.callS hT120 rfl; clear hT120 hA116 hS114 a115
   refine wl_nil ?_
   refine then_n ?_
   refine c_block ?_
   have hA123 := hA118.as [(45, (Value.func (.func 78) #[] #[(bptr bx122 0)])), (14, (bptr b105 0)), (13, (bptr b100 0)), (12, (bptr b89 0)), (8, (bptr b19 0)), (7, (bptr b14 0)), (6, (bptr b9 0))] rfl; clear hA118
   have hbd : 0 ≤ band ∧ band ≤ (R.length : Int) - 1 ∧ 0 ≤ s ∧ s ≤ 10000000000 := by omega
   have hS124 : Sep NoB w w119 [(marksR []), (memo bm33 (KA rs)), (blk bx122 97 [(bptr bj32 0)]), (blk b105 4 [(Value.bool false)]), (blk b100 42 [(Value.int .i64 (-1)), (Value.int .i64 (-1))]), (blk b89 42 [(Value.int .i64 (-1)), (Value.int .i64 (-1))]), (blk bj32 119 [vr, vu, (Value.map (some bm33))]), (blk b19 42 [(Value.int .i64 0), (Value.int .i64 0)]), (blk b14 3 [(Value.int .i64 s)]), (blk b9 3 [(Value.int .i64 band)]), (blk b4 33 [vr]), (sl vr 2 R.length (pairs R)), (sl vu 3 rs.length (vtrips (runV lv rs))), (segsR false lv rs)] := hS121.keep [10, 5, 0, 1, 2, 3, 4, 6, 7, 8, 9, 11, 12, 13] (by decide) _ rfl rfl; clear hS121
   refine c_rangeG hA123 (memo bm33 (KA rs)) rfl hS124 (hA123.ev rfl) en_78 ((allowedF R rs).length) (fun k => #[.agg (ints ((allowedF R rs).getD k [])).toArray]) (fun _ => rfl) [rob bx122 97 [bptr bj32 0], rob bj32 119 [vr, vu, .map (some bm33)], sl vr 2 R.length (pairs R), sl vu 3 rs.length (vtrips (runV lv rs)), segsR false lv rs] (fun r hr => by simp only [List.mem_cons, List.not_mem_nil, or_false] at hr; rcases hr with rfl | rfl | rfl | rfl | rfl <;> rfl) (every_it bx122 bj32 bm33 R rs lv vr vu R.length hR.1 hR hV hx.len) (fun q L_ => L_ = [(blk bx122 97 [(bptr bj32 0)]), (blk b105 4 [(Value.bool ((lifeU (allowedF R rs) band.toNat s q).2))]), (blk b100 42 [(Value.int .i64 ((lifeU (allowedF R rs) band.toNat s q).1.1)), (Value.int .i64 ((lifeU (allowedF R rs) band.toNat s q).1.2))]), (blk b89 42 [(Value.int .i64 (-1)), (Value.int .i64 (-1))]), (blk bj32 119 [vr, vu, (Value.map (some bm33))]), (blk b19 42 [(Value.int .i64 0), (Value.int .i64 0)]), (blk b14 3 [(Value.int .i64 s)]), (blk b9 3 [(Value.int .i64 band)]), (blk b4 33 [vr]), (sl vr 2 R.length (pairs R)), (sl vu 3 rs.length (vtrips (runV lv rs))), (segsR false lv rs)]) (fun _ => False) none rfl (fun q L_ hI_ G_ W_ r1_ r2_ hW_ => by obtain ⟨rfl⟩ := hI_; exact (Sep.keep ((hW_.to_ro (i := 3) rfl).to_ro (i := 7) rfl) [2, 3, 7, 12, 13, 14] (by decide) _ rfl rfl)) (fun L_ hI_ => hI_.elim) ?_ ?_ (fun _ hc_ => by cases hc_)
   ·skip
    intro q hq L_ hL_ G133 hG134 l130 D131 rc132 a125 w126 ha129 hS127; obtain ⟨rfl⟩ := hL_
    have hA128 : Fr 63 [] [(46, (Value.agg (ints ((allowedF R rs).getD q [])).toArray)), (45, (Value.func (.func 78) #[] #[(bptr bx122 0)])), (14, (bptr b105 0)), (13, (bptr b100 0)), (12, (bptr b89 0)), (8, (bptr b19 0)), (7, (bptr b14 0)), (6, (bptr b9 0))] a125 := by rw [ha129]; exact Fr.round1 hA123 (by decide)
    clear ha129 hS124
    have har := (allowed_rates hR hq).1; have hl3 := har.1; have hrb := har.2 band.toNat
    refine c_region ?_
    refine stw hA128 (op_alloc hS127 rfl ze_104 (cs := [(Value.int .i64 0), (Value.int .i64 0), (Value.int .i64 0)]) rfl) rfl rfl (by decide) ?_
    rintro a135 _ w137 ⟨b138, rfl, hS139⟩ hA136; clear hA128 hS127 a125
    refine sts hA136 (op_store hS139 rfl ty_104 (hA136.ev rfl) (hA136.ev rfl) (i := 0) rfl (vs := (ints ((allowedF R rs).getD q []))) rfl (allowed_len3 hR hq).symm (ints_one _) (by decide)) rfl rfl ?_
    intro _ w140 hS141 hA143; have hS142 := hS141.blk_say (i := 0) rfl (cs' := (ints ((allowedF R rs).getD q []))) (setFrom_all _ _ (Eq.symm (allowed_len3 hR hq).symm)); clear hS141 hA136 hS139
    refine wl_nil ?_
    have hS144 : Sep NoB w w140 [(obR l130 (.loop (rc132 .ready none))), (marksR (D131 :: [])), G133, (blk b138 104 (ints ((allowedF R rs).getD q []))), (blk bx122 97 [(bptr bj32 0)]), (blk b105 4 [(Value.bool ((lifeU (allowedF R rs) band.toNat s q).2))]), (blk b100 42 [(Value.int .i64 ((lifeU (allowedF R rs) band.toNat s q).1.1)), (Value.int .i64 ((lifeU (allowedF R rs) band.toNat s q).1.2))]), (blk b89 42 [(Value.int .i64 (-1)), (Value.int .i64 (-1))]), (blk bj32 119 [vr, vu, (Value.map (some bm33))]), (blk b19 42 [(Value.int .i64 0), (Value.int .i64 0)]), (blk b14 3 [(Value.int .i64 s)]), (blk b9 3 [(Value.int .i64 band)]), (blk b4 33 [vr]), (sl vr 2 R.length (pairs R)), (sl vu 3 rs.length (vtrips (runV lv rs))), (segsR false lv rs)] := hS142.keep [1, 2, 3, 0, 4, 5, 6, 7, 8, 9, 10, 11, 12, 13, 14, 15] (by decide) _ rfl rfl; clear hS142
    refine ⟨rfl, _, hS144, ?_⟩; intro w145 hS146; clear hS144
    refine c_block ?_
    refine c_seq ?_
    have hA147 := hA143.as [(15, (bptr b138 0)), (14, (bptr b105 0)), (13, (bptr b100 0)), (12, (bptr b89 0)), (7, (bptr b14 0)), (6, (bptr b9 0))] rfl; clear hA143
    refine c_drawV mixed hA147 hS146 4 [[], [0], [1], []] [(fun (vs148 : Nat → Value) (v_ : Value) (rs_ : List Res) => v_ = (Value.int .i64 band) ∧ rs_ = []), (fun (vs148 : Nat → Value) (v_ : Value) (rs_ : List Res) => v_ = (bptr b138 (0 + band.toNat * 1)) ∧ rs_ = []), (fun (vs148 : Nat → Value) (v_ : Value) (rs_ : List Res) => v_ = (Value.int .i64 (((allowedF R rs).getD q []).getD band.toNat 0)) ∧ rs_ = []), (fun (vs148 : Nat → Value) (v_ : Value) (rs_ : List Res) => v_ = (Value.int .i64 s) ∧ rs_ = [])] (by decide +kernel) (by decide +kernel) rfl rfl ⟨(fun _ _ _ _ _ h_ => h_), (fun _ _ _ _ _ h_ => h_), (fun _ _ _ _ _ h_ => h_), (fun _ _ _ _ _ h_ => h_), trivial⟩ ?_ ?_
    ·skip
     refine ⟨fun a w vs148 hA hS hd => ?_, ?_⟩
     ·skip
      exact opG_of rfl (vv (op_load1 rfl ty_3 (hA.ev rfl) (hS.bk 11 rfl) rfl) (And.intro rfl rfl))
     refine ⟨fun a w vs148 hA hS hd => ?_, ?_⟩
     ·skip
      obtain ⟨e0, rs0, hy0, hp0⟩ := hd 0 (by decide)
      obtain ⟨hv0, hr0⟩ := hy0; subst hr0
      rw [hv0] at e0
      exact opG_of rfl (vv (op_indexA rfl un_104 ty_3 (hA.ev rfl) (i := band.toNat) ((tmp_ev (slot_ev e0 rfl)).trans (int_nat (by omega))) (by omega)) (And.intro rfl rfl))
     refine ⟨fun a w vs148 hA hS hd => ?_, ?_⟩
     ·skip
      obtain ⟨e1, rs1, hy1, hp1⟩ := hd 1 (by decide)
      obtain ⟨hv1, hr1⟩ := hy1; subst hr1
      rw [hv1] at e1
      exact opG_of rfl (vv (op_load1 rfl ty_3 (tmp_ev (slot_ev e1 rfl)) (hS.bk 3 rfl) (ints_at' (by first | (simp only [List.length_set]; omega) | omega))) (And.intro rfl rfl))
     refine ⟨fun a w vs148 hA hS hd => ?_, ?_⟩
     ·skip
      exact opG_of rfl (vv (op_load1 rfl ty_3 (hA.ev rfl) (hS.bk 10 rfl) rfl) (And.intro rfl rfl))
     trivial
    intro a149 w150 vs148 rsf154 hA151 hH153 hS152; clear hA147 hS146
    obtain ⟨hs_0, hy_0⟩ := hH153 0 (by decide)
    obtain ⟨hv_0, hr_0⟩ := hy_0
    obtain ⟨hs_1, hy_1⟩ := hH153 1 (by decide)
    obtain ⟨hv_1, hr_1⟩ := hy_1
    obtain ⟨hs_2, hy_2⟩ := hH153 2 (by decide)
    obtain ⟨hv_2, hr_2⟩ := hy_2
    obtain ⟨hs_3, hy_3⟩ := hH153 3 (by decide)
    obtain ⟨hv_3, hr_3⟩ := hy_3
    have hS155 : Sep NoB w w150 [(obR l130 (.loop (rc132 .busy none))), (marksR (D131 :: [])), G133, (blk b138 104 (ints ((allowedF R rs).getD q []))), (blk bx122 97 [(bptr bj32 0)]), (blk b105 4 [(Value.bool ((lifeU (allowedF R rs) band.toNat s q).2))]), (blk b100 42 [(Value.int .i64 ((lifeU (allowedF R rs) band.toNat s q).1.1)), (Value.int .i64 ((lifeU (allowedF R rs) band.toNat s q).1.2))]), (blk b89 42 [(Value.int .i64 (-1)), (Value.int .i64 (-1))]), (blk bj32 119 [vr, vu, (Value.map (some bm33))]), (blk b19 42 [(Value.int .i64 0), (Value.int .i64 0)]), (blk b14 3 [(Value.int .i64 s)]), (blk b9 3 [(Value.int .i64 band)]), (blk b4 33 [vr]), (sl vr 2 R.length (pairs R)), (sl vu 3 rs.length (vtrips (runV lv rs))), (segsR false lv rs)] := by rw [show catR rsf154 0 4 = ([] : List Res) by (try simp only [catR, hr_0, hr_1, hr_2, hr_3]); (try rfl)] at hS152; exact hS152
    rw [hv_2] at hs_2
    have hA156 : Fr 63 [] [(49, (Value.int .i64 (((allowedF R rs).getD q []).getD band.toNat 0))), (15, (bptr b138 0)), (14, (bptr b105 0)), (13, (bptr b100 0)), (12, (bptr b89 0)), (7, (bptr b14 0)), (6, (bptr b9 0))] a149 := hA151.add (slot_ev hs_2 rfl); clear hA151
    rw [hv_3] at hs_3
    have hA157 : Fr 63 [] [(50, (Value.int .i64 s)), (49, (Value.int .i64 (((allowedF R rs).getD q []).getD band.toNat 0))), (15, (bptr b138 0)), (14, (bptr b105 0)), (13, (bptr b100 0)), (12, (bptr b89 0)), (7, (bptr b14 0)), (6, (bptr b9 0))] a149 := hA156.add (slot_ev hs_3 rfl); clear hA156
    clear hH153 hS152 hs_0 hs_1 hs_2 hs_3
    clear hr_0
    clear hv_0
    clear hr_1
    clear hv_1
    clear hr_2
    clear hv_2
    clear hr_3
    clear hv_3
    refine stw hA157 (op_call rfl en_57 (ev2 (hA157.ev rfl) (hA157.ev rfl)) (hours_ok _ _ _ (by omega) (by omega))) rfl rfl (by decide) ?_
    rintro a158 _ w160 ⟨rfl, hE161⟩ hA159; have hS162 := hS155.step hE161; clear hE161 hA157 hS155 a149
    refine st hA159 (op_assign rfl (hA159.ev rfl)) rfl rfl (by decide) fun a163 hA164 => ?_; clear hA159 a158
    refine wl_nil ?_
    refine then_n ?_
    refine c_seq ?_
    refine c_seq ?_
    have hA165 := hA164.as [(16, (Value.int .i64 (hoursF (((allowedF R rs).getD q []).getD band.toNat 0) s))), (14, (bptr b105 0)), (13, (bptr b100 0)), (12, (bptr b89 0))] rfl; clear hA164
    refine c_region ?_
    refine st hA165 (op_move rfl (hA165.ev rfl)) rfl rfl (by decide) fun a166 hA167 => ?_; clear hA165 a163
    refine st hA167 (op_eql rfl (hA167.ev rfl) (evc _ _)) rfl rfl (by decide) fun a168 hA169 => ?_; clear hA167 a166
    refine wl_nil ?_
    refine then_n ?_
    by_cases hb170 : (hoursF (((allowedF R rs).getD q []).getD band.toNat 0) s) = (-1)
    ·skip
     rw [decide_eq_true hb170] at hA169
     refine c_true hA169 rfl ?_
     refine c_seq ?_
     refine c_region ?_
     refine sts hA169 (op_store hS162 rfl ty_4 (hA169.ev rfl) (evc _ _) (i := 5) rfl (vs := [(Value.bool true)]) rfl rfl rfl (Nat.le_of_ble_eq_true rfl)) rfl rfl ?_
     intro _ w171 hS172 hA173; clear hA169
     have hS174 : Sep NoB w w171 [(obR l130 (.loop (rc132 .busy none))), (marksR (D131 :: [])), G133, (blk b138 104 (ints ((allowedF R rs).getD q []))), (blk bx122 97 [(bptr bj32 0)]), (blk b105 4 [(Value.bool true)]), (blk b100 42 [(Value.int .i64 ((lifeU (allowedF R rs) band.toNat s q).1.1)), (Value.int .i64 ((lifeU (allowedF R rs) band.toNat s q).1.2))]), (blk b89 42 [(Value.int .i64 (-1)), (Value.int .i64 (-1))]), (blk bj32 119 [vr, vu, (Value.map (some bm33))]), (blk b19 42 [(Value.int .i64 0), (Value.int .i64 0)]), (blk b14 3 [(Value.int .i64 s)]), (blk b9 3 [(Value.int .i64 band)]), (blk b4 33 [vr]), (sl vr 2 R.length (pairs R)), (sl vu 3 rs.length (vtrips (runV lv rs))), (segsR false lv rs)] := hS172; clear hS172 hS162
     refine wl_nil ?_
     refine then_n ?_
     refine c_exit ?_
     refine then_exit ?_
     refine blk_hit ?_
     have hS175 : Sep NoB w w171 [(obR l130 (.loop (rc132 .busy none))), (marksR (D131 :: [])), G133, (blk bx122 97 [(bptr bj32 0)]), (blk b105 4 [(Value.bool true)]), (blk b100 42 [(Value.int .i64 ((lifeU (allowedF R rs) band.toNat s q).1.1)), (Value.int .i64 ((lifeU (allowedF R rs) band.toNat s q).1.2))]), (blk b89 42 [(Value.int .i64 (-1)), (Value.int .i64 (-1))]), (blk bj32 119 [vr, vu, (Value.map (some bm33))]), (blk b19 42 [(Value.int .i64 0), (Value.int .i64 0)]), (blk b14 3 [(Value.int .i64 s)]), (blk b9 3 [(Value.int .i64 band)]), (blk b4 33 [vr]), (sl vr 2 R.length (pairs R)), (sl vu 3 rs.length (vtrips (runV lv rs))), (segsR false lv rs)] := hS174.keep [0, 1, 2, 4, 5, 6, 7, 8, 9, 10, 11, 12, 13, 14, 15] (by decide) _ rfl rfl; clear hS174
     exact re_n ⟨_, rfl, rfl⟩ ((hS175.blk_say (i := 5) rfl (cs' := [.int .i64 (lifeU (allowedF R rs) band.toNat s (q + 1)).1.1, .int .i64 (lifeU (allowedF R rs) band.toNat s (q + 1)).1.2]) (by first | (rw [lifeU_y (by assumption)]; done) | (rw [lifeU_n (by assumption)]; done) | (rw [lifeU_n (by assumption)]; rfl))).blk_say (i := 4) rfl (cs' := [Value.bool (lifeU (allowedF R rs) band.toNat s (q + 1)).2]) (by first | (rw [lifeU_y (by assumption)]; done) | (rw [lifeU_n (by assumption)]; done) | (rw [lifeU_n (by assumption)]; rfl)))
    ·skip
     rw [decide_eq_false hb170] at hA169
     refine c_false hA169 rfl ?_
     refine c_skip ?_
     refine then_n ?_
     have hA176 := hA169.as [(16, (Value.int .i64 (hoursF (((allowedF R rs).getD q []).getD band.toNat 0) s))), (13, (bptr b100 0)), (12, (bptr b89 0))] rfl; clear hA169
     refine c_drawV mixed hA176 hS162 5 [[], [], [], [], [2, 3]] [(fun (vs177 : Nat → Value) (v_ : Value) (rs_ : List Res) => v_ = (Value.agg #[(Value.int .i64 ((lifeU (allowedF R rs) band.toNat s q).1.1)), (Value.int .i64 ((lifeU (allowedF R rs) band.toNat s q).1.2))]) ∧ rs_ = []), (fun (vs177 : Nat → Value) (v_ : Value) (rs_ : List Res) => v_ = (Value.int .i64 (hoursF (((allowedF R rs).getD q []).getD band.toNat 0) s)) ∧ rs_ = []), (fun (vs177 : Nat → Value) (v_ : Value) (rs_ : List Res) => v_ = (Value.agg #[(Value.int .i64 ((lifeU (allowedF R rs) band.toNat s q).1.1)), (Value.int .i64 ((lifeU (allowedF R rs) band.toNat s q).1.2))]) ∧ rs_ = []), (fun (vs177 : Nat → Value) (v_ : Value) (rs_ : List Res) => v_ = (Value.agg #[(Value.int .i64 (-1)), (Value.int .i64 (-1))]) ∧ rs_ = []), (fun (vs177 : Nat → Value) (v_ : Value) (rs_ : List Res) => v_ = (Value.bool (decide ((((lifeU (allowedF R rs) band.toNat s q).1.1) : Int) = (-1)) && decide ((((lifeU (allowedF R rs) band.toNat s q).1.2) : Int) = (-1)))) ∧ rs_ = [])] (by decide +kernel) (by decide +kernel) rfl rfl ⟨(fun _ _ _ _ _ h_ => h_), (fun _ _ _ _ _ h_ => h_), (fun _ _ _ _ _ h_ => h_), (fun _ _ _ _ _ h_ => h_), (fun _ _ _ _ _ h_ => h_), trivial⟩ ?_ ?_
     ·skip
      refine ⟨fun a w vs177 hA hS hd => ?_, ?_⟩
      ·skip
       exact opG_of rfl (vv (op_loadA rfl ty_42 (hA.ev rfl) (hS.bk 6 rfl) (l := [(Value.int .i64 ((lifeU (allowedF R rs) band.toNat s q).1.1)), (Value.int .i64 ((lifeU (allowedF R rs) band.toNat s q).1.2))]) rfl rfl) (And.intro rfl rfl))
      refine ⟨fun a w vs177 hA hS hd => ?_, ?_⟩
      ·skip
       exact opG_of rfl (vv (op_move rfl (hA.ev rfl)) (And.intro rfl rfl))
      refine ⟨fun a w vs177 hA hS hd => ?_, ?_⟩
      ·skip
       exact opG_of rfl (vv (op_loadA rfl ty_42 (hA.ev rfl) (hS.bk 6 rfl) (l := [(Value.int .i64 ((lifeU (allowedF R rs) band.toNat s q).1.1)), (Value.int .i64 ((lifeU (allowedF R rs) band.toNat s q).1.2))]) rfl rfl) (And.intro rfl rfl))
      refine ⟨fun a w vs177 hA hS hd => ?_, ?_⟩
      ·skip
       exact opG_of rfl (vv (op_loadA rfl ty_42 (hA.ev rfl) (hS.bk 7 rfl) (l := [(Value.int .i64 (-1)), (Value.int .i64 (-1))]) rfl rfl) (And.intro rfl rfl))
      refine ⟨fun a w vs177 hA hS hd => ?_, ?_⟩
      ·skip
       obtain ⟨e2, rs2, hy2, hp2⟩ := hd 2 (by decide)
       obtain ⟨hv2, hr2⟩ := hy2; subst hr2
       rw [hv2] at e2
       obtain ⟨e3, rs3, hy3, hp3⟩ := hd 3 (by decide)
       obtain ⟨hv3, hr3⟩ := hy3; subst hr3
       rw [hv3] at e3
       exact opG_of rfl (vv (op_eqlP tw_42 rfl (tmp_ev (slot_ev e2 rfl)) (tmp_ev (slot_ev e3 rfl))) (And.intro rfl rfl))
      trivial
     intro a178 w179 vs177 rsf183 hA180 hH182 hS181; clear hA176 hS162
     obtain ⟨hs_0, hy_0⟩ := hH182 0 (by decide)
     obtain ⟨hv_0, hr_0⟩ := hy_0
     obtain ⟨hs_1, hy_1⟩ := hH182 1 (by decide)
     obtain ⟨hv_1, hr_1⟩ := hy_1
     obtain ⟨hs_2, hy_2⟩ := hH182 2 (by decide)
     obtain ⟨hv_2, hr_2⟩ := hy_2
     obtain ⟨hs_3, hy_3⟩ := hH182 3 (by decide)
     obtain ⟨hv_3, hr_3⟩ := hy_3
     obtain ⟨hs_4, hy_4⟩ := hH182 4 (by decide)
     obtain ⟨hv_4, hr_4⟩ := hy_4
     have hS184 : Sep NoB w w179 [(obR l130 (.loop (rc132 .busy none))), (marksR (D131 :: [])), G133, (blk b138 104 (ints ((allowedF R rs).getD q []))), (blk bx122 97 [(bptr bj32 0)]), (blk b105 4 [(Value.bool ((lifeU (allowedF R rs) band.toNat s q).2))]), (blk b100 42 [(Value.int .i64 ((lifeU (allowedF R rs) band.toNat s q).1.1)), (Value.int .i64 ((lifeU (allowedF R rs) band.toNat s q).1.2))]), (blk b89 42 [(Value.int .i64 (-1)), (Value.int .i64 (-1))]), (blk bj32 119 [vr, vu, (Value.map (some bm33))]), (blk b19 42 [(Value.int .i64 0), (Value.int .i64 0)]), (blk b14 3 [(Value.int .i64 s)]), (blk b9 3 [(Value.int .i64 band)]), (blk b4 33 [vr]), (sl vr 2 R.length (pairs R)), (sl vu 3 rs.length (vtrips (runV lv rs))), (segsR false lv rs)] := by rw [show catR rsf183 0 5 = ([] : List Res) by (try simp only [catR, hr_0, hr_1, hr_2, hr_3, hr_4]); (try rfl)] at hS181; exact hS181
     rw [hv_0] at hs_0
     have hA185 : Fr 63 [] [(54, (Value.agg #[(Value.int .i64 ((lifeU (allowedF R rs) band.toNat s q).1.1)), (Value.int .i64 ((lifeU (allowedF R rs) band.toNat s q).1.2))])), (16, (Value.int .i64 (hoursF (((allowedF R rs).getD q []).getD band.toNat 0) s))), (13, (bptr b100 0)), (12, (bptr b89 0))] a178 := hA180.add (slot_ev hs_0 rfl); clear hA180
     rw [hv_1] at hs_1
     have hA186 : Fr 63 [] [(55, (Value.int .i64 (hoursF (((allowedF R rs).getD q []).getD band.toNat 0) s))), (54, (Value.agg #[(Value.int .i64 ((lifeU (allowedF R rs) band.toNat s q).1.1)), (Value.int .i64 ((lifeU (allowedF R rs) band.toNat s q).1.2))])), (16, (Value.int .i64 (hoursF (((allowedF R rs).getD q []).getD band.toNat 0) s))), (13, (bptr b100 0)), (12, (bptr b89 0))] a178 := hA185.add (slot_ev hs_1 rfl); clear hA185
     rw [hv_4] at hs_4
     have hA187 : Fr 63 [] [(58, (Value.bool (decide ((((lifeU (allowedF R rs) band.toNat s q).1.1) : Int) = (-1)) && decide ((((lifeU (allowedF R rs) band.toNat s q).1.2) : Int) = (-1))))), (55, (Value.int .i64 (hoursF (((allowedF R rs).getD q []).getD band.toNat 0) s))), (54, (Value.agg #[(Value.int .i64 ((lifeU (allowedF R rs) band.toNat s q).1.1)), (Value.int .i64 ((lifeU (allowedF R rs) band.toNat s q).1.2))])), (16, (Value.int .i64 (hoursF (((allowedF R rs).getD q []).getD band.toNat 0) s))), (13, (bptr b100 0)), (12, (bptr b89 0))] a178 := hA186.add (slot_ev hs_4 rfl); clear hA186
     clear hH182 hS181 hs_0 hs_1 hs_2 hs_3 hs_4
     clear hr_0
     clear hv_0
     clear hr_1
     clear hv_1
     clear hr_2
     clear hv_2
     clear hr_3
     clear hv_3
     clear hr_4
     clear hv_4
     refine stw hA187 (op_call rfl en_55 (ev3 (hA187.ev rfl) (hA187.ev rfl) (hA187.ev rfl)) (with_ok _ _ _ (decide ((((lifeU (allowedF R rs) band.toNat s q).1.1) : Int) = (-1)) && decide ((((lifeU (allowedF R rs) band.toNat s q).1.2) : Int) = (-1))) _)) rfl rfl (by decide) ?_
     rintro a188 _ w190 ⟨rfl, hE191⟩ hA189; have hS192 := hS184.step hE191; clear hE191 hA187 hS184 a178
     refine sts hA189 (op_store hS192 rfl ty_42 (hA189.ev rfl) (hA189.ev rfl) (i := 6) rfl (vs := [(Value.int .i64 (if (decide ((((lifeU (allowedF R rs) band.toNat s q).1.1) : Int) = (-1)) && decide ((((lifeU (allowedF R rs) band.toNat s q).1.2) : Int) = (-1))) = true then hoursF (((allowedF R rs).getD q []).getD band.toNat 0) s else min ((lifeU (allowedF R rs) band.toNat s q).1.1) (hoursF (((allowedF R rs).getD q []).getD band.toNat 0) s))), (Value.int .i64 (if (decide ((((lifeU (allowedF R rs) band.toNat s q).1.1) : Int) = (-1)) && decide ((((lifeU (allowedF R rs) band.toNat s q).1.2) : Int) = (-1))) = true then hoursF (((allowedF R rs).getD q []).getD band.toNat 0) s else max ((lifeU (allowedF R rs) band.toNat s q).1.2) (hoursF (((allowedF R rs).getD q []).getD band.toNat 0) s)))]) rfl rfl rfl (Nat.le_of_ble_eq_true rfl)) rfl rfl ?_
     intro _ w193 hS194 hA195; clear hA189
     have hS196 : Sep NoB w w193 [(obR l130 (.loop (rc132 .busy none))), (marksR (D131 :: [])), G133, (blk b138 104 (ints ((allowedF R rs).getD q []))), (blk bx122 97 [(bptr bj32 0)]), (blk b105 4 [(Value.bool ((lifeU (allowedF R rs) band.toNat s q).2))]), (blk b100 42 [(Value.int .i64 (if (decide ((((lifeU (allowedF R rs) band.toNat s q).1.1) : Int) = (-1)) && decide ((((lifeU (allowedF R rs) band.toNat s q).1.2) : Int) = (-1))) = true then hoursF (((allowedF R rs).getD q []).getD band.toNat 0) s else min ((lifeU (allowedF R rs) band.toNat s q).1.1) (hoursF (((allowedF R rs).getD q []).getD band.toNat 0) s))), (Value.int .i64 (if (decide ((((lifeU (allowedF R rs) band.toNat s q).1.1) : Int) = (-1)) && decide ((((lifeU (allowedF R rs) band.toNat s q).1.2) : Int) = (-1))) = true then hoursF (((allowedF R rs).getD q []).getD band.toNat 0) s else max ((lifeU (allowedF R rs) band.toNat s q).1.2) (hoursF (((allowedF R rs).getD q []).getD band.toNat 0) s)))]), (blk b89 42 [(Value.int .i64 (-1)), (Value.int .i64 (-1))]), (blk bj32 119 [vr, vu, (Value.map (some bm33))]), (blk b19 42 [(Value.int .i64 0), (Value.int .i64 0)]), (blk b14 3 [(Value.int .i64 s)]), (blk b9 3 [(Value.int .i64 band)]), (blk b4 33 [vr]), (sl vr 2 R.length (pairs R)), (sl vu 3 rs.length (vtrips (runV lv rs))), (segsR false lv rs)] := hS194; clear hS194 hS192
     refine wl_nil ?_
     refine blk_n ?_
     have hS197 : Sep NoB w w193 [(obR l130 (.loop (rc132 .busy none))), (marksR (D131 :: [])), G133, (blk bx122 97 [(bptr bj32 0)]), (blk b105 4 [(Value.bool ((lifeU (allowedF R rs) band.toNat s q).2))]), (blk b100 42 [(Value.int .i64 (if (decide ((((lifeU (allowedF R rs) band.toNat s q).1.1) : Int) = (-1)) && decide ((((lifeU (allowedF R rs) band.toNat s q).1.2) : Int) = (-1))) = true then hoursF (((allowedF R rs).getD q []).getD band.toNat 0) s else min ((lifeU (allowedF R rs) band.toNat s q).1.1) (hoursF (((allowedF R rs).getD q []).getD band.toNat 0) s))), (Value.int .i64 (if (decide ((((lifeU (allowedF R rs) band.toNat s q).1.1) : Int) = (-1)) && decide ((((lifeU (allowedF R rs) band.toNat s q).1.2) : Int) = (-1))) = true then hoursF (((allowedF R rs).getD q []).getD band.toNat 0) s else max ((lifeU (allowedF R rs) band.toNat s q).1.2) (hoursF (((allowedF R rs).getD q []).getD band.toNat 0) s)))]), (blk b89 42 [(Value.int .i64 (-1)), (Value.int .i64 (-1))]), (blk bj32 119 [vr, vu, (Value.map (some bm33))]), (blk b19 42 [(Value.int .i64 0), (Value.int .i64 0)]), (blk b14 3 [(Value.int .i64 s)]), (blk b9 3 [(Value.int .i64 band)]), (blk b4 33 [vr]), (sl vr 2 R.length (pairs R)), (sl vu 3 rs.length (vtrips (runV lv rs))), (segsR false lv rs)] := hS196.keep [0, 1, 2, 4, 5, 6, 7, 8, 9, 10, 11, 12, 13, 14, 15] (by decide) _ rfl rfl; clear hS196
     exact re_n ⟨_, rfl, rfl⟩ ((hS197.blk_say (i := 5) rfl (cs' := [.int .i64 (lifeU (allowedF R rs) band.toNat s (q + 1)).1.1, .int .i64 (lifeU (allowedF R rs) band.toNat s (q + 1)).1.2]) (by first | (rw [lifeU_y (by assumption)]; done) | (rw [lifeU_n (by assumption)]; done) | (rw [lifeU_n (by assumption)]; rfl))).blk_say (i := 4) rfl (cs' := [Value.bool (lifeU (allowedF R rs) band.toNat s (q + 1)).2]) (by first | (rw [lifeU_y (by assumption)]; done) | (rw [lifeU_n (by assumption)]; done) | (rw [lifeU_n (by assumption)]; rfl)))
   intro L_ hL_ D202 a198 w199 hA201 hS200; obtain ⟨rfl⟩ := hL_; clear hA123 hS124
   refine blk_n ?_
   refine then_n ?_
   refine c_seq ?_
   refine c_seq ?_
   refine c_region ?_
   refine st hA201 (op_load1 rfl ty_4 (hA201.ev rfl) (hS200.bk 3 rfl) rfl) rfl rfl (by decide) fun a203 hA204 => ?_; clear hA201 a198
   refine wl_nil ?_
   refine then_n ?_
   rcases Bool.eq_false_or_eq_true ((lifeU (allowedF R rs) band.toNat s (allowedF R rs).length).2) with hb205 | hb205
   ·skip
    rw [hb205] at hA204
    refine c_true hA204 rfl ?_
    have hA206 := hA204.as [(13, (bptr b100 0)), (8, (bptr b19 0))] rfl; clear hA204
    refine c_region ?_
    refine st hA206 (op_field rfl fd_42_1 (hA206.ev rfl)) rfl rfl (by decide) fun a207 hA208 => ?_; clear hA206 a203
    refine sts hA208 (op_store hS200 rfl ty_3 (hA208.ev rfl) (evc _ _) (i := 4) rfl (vs := [(Value.int .i64 (-1))]) rfl rfl rfl (Nat.le_of_ble_eq_true rfl)) rfl rfl ?_
    intro _ w209 hS210 hA211; clear hA208
    have hS212 : Sep NoB w w209 [(marksR (D202 :: [])), (memo bm33 (KA rs)), (blk bx122 97 [(bptr bj32 0)]), (blk b105 4 [(Value.bool ((lifeU (allowedF R rs) band.toNat s (allowedF R rs).length).2))]), (blk b100 42 [(Value.int .i64 ((lifeU (allowedF R rs) band.toNat s (allowedF R rs).length).1.1)), (Value.int .i64 (-1))]), (blk b89 42 [(Value.int .i64 (-1)), (Value.int .i64 (-1))]), (blk bj32 119 [vr, vu, (Value.map (some bm33))]), (blk b19 42 [(Value.int .i64 0), (Value.int .i64 0)]), (blk b14 3 [(Value.int .i64 s)]), (blk b9 3 [(Value.int .i64 band)]), (blk b4 33 [vr]), (sl vr 2 R.length (pairs R)), (sl vu 3 rs.length (vtrips (runV lv rs))), (segsR false lv rs)] := hS210; clear hS210 hS200
    refine wl_nil ?_
    refine then_n ?_
    refine c_seq ?_
    refine c_region ?_
    refine st hA211 (op_loadA rfl ty_42 (hA211.ev rfl) (hS212.bk 4 rfl) (l := [(Value.int .i64 ((lifeU (allowedF R rs) band.toNat s (allowedF R rs).length).1.1)), (Value.int .i64 (-1))]) rfl rfl) rfl rfl (by decide) fun a213 hA214 => ?_; clear hA211 a207
    refine sts hA214 (op_store hS212 rfl ty_42 (hA214.ev rfl) (hA214.ev rfl) (i := 7) rfl (vs := [(Value.int .i64 ((lifeU (allowedF R rs) band.toNat s (allowedF R rs).length).1.1)), (Value.int .i64 (-1))]) rfl rfl rfl (Nat.le_of_ble_eq_true rfl)) rfl rfl ?_
    intro _ w215 hS216 hA217; clear hA214
    have hS218 : Sep NoB w w215 [(marksR (D202 :: [])), (memo bm33 (KA rs)), (blk bx122 97 [(bptr bj32 0)]), (blk b105 4 [(Value.bool ((lifeU (allowedF R rs) band.toNat s (allowedF R rs).length).2))]), (blk b100 42 [(Value.int .i64 ((lifeU (allowedF R rs) band.toNat s (allowedF R rs).length).1.1)), (Value.int .i64 (-1))]), (blk b89 42 [(Value.int .i64 (-1)), (Value.int .i64 (-1))]), (blk bj32 119 [vr, vu, (Value.map (some bm33))]), (blk b19 42 [(Value.int .i64 ((lifeU (allowedF R rs) band.toNat s (allowedF R rs).length).1.1)), (Value.int .i64 (-1))]), (blk b14 3 [(Value.int .i64 s)]), (blk b9 3 [(Value.int .i64 band)]), (blk b4 33 [vr]), (sl vr 2 R.length (pairs R)), (sl vu 3 rs.length (vtrips (runV lv rs))), (segsR false lv rs)] := hS216; clear hS216 hS212
    refine st hA217 (op_assign rfl (evc _ _)) rfl rfl (by decide) fun a219 hA220 => ?_; clear hA217 a213
    refine wl_nil ?_
    refine then_n ?_
    refine c_ret ?_
    refine fin_runM hA220 (.inl rfl) hS218 ?_
    intro w221 hS222; clear hS218
    refine ⟨_, (run_results2 hA220 rfl (.cellA rfl ty_42 (hS222.bk 6 rfl) (l := [(Value.int .i64 ((lifeU (allowedF R rs) band.toNat s (allowedF R rs).length).1.1)), (Value.int .i64 (-1))]) rfl rfl) (.tmp rfl)), ?_⟩
    exact .inr ⟨life_0 he (by omega), by unfold lifeR; first | rw [if_pos (by assumption)] | rw [if_neg (by simp [*])], hS222.ext⟩
   ·skip
    rw [hb205] at hA204
    refine c_false hA204 rfl ?_
    refine c_skip ?_
    refine then_n ?_
    refine c_seq ?_
    have hA223 := hA204.as [(13, (bptr b100 0)), (8, (bptr b19 0))] rfl; clear hA204
    refine c_region ?_
    refine st hA223 (op_loadA rfl ty_42 (hA223.ev rfl) (hS200.bk 4 rfl) (l := [(Value.int .i64 ((lifeU (allowedF R rs) band.toNat s (allowedF R rs).length).1.1)), (Value.int .i64 ((lifeU (allowedF R rs) band.toNat s (allowedF R rs).length).1.2))]) rfl rfl) rfl rfl (by decide) fun a224 hA225 => ?_; clear hA223 a203
    refine sts hA225 (op_store hS200 rfl ty_42 (hA225.ev rfl) (hA225.ev rfl) (i := 7) rfl (vs := [(Value.int .i64 ((lifeU (allowedF R rs) band.toNat s (allowedF R rs).length).1.1)), (Value.int .i64 ((lifeU (allowedF R rs) band.toNat s (allowedF R rs).length).1.2))]) rfl rfl rfl (Nat.le_of_ble_eq_true rfl)) rfl rfl ?_
    intro _ w226 hS227 hA228; clear hA225
    have hS229 : Sep NoB w w226 [(marksR (D202 :: [])), (memo bm33 (KA rs)), (blk bx122 97 [(bptr bj32 0)]), (blk b105 4 [(Value.bool ((lifeU (allowedF R rs) band.toNat s (allowedF R rs).length).2))]), (blk b100 42 [(Value.int .i64 ((lifeU (allowedF R rs) band.toNat s (allowedF R rs).length).1.1)), (Value.int .i64 ((lifeU (allowedF R rs) band.toNat s (allowedF R rs).length).1.2))]), (blk b89 42 [(Value.int .i64 (-1)), (Value.int .i64 (-1))]), (blk bj32 119 [vr, vu, (Value.map (some bm33))]), (blk b19 42 [(Value.int .i64 ((lifeU (allowedF R rs) band.toNat s (allowedF R rs).length).1.1)), (Value.int .i64 ((lifeU (allowedF R rs) band.toNat s (allowedF R rs).length).1.2))]), (blk b14 3 [(Value.int .i64 s)]), (blk b9 3 [(Value.int .i64 band)]), (blk b4 33 [vr]), (sl vr 2 R.length (pairs R)), (sl vu 3 rs.length (vtrips (runV lv rs))), (segsR false lv rs)] := hS227; clear hS227 hS200
    refine st hA228 (op_assign rfl (evc _ _)) rfl rfl (by decide) fun a230 hA231 => ?_; clear hA228 a224
    refine wl_nil ?_
    refine then_n ?_
    refine c_ret ?_
    refine fin_runM hA231 (.inl rfl) hS229 ?_
    intro w232 hS233; clear hS229
    refine ⟨_, (run_results2 hA231 rfl (.cellA rfl ty_42 (hS233.bk 6 rfl) (l := [(Value.int .i64 ((lifeU (allowedF R rs) band.toNat s (allowedF R rs).length).1.1)), (Value.int .i64 ((lifeU (allowedF R rs) band.toNat s (allowedF R rs).length).1.2))]) rfl rfl) (.tmp rfl)), ?_⟩
    exact .inr ⟨life_0 he (by omega), by unfold lifeR; first | rw [if_pos (by assumption)] | rw [if_neg (by simp [*])], hS233.ext⟩
  ·skip
   rw [hb81] at hA80
   have hq234 := hb81; simp only [Bool.and_eq_true, Bool.and_eq_false_iff, decide_eq_true_eq, decide_eq_false_iff_not] at hq234
   refine c_true hA80 rfl ?_
   refine c_seq ?_
   have hA235 := hA80.as [(8, (bptr b19 0))] rfl; clear hA80
   refine c_region ?_
   refine st hA235 (op_build rfl pv0 bd_42_) rfl rfl (by decide) fun a236 hA237 => ?_; clear hA235 a79
   refine sts hA237 (op_store hS31 rfl ty_42 (hA237.ev rfl) (hA237.ev rfl) (i := 2) rfl (vs := [(Value.int .i64 0), (Value.int .i64 0)]) rfl rfl rfl (Nat.le_of_ble_eq_true rfl)) rfl rfl ?_
   intro _ w238 hS239 hA240; clear hA237
   have hS241 : Sep NoB w w238 [(blk bj32 119 [vr, vu, (Value.map (some bm33))]), (memo bm33 (KA rs)), (blk b19 42 [(Value.int .i64 0), (Value.int .i64 0)]), (blk b14 3 [(Value.int .i64 s)]), (blk b9 3 [(Value.int .i64 band)]), (blk b4 33 [vr]), (marksR []), (sl vr 2 R.length (pairs R)), (sl vu 3 rs.length (vtrips (runV lv rs))), (segsR false lv rs)] := hS239; clear hS239 hS31
   refine st hA240 (op_assign rfl (evc _ _)) rfl rfl (by decide) fun a242 hA243 => ?_; clear hA240 a236
   refine wl_nil ?_
   refine then_n ?_
   refine c_ret ?_
   refine blk_ret ?_
   refine then_ret ?_
   have hS244 : Sep NoB w w238 [(marksR []), (blk bj32 119 [vr, vu, (Value.map (some bm33))]), (memo bm33 (KA rs)), (blk b19 42 [(Value.int .i64 0), (Value.int .i64 0)]), (blk b14 3 [(Value.int .i64 s)]), (blk b9 3 [(Value.int .i64 band)]), (blk b4 33 [vr]), (sl vr 2 R.length (pairs R)), (sl vu 3 rs.length (vtrips (runV lv rs))), (segsR false lv rs)] := hS241.keep [6, 0, 1, 2, 3, 4, 5, 7, 8, 9] (by decide) _ rfl rfl; clear hS241
   refine fin_runM hA243 (.inl rfl) hS244 ?_
   intro w245 hS246; clear hS244
   refine ⟨_, (run_results2 hA243 rfl (.cellA rfl ty_42 (hS246.bk 2 rfl) (l := [(Value.int .i64 0), (Value.int .i64 0)]) rfl rfl) (.tmp rfl)), ?_⟩
   exact .inl ⟨life_2 he (by omega), rfl, hS246.ext⟩
 ·skip
  rw [hb68] at hA67
  have hq247 := hb68; simp only [Bool.and_eq_true, Bool.and_eq_false_iff, decide_eq_true_eq, decide_eq_false_iff_not] at hq247
  refine skp hA67 rfl rfl rfl rfl rfl (by decide) fun a248 hA249 => ?_; clear hA67 a66
  refine skp hA249 rfl rfl rfl rfl rfl (by decide) fun a250 hA251 => ?_; clear hA249 a248
  refine skp hA251 rfl rfl rfl rfl rfl (by decide) fun a252 hA253 => ?_; clear hA251 a250
  refine st hA253 (op_pick_t rfl (hA253.ev rfl) (evc _ _)) rfl rfl (by decide) fun a254 hA255 => ?_; clear hA253 a252
  refine st hA255 (op_assign rfl (hA255.ev rfl)) rfl rfl (by decide) fun a256 hA257 => ?_; clear hA255 a254
  refine wl_nil ?_
  refine then_n ?_
  refine c_true hA257 rfl ?_
  refine c_seq ?_
  have hA258 := hA257.as [(8, (bptr b19 0))] rfl; clear hA257
  refine c_region ?_
  refine st hA258 (op_build rfl pv0 bd_42_) rfl rfl (by decide) fun a259 hA260 => ?_; clear hA258 a256
  refine sts hA260 (op_store hS31 rfl ty_42 (hA260.ev rfl) (hA260.ev rfl) (i := 2) rfl (vs := [(Value.int .i64 0), (Value.int .i64 0)]) rfl rfl rfl (Nat.le_of_ble_eq_true rfl)) rfl rfl ?_
  intro _ w261 hS262 hA263; clear hA260
  have hS264 : Sep NoB w w261 [(blk bj32 119 [vr, vu, (Value.map (some bm33))]), (memo bm33 (KA rs)), (blk b19 42 [(Value.int .i64 0), (Value.int .i64 0)]), (blk b14 3 [(Value.int .i64 s)]), (blk b9 3 [(Value.int .i64 band)]), (blk b4 33 [vr]), (marksR []), (sl vr 2 R.length (pairs R)), (sl vu 3 rs.length (vtrips (runV lv rs))), (segsR false lv rs)] := hS262; clear hS262 hS31
  refine st hA263 (op_assign rfl (evc _ _)) rfl rfl (by decide) fun a265 hA266 => ?_; clear hA263 a259
  refine wl_nil ?_
  refine then_n ?_
  refine c_ret ?_
  refine blk_ret ?_
  refine then_ret ?_
  have hS267 : Sep NoB w w261 [(marksR []), (blk bj32 119 [vr, vu, (Value.map (some bm33))]), (memo bm33 (KA rs)), (blk b19 42 [(Value.int .i64 0), (Value.int .i64 0)]), (blk b14 3 [(Value.int .i64 s)]), (blk b9 3 [(Value.int .i64 band)]), (blk b4 33 [vr]), (sl vr 2 R.length (pairs R)), (sl vu 3 rs.length (vtrips (runV lv rs))), (segsR false lv rs)] := hS264.keep [6, 0, 1, 2, 3, 4, 5, 7, 8, 9] (by decide) _ rfl rfl; clear hS264
  refine fin_runM hA266 (.inl rfl) hS267 ?_
  intro w268 hS269; clear hS267
  refine ⟨_, (run_results2 hA266 rfl (.cellA rfl ty_42 (hS269.bk 2 rfl) (l := [(Value.int .i64 0), (Value.int .i64 0)]) rfl rfl) (.tmp rfl)), ?_⟩
  exact .inl ⟨life_2 he (by omega), rfl, hS269.ext⟩

end Go.Proofs.Ytkkglkdnnfegkaa
