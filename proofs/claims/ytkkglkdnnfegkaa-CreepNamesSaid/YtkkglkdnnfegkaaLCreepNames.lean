/-
  Walks through the functions of the seat, printed by a program of ours (gowalk), a theorem a function: what the call returns and what it leaves in memory.
-/
import Derived.Test.YtkkglkdnnfegkaaBc
set_option linter.unusedSimpArgs false
set_option linter.unusedVariables false
namespace Go.Proofs.Ytkkglkdnnfegkaa
open Go.RowKit Go.Shelf Go.Eng
theorem ints_same {l m : List Int} (h : l.length = m.length) (he : ∀ i, i < l.length → l.getD i 0 = m.getD i 0) : l = m := by
 refine List.ext_getElem h fun i h1 h2 => ?_
 have := he i h1
 simpa [List.getD, List.getElem?_eq_getElem h1, List.getElem?_eq_getElem h2] using this
theorem mkv_67_9 : (madeCells (Value.agg #[.int .i64 0, .int .i64 0, .int .i64 0]).cells (9 * 3)).toList = trips zeroS := by kernel_rfl
theorem mkv_96_7 : (madeCells (Value.agg #[.slice none 0 0, .int .i64 0, .int .i64 0]).cells (7 * 3)).toList = vtrips (runV zeroV zeroR) := by kernel_rfl
set_option maxHeartbeats 1000000 in
theorem ints_ok (w : World) (l : List Int) (xl : Value) (hxl : SlAt w xl 1 l.length (ints l)) (m : List Int) (xm : Value) (hxm : SlAt w xm 1 m.length (ints m)) (hlb : l.length ≤ 1000000) :
  Calls Try.prog 44 #[xl, xm] w (Ret fun v w' => v = .bool (decide (l = m)) ∧ Ext NoB w w') := by
 refine calls_enter Try.func44 rfl fun a0 hA0 => ?_
 replace hA0 : Fr 26 [] [(0, xl), (1, xm)] a0 := hA0
 have hS0 : Sep NoB w w [(sl xl 1 l.length (ints l)), (sl xm 1 m.length (ints m))] := sep_ro ⟨rfl, hxl, rfl, hxm, trivial⟩
 refine c_seq ?_
 refine c_region ?_
 refine st hA0 (op_assign rfl (evc _ _)) rfl rfl (by decide) fun a1 hA2 => ?_; clear hA0 a0
 refine wl_nil ?_
 refine then_n ?_
 refine c_seq ?_
 refine c_seq ?_
 refine c_region ?_
 refine st hA2 (op_move rfl (hA2.ev rfl)) rfl rfl (by decide) fun a3 hA4 => ?_; clear hA2 a1
 refine st hA4 (op_lenS rfl un_40 (hA4.ev rfl) (hS0.sk 0 rfl)) rfl rfl (by decide) fun a5 hA6 => ?_; clear hA4 a3
 refine st hA6 (op_move rfl (hA6.ev rfl)) rfl rfl (by decide) fun a7 hA8 => ?_; clear hA6 a5
 refine st hA8 (op_lenS rfl un_40 (hA8.ev rfl) (hS0.sk 1 rfl)) rfl rfl (by decide) fun a9 hA10 => ?_; clear hA8 a7
 refine st hA10 (op_neq rfl (hA10.ev rfl) (hA10.ev rfl)) rfl rfl (by decide) fun a11 hA12 => ?_; clear hA10 a9
 refine wl_nil ?_
 refine then_n ?_
 by_cases hb13 : (l.length : Int) = (m.length : Int)
 ·skip
  rw [decide_eq_true hb13] at hA12
  refine c_false hA12 rfl ?_
  refine c_skip ?_
  refine then_n ?_
  refine c_seq ?_
  refine c_seq ?_
  have hA14 := hA12.as [(0, xl), (1, xm)] rfl; clear hA12
  refine c_region ?_
  refine st hA14 (op_assign rfl (evc _ _)) rfl rfl (by decide) fun a15 hA16 => ?_; clear hA14 a11
  refine wl_nil ?_
  refine then_n ?_
  refine c_block ?_
  have hA17 := hA16.as [(5, (Value.int .i64 0)), (0, xl), (1, xm)] rfl; clear hA16
  refine c_loop (G := Nat) (fun (k : Nat) a_ w_ => Fr 26 [] [(5, (Value.int .i64 (k : Int))), (0, xl), (1, xm)] a_ ∧ Sep NoB w w_ [(sl xl 1 l.length (ints l)), (sl xm 1 m.length (ints m))] ∧ (k ≤ l.length) ∧ (l.length = m.length) ∧ (∀ i, i < k → l.getD i 0 = m.getD i 0)) (fun k => l.length - k) 0 ⟨hA17.as _ rfl, hS0, by omega, by omega, (fun _ h => absurd h (Nat.not_lt_zero _))⟩ ?_
  clear hA17 hS0 a15
  rintro k a18 w20 ⟨hA19, hS21, hkk, hln, hq_⟩
  refine c_seq ?_
  refine c_seq ?_
  refine c_region ?_
  refine st hA19 (op_move rfl (hA19.ev rfl)) rfl rfl (by decide) fun a22 hA23 => ?_; clear hA19 a18
  refine st hA23 (op_move rfl (hA23.ev rfl)) rfl rfl (by decide) fun a24 hA25 => ?_; clear hA23 a22
  refine st hA25 (op_lenS rfl un_40 (hA25.ev rfl) (hS21.sk 0 rfl)) rfl rfl (by decide) fun a26 hA27 => ?_; clear hA25 a24
  refine st hA27 (op_lss rfl (hA27.ev rfl) (hA27.ev rfl)) rfl rfl (by decide) fun a28 hA29 => ?_; clear hA27 a26
  refine wl_nil ?_
  refine then_n ?_
  by_cases hb30 : (k : Int) < (l.length : Int)
  ·skip
   rw [decide_eq_true hb30] at hA29
   refine c_true hA29 rfl ?_
   refine c_skip ?_
   refine then_n ?_
   refine c_seq ?_
   refine c_block ?_
   refine c_seq ?_
   have hA31 := hA29.as [(5, (Value.int .i64 (k : Int))), (0, xl), (1, xm)] rfl; clear hA29
   refine c_drawn mixed hA31 hS21 8 [[], [], [0, 1], [2], [], [], [4, 5], [6]] [(Yd.val xl), (Yd.val (Value.int .i64 (k : Int))), (Yd.val (eptr xl (k * 1))), (Yd.val (Value.int .i64 (l.getD k 0))), (Yd.val xm), (Yd.val (Value.int .i64 (k : Int))), (Yd.val (eptr xm (k * 1))), (Yd.val (Value.int .i64 (m.getD k 0)))] (by decide +kernel) rfl rfl ?_ ?_
   ·skip
    refine ⟨fun a w hA hS hd => by exact opG_of rfl (dv (op_move rfl (hA.ev rfl)) hS rfl), ?_⟩
    refine ⟨fun a w hA hS hd => by exact opG_of rfl (dv (op_move rfl (hA.ev rfl)) hS rfl), ?_⟩
    refine ⟨fun a w hA hS hd => by have e0 := has_ev (hd 0 (by decide)) rfl (fun _ h => h); have e1 := has_ev (hd 1 (by decide)) rfl (fun _ h => h); exact opG_of rfl (dv (op_indexS rfl un_40 ty_3 (tmp_ev e0) (i := k) (tmp_ev e1) (hS.sk 0 rfl) (by decide) (by omega)) hS rfl), ?_⟩
    refine ⟨fun a w hA hS hd => by have e2 := has_ev (hd 2 (by decide)) rfl (fun _ h => h); exact opG_of rfl (dv (op_load1E rfl ty_3 (tmp_ev e2) (hS.sk 0 rfl) (ints_at (by omega))) hS rfl), ?_⟩
    refine ⟨fun a w hA hS hd => by exact opG_of rfl (dv (op_move rfl (hA.ev rfl)) hS rfl), ?_⟩
    refine ⟨fun a w hA hS hd => by exact opG_of rfl (dv (op_move rfl (hA.ev rfl)) hS rfl), ?_⟩
    refine ⟨fun a w hA hS hd => by have e4 := has_ev (hd 4 (by decide)) rfl (fun _ h => h); have e5 := has_ev (hd 5 (by decide)) rfl (fun _ h => h); exact opG_of rfl (dv (op_indexS rfl un_40 ty_3 (tmp_ev e4) (i := k) (tmp_ev e5) (hS.sk 1 rfl) (by decide) (by omega)) hS rfl), ?_⟩
    refine ⟨fun a w hA hS hd => by have e6 := has_ev (hd 6 (by decide)) rfl (fun _ h => h); exact opG_of rfl (dv (op_load1E rfl ty_3 (tmp_ev e6) (hS.sk 1 rfl) (ints_at (by omega))) hS rfl), ?_⟩
    trivial
   intro a33 w34 hA35 hS36 hH37; clear hA31 hS21
   have hA38 := hA35.add (has_ev (hH37 3 (by decide)) rfl (fun _ h => h)); clear hA35
   have hA39 := hA38.add (has_ev (hH37 7 (by decide)) rfl (fun _ h => h)); clear hA38
   clear hH37
   refine st hA39 (op_neq rfl (hA39.ev rfl) (hA39.ev rfl)) rfl rfl (by decide) fun a40 hA41 => ?_; clear hA39 a33
   refine wl_nil ?_
   refine then_n ?_
   by_cases hb42 : (l.getD k 0) = (m.getD k 0)
   ·skip
    rw [decide_eq_true hb42] at hA41
    refine c_false hA41 rfl ?_
    refine c_skip ?_
    refine blk_n ?_
    refine then_n ?_
    refine c_region ?_
    refine st hA41 (op_move rfl (hA41.ev rfl)) rfl rfl (by decide) fun a43 hA44 => ?_; clear hA41 a40
    refine st hA44 (op_add rfl (hA44.ev rfl) (evc _ _) (by omega) (by omega)) rfl rfl (by decide) fun a45 hA46 => ?_; clear hA44 a43
    refine st hA46 (op_assign rfl (hA46.ev rfl)) rfl rfl (by decide) fun a47 hA48 => ?_; clear hA46 a45
    refine wl_nil ?_
    exact then_n ⟨k + 1, ⟨hA48.as _ rfl, hS36, by omega, hln, (fun i hi => by rcases Nat.lt_succ_iff_lt_or_eq.1 hi with h | h; exact hq_ i h; subst h; assumption)⟩, by omega⟩
   ·skip
    rw [decide_eq_false hb42] at hA41
    refine c_true hA41 rfl ?_
    refine c_seq ?_
    have hA49 := hA41.as [] rfl; clear hA41
    refine c_region ?_
    refine st hA49 (op_assign rfl (evc _ _)) rfl rfl (by decide) fun a50 hA51 => ?_; clear hA49 a40
    refine wl_nil ?_
    refine then_n ?_
    refine c_ret ?_
    refine blk_ret ?_
    refine then_ret ?_
    refine then_ret ?_
    refine blk_ret ?_
    refine then_ret ?_
    refine fin_run hA51 (.inl rfl) (run_results1 hA51 rfl (.tmp rfl)) ?_
    exact ⟨congrArg Value.bool (Eq.symm (decide_eq_false (fun h_ => by subst h_; omega))), hS36.ext⟩
  ·skip
   rw [decide_eq_false hb30] at hA29
   refine c_false hA29 rfl ?_
   refine c_exit ?_
   refine then_exit ?_
   refine then_exit ?_
   refine blk_hit ?_
   refine then_n ?_
   refine c_seq ?_
   have hA52 := hA29.as [] rfl; clear hA29
   refine c_region ?_
   refine st hA52 (op_assign rfl (evc _ _)) rfl rfl (by decide) fun a53 hA54 => ?_; clear hA52 a28
   refine wl_nil ?_
   refine then_n ?_
   refine c_ret ?_
   refine fin_run hA54 (.inl rfl) (run_results1 hA54 rfl (.tmp rfl)) ?_
   exact ⟨congrArg Value.bool (Eq.symm (decide_eq_true (ints_same (by omega) (fun i hi => hq_ i (by omega))))), hS21.ext⟩
 ·skip
  rw [decide_eq_false hb13] at hA12
  refine c_true hA12 rfl ?_
  refine c_seq ?_
  have hA55 := hA12.as [] rfl; clear hA12
  refine c_region ?_
  refine st hA55 (op_assign rfl (evc _ _)) rfl rfl (by decide) fun a56 hA57 => ?_; clear hA55 a11
  refine wl_nil ?_
  refine then_n ?_
  refine c_ret ?_
  refine then_ret ?_
  refine fin_run hA57 (.inl rfl) (run_results1 hA57 rfl (.tmp rfl)) ?_
  exact ⟨congrArg Value.bool (Eq.symm (decide_eq_false (fun h_ => by subst h_; omega))), hS0.ext⟩
set_option maxHeartbeats 1000000 in
theorem made_raw (w : World) :
  Calls Try.prog 52 #[] w (Ret fun v w' => ∃ s1 s2, Sep NoB w w' [row v 96 3 2 (vtrips (runV [s1, s2] madeR)), row s1 67 3 2 (trips [(0, 100, 100), (1, 10, 10)]), row s2 67 3 1 (trips [(1, 20, 30)])]) := by
 refine calls_enter Try.func52 rfl fun a0 hA0 => ?_
 replace hA0 : Fr 14 [] [] a0 := hA0
 have hS0 : Sep NoB w w [] := Sep.start _ _
 refine c_seq ?_
 refine c_region ?_
 refine st hA0 (op_assign rfl (evc _ _)) rfl rfl (by decide) fun a1 hA2 => ?_; clear hA0 a0
 refine wl_nil ?_
 refine then_n ?_
 refine c_seq ?_
 refine c_region ?_
 refine stw hA2 (op_call rfl en_31 (ev2 (evc _ _) (evc _ _)) (between_ok _ _ _)) rfl rfl (by decide) ?_
 rintro a3 _ w5 ⟨rfl, hE6⟩ hA4; have hS7 := hS0.step hE6; clear hE6 hA2 hS0 a1
 refine st hA4 (op_build rfl (pv2 (evc _ _) (hA4.ev rfl)) (bd_67_0i_1iia _ _ _)) rfl rfl (by decide) fun a8 hA9 => ?_; clear hA4 a3
 refine stw hA9 (op_call rfl en_31 (ev2 (evc _ _) (evc _ _)) (between_ok _ _ _)) rfl rfl (by decide) ?_
 rintro a10 _ w12 ⟨rfl, hE13⟩ hA11; have hS14 := hS7.step hE13; clear hE13 hA9 hS7 a8
 refine st hA11 (op_build rfl (pv2 (evc _ _) (hA11.ev rfl)) (bd_67_0i_1iia _ _ _)) rfl rfl (by decide) fun a15 hA16 => ?_; clear hA11 a10
 refine stw hA16 (op_buildSlice hS14 rfl (pv2 (hA16.ev rfl) (hA16.ev rfl)) un_58 ty_67 ze_67 (by decide) (cs := [(Value.int .i64 0), (Value.int .i64 100), (Value.int .i64 100), (Value.int .i64 1), (Value.int .i64 10), (Value.int .i64 10)]) (bs_67_2_0iiia_1iiia _ _ _ _ _ _)) rfl rfl (by decide) ?_
 rintro a17 _ w19 ⟨b20, rfl, hS21⟩ hA18; clear hA16 hS14 a15
 refine stw hA18 (op_call rfl en_31 (ev2 (evc _ _) (evc _ _)) (between_ok _ _ _)) rfl rfl (by decide) ?_
 rintro a22 _ w24 ⟨rfl, hE25⟩ hA23; have hS26 := hS21.step hE25; clear hE25 hA18 hS21 a17
 refine st hA23 (op_build rfl (pv2 (hA23.ev rfl) (hA23.ev rfl)) (bd_96_0s_1iia _ ⟨_, _, _, rfl⟩ _ _)) rfl rfl (by decide) fun a27 hA28 => ?_; clear hA23 a22
 refine stw hA28 (op_call rfl en_31 (ev2 (evc _ _) (evc _ _)) (between_ok _ _ _)) rfl rfl (by decide) ?_
 rintro a29 _ w31 ⟨rfl, hE32⟩ hA30; have hS33 := hS26.step hE32; clear hE32 hA28 hS26 a27
 refine st hA30 (op_build rfl (pv2 (evc _ _) (hA30.ev rfl)) (bd_67_0i_1iia _ _ _)) rfl rfl (by decide) fun a34 hA35 => ?_; clear hA30 a29
 refine stw hA35 (op_buildSlice hS33 rfl (pv1 (hA35.ev rfl)) un_58 ty_67 ze_67 (by decide) (cs := [(Value.int .i64 1), (Value.int .i64 20), (Value.int .i64 30)]) (bs_67_1_0iiia _ _ _)) rfl rfl (by decide) ?_
 rintro a36 _ w38 ⟨b39, rfl, hS40⟩ hA37; clear hA35 hS33 a34
 refine stw hA37 (op_call rfl en_31 (ev2 (evc _ _) (evc _ _)) (between_ok _ _ _)) rfl rfl (by decide) ?_
 rintro a41 _ w43 ⟨rfl, hE44⟩ hA42; have hS45 := hS40.step hE44; clear hE44 hA37 hS40 a36
 refine st hA42 (op_build rfl (pv2 (hA42.ev rfl) (hA42.ev rfl)) (bd_96_0s_1iia _ ⟨_, _, _, rfl⟩ _ _)) rfl rfl (by decide) fun a46 hA47 => ?_; clear hA42 a41
 refine stw hA47 (op_buildSlice hS45 rfl (pv2 (hA47.ev rfl) (hA47.ev rfl)) un_35 ty_96 ze_96 (by decide) (cs := [(Value.slice (some ⟨b20, 0, none⟩) 2 2), (Value.int .i64 220), (Value.int .i64 250), (Value.slice (some ⟨b39, 0, none⟩) 1 1), (Value.int .i64 90), (Value.int .i64 100)]) (bs_96_2_0viia_1viia _ _ _ _ _ _)) rfl rfl (by decide) ?_
 rintro a48 _ w50 ⟨b51, rfl, hS52⟩ hA49; clear hA47 hS45 a46
 refine st hA49 (op_assign rfl (hA49.ev rfl)) rfl rfl (by decide) fun a53 hA54 => ?_; clear hA49 a48
 refine wl_nil ?_
 refine then_n ?_
 refine c_ret ?_
 refine fin_run hA54 (.inl rfl) (run_results1 hA54 rfl (.tmp rfl)) ?_
 have h0 := hS52.keep [0, 2, 1] (by decide) _ rfl rfl
 have h1 := ((h0.blk_row (i := 0) (sz := 3) (n := 2) rfl rfl (by decide)).blk_row (i := 1) (sz := 3) (n := 2) rfl rfl (by decide)).blk_row (i := 2) (sz := 3) (n := 1) rfl rfl (by decide)
 exact ⟨_, _, h1.keep [0, 1, 2] (by decide) [row (Value.slice (some ⟨b51, 0, none⟩) 2 2) 96 3 2 (vtrips (runV [(Value.slice (some ⟨b20, 0, none⟩) 2 2), (Value.slice (some ⟨b39, 0, none⟩) 1 1)] madeR)), row (Value.slice (some ⟨b20, 0, none⟩) 2 2) 67 3 2 (trips [(0, 100, 100), (1, 10, 10)]), row (Value.slice (some ⟨b39, 0, none⟩) 1 1) 67 3 1 (trips [(1, 20, 30)])] rfl rfl⟩
set_option maxHeartbeats 8000000 in
theorem CreepNames_ok (w : World) :
  Calls Try.prog 15 #[] w (Ret fun v w' => v = .bool true ∧ Ext NoB w w') := by
 refine calls_enter Try.func15 rfl fun a0 hA0 => ?_
 replace hA0 : Fr 230 [] [] a0 := hA0
 have hS0 : Sep NoB w w [] := Sep.start _ _
 refine c_seq ?_
 refine c_region ?_
 refine st hA0 (op_assign rfl (evc _ _)) rfl rfl (by decide) fun a1 hA2 => ?_; clear hA0 a0
 refine wl_nil ?_
 refine then_n ?_
 refine c_seq ?_
 refine c_region ?_
 refine stw hA2 (op_call rfl en_51 ev0 (hot_ok _)) rfl rfl (by decide) ?_
 rintro a3 _ w5 ⟨u8, rfl, hT6⟩ hA4; have hS7 := hS0.callS hT6 rfl; clear hT6 hA2 hS0 a1
 refine stw hA4 (op_call rfl en_52 ev0 (made_ok _)) rfl rfl (by decide) ?_
 rintro a9 v14 w11 ⟨lv15, hT12⟩ hA10; have hS13 := hS7.callS hT12 rfl; clear hT12 hA4 hS7 a3
 refine stw hA10 (op_buildSlice hS13 rfl (pv2 (evc _ _) (evc _ _)) un_40 ty_3 ze_3 (by decide) (cs := [(Value.int .i64 1), (Value.int .i64 5)]) (bs_3_2_0i_1i _ _)) rfl rfl (by decide) ?_
 rintro a16 _ w18 ⟨b19, rfl, hS20⟩ hA17; clear hA10 hS13 a9
 refine stw hA17 (op_call rfl en_38 (ev3 (hA17.ev rfl) (hA17.ev rfl) (hA17.ev rfl)) (allows_yes hotR madeR lv15 u8 v14 _ (SlAt.of_row (hS20.ok_row 2 rfl)) (runs_at (hS20.ok 1 _ rfl)) (by decide) (by decide) ([1, 5]) (Value.slice (some ⟨b19, 0, none⟩) 2 2) (SlAt.of_blk (hS20.bk 0 rfl) rfl (Nat.le_of_ble_eq_true rfl)) (by decide) ex_enter ex_are1 (ratesV_pad (by decide) (by decide)))) rfl rfl (by decide) ?_
 rintro a21 _ w23 ⟨rfl, hE24⟩ hA22; have hS25 := hS20.step hE24; clear hE24 hA17 hS20 a16
 rw [ex_al1] at hA22
 refine st hA22 (op_move rfl (hA22.ev rfl)) rfl rfl (by decide) fun a26 hA27 => ?_; clear hA22 a21
 refine st hA27 (op_extract rfl (hA27.ev rfl) rfl) rfl rfl (by decide) fun a28 hA29 => ?_; clear hA27 a26
 refine st hA29 (op_extract rfl (hA29.ev rfl) rfl) rfl rfl (by decide) fun a30 hA31 => ?_; clear hA29 a28
 refine st hA31 (op_assign rfl (hA31.ev rfl)) rfl rfl (by decide) fun a32 hA33 => ?_; clear hA31 a30
 refine st hA33 (op_assign rfl (hA33.ev rfl)) rfl rfl (by decide) fun a34 hA35 => ?_; clear hA33 a32
 refine wl_nil ?_
 refine then_n ?_
 refine c_seq ?_
 have hA36 := hA35.as [(2, (Value.int .i64 0)), (1, (Value.bool false))] rfl; clear hA35
 refine c_region ?_
 refine stw hA36 (op_call rfl en_51 ev0 (hot_ok _)) rfl rfl (by decide) ?_
 rintro a37 _ w39 ⟨u42, rfl, hT40⟩ hA38; have hS41 := hS25.callS hT40 rfl; clear hT40 hA36 hS25 a34
 refine stw hA38 (op_call rfl en_52 ev0 (made_ok _)) rfl rfl (by decide) ?_
 rintro a43 v48 w45 ⟨lv49, hT46⟩ hA44; have hS47 := hS41.callS hT46 rfl; clear hT46 hA38 hS41 a37
 refine stw hA44 (op_buildSlice hS47 rfl (pv2 (evc _ _) (evc _ _)) un_40 ty_3 ze_3 (by decide) (cs := [(Value.int .i64 2), (Value.int .i64 3)]) (bs_3_2_0i_1i _ _)) rfl rfl (by decide) ?_
 rintro a50 _ w52 ⟨b53, rfl, hS54⟩ hA51; clear hA44 hS47 a43
 refine stw hA51 (op_call rfl en_38 (ev3 (hA51.ev rfl) (hA51.ev rfl) (hA51.ev rfl)) (allows_yes hotR madeR lv49 u42 v48 _ (SlAt.of_row (hS54.ok_row 2 rfl)) (runs_at (hS54.ok 1 _ rfl)) (by decide) (by decide) ([2, 3]) (Value.slice (some ⟨b53, 0, none⟩) 2 2) (SlAt.of_blk (hS54.bk 0 rfl) rfl (Nat.le_of_ble_eq_true rfl)) (by decide) ex_enter ex_are2 (ratesV_pad (by decide) (by decide)))) rfl rfl (by decide) ?_
 rintro a55 _ w57 ⟨rfl, hE58⟩ hA56; have hS59 := hS54.step hE58; clear hE58 hA51 hS54 a50
 rw [ex_al2] at hA56
 refine st hA56 (op_move rfl (hA56.ev rfl)) rfl rfl (by decide) fun a60 hA61 => ?_; clear hA56 a55
 refine st hA61 (op_extract rfl (hA61.ev rfl) rfl) rfl rfl (by decide) fun a62 hA63 => ?_; clear hA61 a60
 refine st hA63 (op_extract rfl (hA63.ev rfl) rfl) rfl rfl (by decide) fun a64 hA65 => ?_; clear hA63 a62
 refine st hA65 (op_assign rfl (hA65.ev rfl)) rfl rfl (by decide) fun a66 hA67 => ?_; clear hA65 a64
 refine st hA67 (op_assign rfl (hA67.ev rfl)) rfl rfl (by decide) fun a68 hA69 => ?_; clear hA67 a66
 refine wl_nil ?_
 refine then_n ?_
 refine c_seq ?_
 have hA70 := hA69.as [(4, (Value.int .i64 0)), (3, (Value.bool true)), (2, (Value.int .i64 0)), (1, (Value.bool false))] rfl; clear hA69
 refine c_region ?_
 refine stw hA70 (op_call rfl en_52 ev0 (made_raw _)) rfl rfl (by decide) ?_
 rintro a71 v76 w73 ⟨s77, s78, hT74⟩ hA72; have hS75 := hS59.callS hT74 rfl; clear hT74 hA70 hS59 a68
 refine stw hA72 (op_call rfl en_31 (ev2 (evc _ _) (evc _ _)) (between_ok _ _ _)) rfl rfl (by decide) ?_
 rintro a79 _ w81 ⟨rfl, hE82⟩ hA80; have hS83 := hS75.step hE82; clear hE82 hA72 hS75 a71
 refine st hA80 (op_build rfl (pv2 (evc _ _) (hA80.ev rfl)) (bd_67_0i_1iia _ _ _)) rfl rfl (by decide) fun a84 hA85 => ?_; clear hA80 a79
 refine stw hA85 (op_buildSlice hS83 rfl (pv1 (hA85.ev rfl)) un_58 ty_67 ze_67 (by decide) (cs := [(Value.int .i64 0), (Value.int .i64 10), (Value.int .i64 10)]) (bs_67_1_0iiia _ _ _)) rfl rfl (by decide) ?_
 rintro a86 _ w88 ⟨b89, rfl, hS90⟩ hA87; clear hA85 hS83 a84
 refine stw hA87 (op_call rfl en_31 (ev2 (evc _ _) (evc _ _)) (between_ok _ _ _)) rfl rfl (by decide) ?_
 rintro a91 _ w93 ⟨rfl, hE94⟩ hA92; have hS95 := hS90.step hE94; clear hE94 hA87 hS90 a86
 refine st hA92 (op_build rfl (pv2 (hA92.ev rfl) (hA92.ev rfl)) (bd_96_0s_1iia _ ⟨_, _, _, rfl⟩ _ _)) rfl rfl (by decide) fun a96 hA97 => ?_; clear hA92 a91
 refine stw hA97 (op_buildSlice hS95 rfl (pv1 (hA97.ev rfl)) un_35 ty_96 ze_96 (by decide) (cs := [(Value.slice (some ⟨b89, 0, none⟩) 1 1), (Value.int .i64 30), (Value.int .i64 40)]) (bs_96_1_0viia _ _ _)) rfl rfl (by decide) ?_
 rintro a98 _ w100 ⟨b101, rfl, hS102⟩ hA99; clear hA97 hS95 a96
 refine stw hA99 (op_append hS102 rfl un_35 el_96 (hA99.ev rfl) (hA99.ev rfl) (i := 2) rfl (SlAt.of_blk (hS102.bk 0 rfl) rfl (Nat.le_of_ble_eq_true rfl)) (all_c rfl (all_c rfl (all_c rfl all_n))) (by simp only [maxLen]; omega) (by omega)) rfl rfl (by decide) ?_
 intro a103 v106 w105 hS107 hA104
 have hS108 := hS107.row_say (i := 2) rfl (n' := 3) (xs' := (vtrips (runV [s77, s78, (Value.slice (some ⟨b89, 0, none⟩) 1 1)] otherR))) rfl rfl; clear hS107 hA99 hS102 a98
 refine st hA104 (op_assign rfl (hA104.ev rfl)) rfl rfl (by decide) fun a109 hA110 => ?_; clear hA104 a103
 refine wl_nil ?_
 refine then_n ?_
 refine c_seq ?_
 have hA111 := hA110.as [(5, v106), (4, (Value.int .i64 0)), (3, (Value.bool true)), (2, (Value.int .i64 0)), (1, (Value.bool false))] rfl; clear hA110
 refine c_region ?_
 have hJ112 := hS108.blk_row (i := 1) (sz := 3) (n := 1) rfl rfl (by decide)
 have hJ113 := (hJ112.keep [3, 4, 1, 2, 6, 9] (by decide) [row s77 67 3 2 (trips [(0, 100, 100), (1, 10, 10)]), row s78 67 3 1 (trips [(1, 20, 30)]), row (Value.slice (some ⟨b89, 0, none⟩) 1 1) 67 3 1 (trips [(0, 10, 10)]), row v106 96 3 3 (vtrips (runV [s77, s78, (Value.slice (some ⟨b89, 0, none⟩) 1 1)] otherR)), (runsR true v48 lv49 madeR), (runsR true v14 lv15 madeR)] rfl rfl).segs_nil
 have hJ114 := (hJ113.keep [1, 0, 2, 3, 4, 5, 6] (by decide) _ rfl rfl).segs_snoc (x := ⟨[(0, 100, 100), (1, 10, 10)], 220, 250⟩)
 have hJ115 := (hJ114.keep [1, 0, 2, 3, 4, 5] (by decide) _ rfl rfl).segs_snoc (x := ⟨[(1, 20, 30)], 90, 100⟩)
 have hJ116 := (hJ115.keep [1, 0, 2, 3, 4] (by decide) _ rfl rfl).segs_snoc (x := ⟨[(0, 10, 10)], 30, 40⟩)
 have hS117 := (hJ116.keep [1, 0, 2, 3] (by decide) [row v106 96 3 3 (vtrips (runV [s77, s78, (Value.slice (some ⟨b89, 0, none⟩) 1 1)] otherR)), segsR true [s77, s78, (Value.slice (some ⟨b89, 0, none⟩) 1 1)] otherR, (runsR true v48 lv49 madeR), (runsR true v14 lv15 madeR)] rfl rfl).runs_join rfl; clear hS108
 refine stw hA111 (op_call rfl en_51 ev0 (hot_ok _)) rfl rfl (by decide) ?_
 rintro a118 _ w120 ⟨u123, rfl, hT121⟩ hA119; have hS122 := hS117.callS hT121 rfl; clear hT121 hA111 hS117 a109
 refine st hA119 (op_move rfl (hA119.ev rfl)) rfl rfl (by decide) fun a124 hA125 => ?_; clear hA119 a118
 refine stw hA125 (op_call rfl en_43 (ev2 (hA125.ev rfl) (hA125.ev rfl)) (doubt_ok hotR otherR ([s77, s78, (Value.slice (some ⟨b89, 0, none⟩) 1 1)]) u123 v106 _ (SlAt.of_row (hS122.ok_row 0 rfl)) (runs_at (hS122.ok 1 _ rfl)) (by decide) (by decide) ex_other)) rfl rfl (by decide) ?_
 rintro a126 _ w128 ⟨u131, rfl, hT129⟩ hA127; have hS130 := hS122.callS hT129 rfl; clear hT129 hA125 hS122 a124
 refine st hA127 (op_move rfl (hA127.ev rfl)) rfl rfl (by decide) fun a132 hA133 => ?_; clear hA127 a126
 refine st hA133 (op_extract rfl (hA133.ev rfl) rfl) rfl rfl (by decide) fun a134 hA135 => ?_; clear hA133 a132
 refine st hA135 (op_extract rfl (hA135.ev rfl) rfl) rfl rfl (by decide) fun a136 hA137 => ?_; clear hA135 a134
 refine st hA137 (op_assign rfl (hA137.ev rfl)) rfl rfl (by decide) fun a138 hA139 => ?_; clear hA137 a136
 refine st hA139 (op_assign rfl (hA139.ev rfl)) rfl rfl (by decide) fun a140 hA141 => ?_; clear hA139 a138
 refine wl_nil ?_
 refine then_n ?_
 refine c_seq ?_
 have hA142 := hA141.as [(7, (Value.int .i64 0)), (6, u131), (5, v106), (4, (Value.int .i64 0)), (3, (Value.bool true)), (2, (Value.int .i64 0)), (1, (Value.bool false))] rfl; clear hA141
 refine c_region ?_
 refine stw hA142 (op_call rfl en_31 (ev2 (evc _ _) (evc _ _)) (between_ok _ _ _)) rfl rfl (by decide) ?_
 rintro a143 _ w145 ⟨rfl, hE146⟩ hA144; have hS147 := hS130.step hE146; clear hE146 hA142 hS130 a140
 refine stw hA144 (op_buildSlice hS147 rfl (pv1 (hA144.ev rfl)) un_28 ty_42 ze_42 (by decide) (cs := [(Value.int .i64 0), (Value.int .i64 2)]) (bs_42_1_0iia _ _)) rfl rfl (by decide) ?_
 rintro a148 _ w150 ⟨b151, rfl, hS152⟩ hA149; clear hA144 hS147 a143
 refine st hA149 (op_build rfl (pv1 (hA149.ev rfl)) (bd_33_0s _ ⟨_, _, _, rfl⟩)) rfl rfl (by decide) fun a153 hA154 => ?_; clear hA149 a148
 refine stw hA154 (op_alloc hS152 rfl ze_33 (cs := [(Value.slice none 0 0)]) rfl) rfl rfl (by decide) ?_
 rintro a155 _ w157 ⟨b158, rfl, hS159⟩ hA156; clear hA154 hS152 a153
 refine sts hA156 (op_store hS159 rfl ty_33 (hA156.ev rfl) (hA156.ev rfl) (i := 0) rfl (vs := [(Value.slice (some ⟨b151, 0, none⟩) 1 1)]) rfl rfl (all_c rfl all_n) (Nat.le_of_ble_eq_true rfl)) rfl rfl ?_
 intro _ w160 hS161 hA162; clear hA156
 have hS163 : Sep NoB w w160 [(blk b158 33 [(Value.slice (some ⟨b151, 0, none⟩) 1 1)]), (blk b151 42 [(Value.int .i64 0), (Value.int .i64 2)]), (row u131 3 1 ((doubtF hotR otherR).length) (ints (doubtF hotR otherR))), (row u123 42 2 2 (pairs hotR)), (runsR true v106 ([s77, s78, (Value.slice (some ⟨b89, 0, none⟩) 1 1)]) otherR), (runsR true v48 lv49 madeR), (runsR true v14 lv15 madeR)] := hS161; clear hS161 hS159
 refine wl_nil ?_
 refine then_n ?_
 refine c_seq ?_
 refine c_region ?_
 refine st hA162 (op_loadA rfl ty_33 (hA162.ev rfl) (hS163.bk 0 rfl) (l := [(Value.slice (some ⟨b151, 0, none⟩) 1 1)]) rfl rfl) rfl rfl (by decide) fun a164 hA165 => ?_; clear hA162 a155
 refine stw hA165 (op_call rfl en_23 (ev4 (hA165.ev rfl) (evc _ _) (evc _ _) (evc _ _)) (life_fine ([(0, 2)]) ([]) ([]) (Value.slice (some ⟨b151, 0, none⟩) 1 1) (.slice none 0 0) _ (SlAt.of_blk (hS163.bk 1 rfl) rfl (Nat.le_of_ble_eq_true rfl)) (runsAt_nil _) (by decide) (by decide) 0 5 ex_l1)) rfl rfl (by decide) ?_
 rintro a166 _ w168 ⟨rfl, hE169⟩ hA167; have hS170 := hS163.step hE169; clear hE169 hA165 hS163 a164
 refine st hA167 (op_move rfl (hA167.ev rfl)) rfl rfl (by decide) fun a171 hA172 => ?_; clear hA167 a166
 refine st hA172 (op_extract rfl (hA172.ev rfl) rfl) rfl rfl (by decide) fun a173 hA174 => ?_; clear hA172 a171
 refine st hA174 (op_extract rfl (hA174.ev rfl) rfl) rfl rfl (by decide) fun a175 hA176 => ?_; clear hA174 a173
 refine stw hA176 (op_alloc hS170 rfl ze_42 (cs := [(Value.int .i64 0), (Value.int .i64 0)]) rfl) rfl rfl (by decide) ?_
 rintro a177 _ w179 ⟨b180, rfl, hS181⟩ hA178; clear hA176 hS170 a175
 refine sts hA178 (op_store hS181 rfl ty_42 (hA178.ev rfl) (hA178.ev rfl) (i := 0) rfl (vs := [(Value.int .i64 ((lifeR (allowedF ([(0, 2)]) ([])) (0 : Int).toNat 5).1)), (Value.int .i64 ((lifeR (allowedF ([(0, 2)]) ([])) (0 : Int).toNat 5).2))]) rfl rfl rfl (Nat.le_of_ble_eq_true rfl)) rfl rfl ?_
 intro _ w182 hS183 hA184; clear hA178
 have hS185 : Sep NoB w w182 [(blk b180 42 [(Value.int .i64 ((lifeR (allowedF ([(0, 2)]) ([])) (0 : Int).toNat 5).1)), (Value.int .i64 ((lifeR (allowedF ([(0, 2)]) ([])) (0 : Int).toNat 5).2))]), (blk b158 33 [(Value.slice (some ⟨b151, 0, none⟩) 1 1)]), (blk b151 42 [(Value.int .i64 0), (Value.int .i64 2)]), (row u131 3 1 ((doubtF hotR otherR).length) (ints (doubtF hotR otherR))), (row u123 42 2 2 (pairs hotR)), (runsR true v106 ([s77, s78, (Value.slice (some ⟨b89, 0, none⟩) 1 1)]) otherR), (runsR true v48 lv49 madeR), (runsR true v14 lv15 madeR)] := hS183; clear hS183 hS181
 refine st hA184 (op_assign rfl (hA184.ev rfl)) rfl rfl (by decide) fun a186 hA187 => ?_; clear hA184 a177
 refine wl_nil ?_
 refine then_n ?_
 refine c_seq ?_
 have hA188 := hA187.as [(10, (Value.int .i64 0)), (9, (bptr b180 0)), (8, (bptr b158 0)), (7, (Value.int .i64 0)), (6, u131), (5, v106), (4, (Value.int .i64 0)), (3, (Value.bool true)), (2, (Value.int .i64 0)), (1, (Value.bool false))] rfl; clear hA187
 refine c_region ?_
 refine stw hA188 (op_call rfl en_31 (ev2 (evc _ _) (evc _ _)) (between_ok _ _ _)) rfl rfl (by decide) ?_
 rintro a189 _ w191 ⟨rfl, hE192⟩ hA190; have hS193 := hS185.step hE192; clear hE192 hA188 hS185 a186
 refine stw hA190 (op_buildSlice hS193 rfl (pv1 (hA190.ev rfl)) un_28 ty_42 ze_42 (by decide) (cs := [(Value.int .i64 0), (Value.int .i64 0)]) (bs_42_1_0iia _ _)) rfl rfl (by decide) ?_
 rintro a194 _ w196 ⟨b197, rfl, hS198⟩ hA195; clear hA190 hS193 a189
 refine st hA195 (op_build rfl (pv1 (hA195.ev rfl)) (bd_33_0s _ ⟨_, _, _, rfl⟩)) rfl rfl (by decide) fun a199 hA200 => ?_; clear hA195 a194
 refine stw hA200 (op_call rfl en_23 (ev4 (hA200.ev rfl) (evc _ _) (evc _ _) (evc _ _)) (life_fine ([(0, 0)]) ([]) ([]) (Value.slice (some ⟨b197, 0, none⟩) 1 1) (.slice none 0 0) _ (SlAt.of_blk (hS198.bk 0 rfl) rfl (Nat.le_of_ble_eq_true rfl)) (runsAt_nil _) (by decide) (by decide) 0 5 ex_l2)) rfl rfl (by decide) ?_
 rintro a201 _ w203 ⟨rfl, hE204⟩ hA202; have hS205 := hS198.step hE204; clear hE204 hA200 hS198 a199
 refine st hA202 (op_move rfl (hA202.ev rfl)) rfl rfl (by decide) fun a206 hA207 => ?_; clear hA202 a201
 refine st hA207 (op_extract rfl (hA207.ev rfl) rfl) rfl rfl (by decide) fun a208 hA209 => ?_; clear hA207 a206
 refine st hA209 (op_extract rfl (hA209.ev rfl) rfl) rfl rfl (by decide) fun a210 hA211 => ?_; clear hA209 a208
 refine stw hA211 (op_alloc hS205 rfl ze_42 (cs := [(Value.int .i64 0), (Value.int .i64 0)]) rfl) rfl rfl (by decide) ?_
 rintro a212 _ w214 ⟨b215, rfl, hS216⟩ hA213; clear hA211 hS205 a210
 refine sts hA213 (op_store hS216 rfl ty_42 (hA213.ev rfl) (hA213.ev rfl) (i := 0) rfl (vs := [(Value.int .i64 ((lifeR (allowedF ([(0, 0)]) ([])) (0 : Int).toNat 5).1)), (Value.int .i64 ((lifeR (allowedF ([(0, 0)]) ([])) (0 : Int).toNat 5).2))]) rfl rfl rfl (Nat.le_of_ble_eq_true rfl)) rfl rfl ?_
 intro _ w217 hS218 hA219; clear hA213
 have hS220 : Sep NoB w w217 [(blk b215 42 [(Value.int .i64 ((lifeR (allowedF ([(0, 0)]) ([])) (0 : Int).toNat 5).1)), (Value.int .i64 ((lifeR (allowedF ([(0, 0)]) ([])) (0 : Int).toNat 5).2))]), (blk b197 42 [(Value.int .i64 0), (Value.int .i64 0)]), (blk b180 42 [(Value.int .i64 ((lifeR (allowedF ([(0, 2)]) ([])) (0 : Int).toNat 5).1)), (Value.int .i64 ((lifeR (allowedF ([(0, 2)]) ([])) (0 : Int).toNat 5).2))]), (blk b158 33 [(Value.slice (some ⟨b151, 0, none⟩) 1 1)]), (blk b151 42 [(Value.int .i64 0), (Value.int .i64 2)]), (row u131 3 1 ((doubtF hotR otherR).length) (ints (doubtF hotR otherR))), (row u123 42 2 2 (pairs hotR)), (runsR true v106 ([s77, s78, (Value.slice (some ⟨b89, 0, none⟩) 1 1)]) otherR), (runsR true v48 lv49 madeR), (runsR true v14 lv15 madeR)] := hS218; clear hS218 hS216
 refine st hA219 (op_assign rfl (hA219.ev rfl)) rfl rfl (by decide) fun a221 hA222 => ?_; clear hA219 a212
 refine wl_nil ?_
 refine then_n ?_
 refine c_seq ?_
 have hA223 := hA222.as [(12, (Value.int .i64 0)), (11, (bptr b215 0)), (10, (Value.int .i64 0)), (9, (bptr b180 0)), (8, (bptr b158 0)), (7, (Value.int .i64 0)), (6, u131), (5, v106), (4, (Value.int .i64 0)), (3, (Value.bool true)), (2, (Value.int .i64 0)), (1, (Value.bool false))] rfl; clear hA222
 refine c_region ?_
 refine st hA223 (op_loadA rfl ty_33 (hA223.ev rfl) (hS220.bk 3 rfl) (l := [(Value.slice (some ⟨b151, 0, none⟩) 1 1)]) rfl rfl) rfl rfl (by decide) fun a224 hA225 => ?_; clear hA223 a221
 refine stw hA225 (op_call rfl en_23 (ev4 (hA225.ev rfl) (evc _ _) (evc _ _) (evc _ _)) (life_fine ([(0, 2)]) ([]) ([]) (Value.slice (some ⟨b151, 0, none⟩) 1 1) (.slice none 0 0) _ (SlAt.of_blk (hS220.bk 4 rfl) rfl (Nat.le_of_ble_eq_true rfl)) (runsAt_nil _) (by decide) (by decide) 0 0 ex_l3)) rfl rfl (by decide) ?_
 rintro a226 _ w228 ⟨rfl, hE229⟩ hA227; have hS230 := hS220.step hE229; clear hE229 hA225 hS220 a224
 refine st hA227 (op_move rfl (hA227.ev rfl)) rfl rfl (by decide) fun a231 hA232 => ?_; clear hA227 a226
 refine st hA232 (op_extract rfl (hA232.ev rfl) rfl) rfl rfl (by decide) fun a233 hA234 => ?_; clear hA232 a231
 refine st hA234 (op_extract rfl (hA234.ev rfl) rfl) rfl rfl (by decide) fun a235 hA236 => ?_; clear hA234 a233
 refine stw hA236 (op_alloc hS230 rfl ze_42 (cs := [(Value.int .i64 0), (Value.int .i64 0)]) rfl) rfl rfl (by decide) ?_
 rintro a237 _ w239 ⟨b240, rfl, hS241⟩ hA238; clear hA236 hS230 a235
 refine sts hA238 (op_store hS241 rfl ty_42 (hA238.ev rfl) (hA238.ev rfl) (i := 0) rfl (vs := [(Value.int .i64 ((lifeR (allowedF ([(0, 2)]) ([])) (0 : Int).toNat 0).1)), (Value.int .i64 ((lifeR (allowedF ([(0, 2)]) ([])) (0 : Int).toNat 0).2))]) rfl rfl rfl (Nat.le_of_ble_eq_true rfl)) rfl rfl ?_
 intro _ w242 hS243 hA244; clear hA238
 have hS245 : Sep NoB w w242 [(blk b240 42 [(Value.int .i64 ((lifeR (allowedF ([(0, 2)]) ([])) (0 : Int).toNat 0).1)), (Value.int .i64 ((lifeR (allowedF ([(0, 2)]) ([])) (0 : Int).toNat 0).2))]), (blk b215 42 [(Value.int .i64 ((lifeR (allowedF ([(0, 0)]) ([])) (0 : Int).toNat 5).1)), (Value.int .i64 ((lifeR (allowedF ([(0, 0)]) ([])) (0 : Int).toNat 5).2))]), (blk b197 42 [(Value.int .i64 0), (Value.int .i64 0)]), (blk b180 42 [(Value.int .i64 ((lifeR (allowedF ([(0, 2)]) ([])) (0 : Int).toNat 5).1)), (Value.int .i64 ((lifeR (allowedF ([(0, 2)]) ([])) (0 : Int).toNat 5).2))]), (blk b158 33 [(Value.slice (some ⟨b151, 0, none⟩) 1 1)]), (blk b151 42 [(Value.int .i64 0), (Value.int .i64 2)]), (row u131 3 1 ((doubtF hotR otherR).length) (ints (doubtF hotR otherR))), (row u123 42 2 2 (pairs hotR)), (runsR true v106 ([s77, s78, (Value.slice (some ⟨b89, 0, none⟩) 1 1)]) otherR), (runsR true v48 lv49 madeR), (runsR true v14 lv15 madeR)] := hS243; clear hS243 hS241
 refine st hA244 (op_assign rfl (hA244.ev rfl)) rfl rfl (by decide) fun a246 hA247 => ?_; clear hA244 a237
 refine wl_nil ?_
 refine then_n ?_
 refine c_seq ?_
 refine c_seq ?_
 have hA248 := hA247.as [(14, (Value.int .i64 0)), (13, (bptr b240 0)), (12, (Value.int .i64 0)), (11, (bptr b215 0)), (10, (Value.int .i64 0)), (9, (bptr b180 0)), (7, (Value.int .i64 0)), (6, u131), (5, v106), (4, (Value.int .i64 0)), (3, (Value.bool true)), (2, (Value.int .i64 0)), (1, (Value.bool false))] rfl; clear hA247
 refine c_region ?_
 refine st hA248 (op_move rfl (hA248.ev rfl)) rfl rfl (by decide) fun a249 hA250 => ?_; clear hA248 a246
 refine st hA250 (op_neq rfl (hA250.ev rfl) (evc _ _)) rfl rfl (by decide) fun a251 hA252 => ?_; clear hA250 a249
 refine st hA252 (op_move rfl (hA252.ev rfl)) rfl rfl (by decide) fun a253 hA254 => ?_; clear hA252 a251
 refine stg hA254 (op_move rfl (hA254.ev rfl)) rfl rfl rfl rfl (by decide) fun a255 hA256 => ?_; clear hA254 a253
 refine st hA256 (op_pick_f rfl (hA256.ev rfl) (hA256.ev rfl)) rfl rfl (by decide) fun a257 hA258 => ?_; clear hA256 a255
 refine st hA258 (op_move rfl (hA258.ev rfl)) rfl rfl (by decide) fun a259 hA260 => ?_; clear hA258 a257
 refine stg hA260 (op_move rfl (hA260.ev rfl)) rfl rfl rfl rfl (by decide) fun a261 hA262 => ?_; clear hA260 a259
 refine stg hA262 (op_neq rfl (hA262.ev rfl) (evc _ _)) rfl rfl rfl rfl (by decide) fun a263 hA264 => ?_; clear hA262 a261
 refine st hA264 (op_pick_f rfl (hA264.ev rfl) (hA264.ev rfl)) rfl rfl (by decide) fun a265 hA266 => ?_; clear hA264 a263
 refine st hA266 (op_move rfl (hA266.ev rfl)) rfl rfl (by decide) fun a267 hA268 => ?_; clear hA266 a265
 refine stg hA268 (op_move rfl (hA268.ev rfl)) rfl rfl rfl rfl (by decide) fun a269 hA270 => ?_; clear hA268 a267
 refine stg hA270 (op_not rfl (hA270.ev rfl)) rfl rfl rfl rfl (by decide) fun a271 hA272 => ?_; clear hA270 a269
 refine st hA272 (op_pick_f rfl (hA272.ev rfl) (hA272.ev rfl)) rfl rfl (by decide) fun a273 hA274 => ?_; clear hA272 a271
 refine st hA274 (op_move rfl (hA274.ev rfl)) rfl rfl (by decide) fun a275 hA276 => ?_; clear hA274 a273
 refine stg hA276 (op_move rfl (hA276.ev rfl)) rfl rfl rfl rfl (by decide) fun a277 hA278 => ?_; clear hA276 a275
 refine stg hA278 (op_neq rfl (hA278.ev rfl) (evc _ _)) rfl rfl rfl rfl (by decide) fun a279 hA280 => ?_; clear hA278 a277
 refine st hA280 (op_pick_f rfl (hA280.ev rfl) (hA280.ev rfl)) rfl rfl (by decide) fun a281 hA282 => ?_; clear hA280 a279
 refine st hA282 (op_move rfl (hA282.ev rfl)) rfl rfl (by decide) fun a283 hA284 => ?_; clear hA282 a281
 refine stg hA284 (op_move rfl (hA284.ev rfl)) rfl rfl rfl rfl (by decide) fun a285 hA286 => ?_; clear hA284 a283
 refine stwg hA286 (op_buildSlice hS245 rfl (pv1 (evc _ _)) un_40 ty_3 ze_3 (by decide) (cs := [(Value.int .i64 0)]) (bs_3_1_0i _)) rfl rfl rfl rfl (by decide) ?_
 rintro a287 _ w289 ⟨b290, rfl, hS291⟩ hA288; clear hA286 hS245 a285
 refine stwg hA288 (op_call rfl en_44 (ev2 (hA288.ev rfl) (hA288.ev rfl)) (ints_ok _ (doubtF hotR otherR) _ (SlAt.of_row (hS291.ok_row 7 rfl)) ([0]) _ (SlAt.of_blk (hS291.bk 0 rfl) rfl (Nat.le_of_ble_eq_true rfl)) (by rw [ex_doubt]; decide))) rfl rfl rfl rfl (by decide) ?_
 rintro a292 _ w294 ⟨rfl, hE295⟩ hA293; have hS296 := hS291.step hE295; clear hE295 hA288 hS291 a287
 have hd297 : (decide ((doubtF hotR otherR) = [0])) = true := (by rw [ex_doubt]; rfl)
 rw [hd297] at hA293
 refine stg hA293 (op_not rfl (hA293.ev rfl)) rfl rfl rfl rfl (by decide) fun a298 hA299 => ?_; clear hA293 a292
 refine st hA299 (op_pick_f rfl (hA299.ev rfl) (hA299.ev rfl)) rfl rfl (by decide) fun a300 hA301 => ?_; clear hA299 a298
 refine st hA301 (op_move rfl (hA301.ev rfl)) rfl rfl (by decide) fun a302 hA303 => ?_; clear hA301 a300
 refine stg hA303 (op_move rfl (hA303.ev rfl)) rfl rfl rfl rfl (by decide) fun a304 hA305 => ?_; clear hA303 a302
 refine stg hA305 (op_neq rfl (hA305.ev rfl) (evc _ _)) rfl rfl rfl rfl (by decide) fun a306 hA307 => ?_; clear hA305 a304
 refine st hA307 (op_pick_f rfl (hA307.ev rfl) (hA307.ev rfl)) rfl rfl (by decide) fun a308 hA309 => ?_; clear hA307 a306
 refine st hA309 (op_move rfl (hA309.ev rfl)) rfl rfl (by decide) fun a310 hA311 => ?_; clear hA309 a308
 refine stg hA311 (op_loadA rfl ty_42 (hA311.ev rfl) (hS296.bk 4 rfl) (l := [(Value.int .i64 ((lifeR (allowedF ([(0, 2)]) ([])) (0 : Int).toNat 5).1)), (Value.int .i64 ((lifeR (allowedF ([(0, 2)]) ([])) (0 : Int).toNat 5).2))]) rfl rfl) rfl rfl rfl rfl (by decide) fun a312 hA313 => ?_; clear hA311 a310
 refine stg hA313 (op_build rfl (pv2 (evc _ _) (evc _ _)) (bd_42_0i_1i _ _)) rfl rfl rfl rfl (by decide) fun a314 hA315 => ?_; clear hA313 a312
 refine stg hA315 (op_neqP tw_42 rfl (hA315.ev rfl) (hA315.ev rfl)) rfl rfl rfl rfl (by decide) fun a316 hA317 => ?_; clear hA315 a314
 have hd318 : (decide ((((lifeR (allowedF ([(0, 2)]) ([])) (0 : Int).toNat 5).1) : Int) = 3) && decide ((((lifeR (allowedF ([(0, 2)]) ([])) (0 : Int).toNat 5).2) : Int) = (-1))) = true := (by first | (rw [ex_r1]; rfl) | (rw [ex_r2]; rfl) | (rw [ex_r3]; rfl))
 rw [hd318] at hA317
 have hq319 := hd318; simp only [Bool.and_eq_true, Bool.and_eq_false_iff, decide_eq_true_eq, decide_eq_false_iff_not] at hq319
 refine st hA317 (op_pick_f rfl (hA317.ev rfl) (hA317.ev rfl)) rfl rfl (by decide) fun a320 hA321 => ?_; clear hA317 a316
 refine st hA321 (op_move rfl (hA321.ev rfl)) rfl rfl (by decide) fun a322 hA323 => ?_; clear hA321 a320
 refine stg hA323 (op_move rfl (hA323.ev rfl)) rfl rfl rfl rfl (by decide) fun a324 hA325 => ?_; clear hA323 a322
 refine stg hA325 (op_neq rfl (hA325.ev rfl) (evc _ _)) rfl rfl rfl rfl (by decide) fun a326 hA327 => ?_; clear hA325 a324
 refine st hA327 (op_pick_f rfl (hA327.ev rfl) (hA327.ev rfl)) rfl rfl (by decide) fun a328 hA329 => ?_; clear hA327 a326
 refine st hA329 (op_move rfl (hA329.ev rfl)) rfl rfl (by decide) fun a330 hA331 => ?_; clear hA329 a328
 refine stg hA331 (op_loadA rfl ty_42 (hA331.ev rfl) (hS296.bk 2 rfl) (l := [(Value.int .i64 ((lifeR (allowedF ([(0, 0)]) ([])) (0 : Int).toNat 5).1)), (Value.int .i64 ((lifeR (allowedF ([(0, 0)]) ([])) (0 : Int).toNat 5).2))]) rfl rfl) rfl rfl rfl rfl (by decide) fun a332 hA333 => ?_; clear hA331 a330
 refine stg hA333 (op_build rfl (pv2 (evc _ _) (evc _ _)) (bd_42_0i_1i _ _)) rfl rfl rfl rfl (by decide) fun a334 hA335 => ?_; clear hA333 a332
 refine stg hA335 (op_neqP tw_42 rfl (hA335.ev rfl) (hA335.ev rfl)) rfl rfl rfl rfl (by decide) fun a336 hA337 => ?_; clear hA335 a334
 have hd338 : (decide ((((lifeR (allowedF ([(0, 0)]) ([])) (0 : Int).toNat 5).1) : Int) = (-1)) && decide ((((lifeR (allowedF ([(0, 0)]) ([])) (0 : Int).toNat 5).2) : Int) = (-1))) = true := (by first | (rw [ex_r1]; rfl) | (rw [ex_r2]; rfl) | (rw [ex_r3]; rfl))
 rw [hd338] at hA337
 have hq339 := hd338; simp only [Bool.and_eq_true, Bool.and_eq_false_iff, decide_eq_true_eq, decide_eq_false_iff_not] at hq339
 refine st hA337 (op_pick_f rfl (hA337.ev rfl) (hA337.ev rfl)) rfl rfl (by decide) fun a340 hA341 => ?_; clear hA337 a336
 refine st hA341 (op_move rfl (hA341.ev rfl)) rfl rfl (by decide) fun a342 hA343 => ?_; clear hA341 a340
 refine stg hA343 (op_move rfl (hA343.ev rfl)) rfl rfl rfl rfl (by decide) fun a344 hA345 => ?_; clear hA343 a342
 refine stg hA345 (op_neq rfl (hA345.ev rfl) (evc _ _)) rfl rfl rfl rfl (by decide) fun a346 hA347 => ?_; clear hA345 a344
 refine st hA347 (op_pick_f rfl (hA347.ev rfl) (hA347.ev rfl)) rfl rfl (by decide) fun a348 hA349 => ?_; clear hA347 a346
 refine st hA349 (op_move rfl (hA349.ev rfl)) rfl rfl (by decide) fun a350 hA351 => ?_; clear hA349 a348
 refine stg hA351 (op_loadA rfl ty_42 (hA351.ev rfl) (hS296.bk 1 rfl) (l := [(Value.int .i64 ((lifeR (allowedF ([(0, 2)]) ([])) (0 : Int).toNat 0).1)), (Value.int .i64 ((lifeR (allowedF ([(0, 2)]) ([])) (0 : Int).toNat 0).2))]) rfl rfl) rfl rfl rfl rfl (by decide) fun a352 hA353 => ?_; clear hA351 a350
 refine stg hA353 (op_build rfl pv0 bd_42_) rfl rfl rfl rfl (by decide) fun a354 hA355 => ?_; clear hA353 a352
 refine stg hA355 (op_neqP tw_42 rfl (hA355.ev rfl) (hA355.ev rfl)) rfl rfl rfl rfl (by decide) fun a356 hA357 => ?_; clear hA355 a354
 have hd358 : (decide ((((lifeR (allowedF ([(0, 2)]) ([])) (0 : Int).toNat 0).1) : Int) = 0) && decide ((((lifeR (allowedF ([(0, 2)]) ([])) (0 : Int).toNat 0).2) : Int) = 0)) = true := (by first | (rw [ex_r1]; rfl) | (rw [ex_r2]; rfl) | (rw [ex_r3]; rfl))
 rw [hd358] at hA357
 have hq359 := hd358; simp only [Bool.and_eq_true, Bool.and_eq_false_iff, decide_eq_true_eq, decide_eq_false_iff_not] at hq359
 refine st hA357 (op_pick_f rfl (hA357.ev rfl) (hA357.ev rfl)) rfl rfl (by decide) fun a360 hA361 => ?_; clear hA357 a356
 refine wl_nil ?_
 refine then_n ?_
 refine c_false hA361 rfl ?_
 refine c_skip ?_
 refine then_n ?_
 refine c_seq ?_
 have hA362 := hA361.as [(5, v106)] rfl; clear hA361
 refine c_region ?_
 refine stw hA362 (op_call rfl en_51 ev0 (hot_ok _)) rfl rfl (by decide) ?_
 rintro a363 _ w365 ⟨u368, rfl, hT366⟩ hA364; have hS367 := hS296.callS hT366 rfl; clear hT366 hA362 hS296 a360
 refine st hA364 (op_move rfl (hA364.ev rfl)) rfl rfl (by decide) fun a369 hA370 => ?_; clear hA364 a363
 refine stw hA370 (op_call rfl en_18 (ev2 (hA370.ev rfl) (hA370.ev rfl)) (rates_bad hotR otherR ([s77, s78, (Value.slice (some ⟨b89, 0, none⟩) 1 1)]) u368 v106 _ (SlAt.of_row (hS367.ok_row 0 rfl)) (runs_at (hS367.ok 10 _ rfl)) (by decide) (by decide) (by rw [ex_poss]; decide))) rfl rfl (by decide) ?_
 rintro a371 _ w373 ⟨rfl, hE374⟩ hA372; have hS375 := hS367.step hE374; clear hE374 hA370 hS367 a369
 refine st hA372 (op_move rfl (hA372.ev rfl)) rfl rfl (by decide) fun a376 hA377 => ?_; clear hA372 a371
 refine st hA377 (op_extract rfl (hA377.ev rfl) rfl) rfl rfl (by decide) fun a378 hA379 => ?_; clear hA377 a376
 refine st hA379 (op_extract rfl (hA379.ev rfl) rfl) rfl rfl (by decide) fun a380 hA381 => ?_; clear hA379 a378
 refine st hA381 (op_extract rfl (hA381.ev rfl) rfl) rfl rfl (by decide) fun a382 hA383 => ?_; clear hA381 a380
 refine st hA383 (op_assign rfl (hA383.ev rfl)) rfl rfl (by decide) fun a384 hA385 => ?_; clear hA383 a382
 refine wl_nil ?_
 refine then_n ?_
 refine c_seq ?_
 have hA386 := hA385.as [(2, (Value.int .i64 (possF hotR otherR))), (5, v106)] rfl; clear hA385
 refine c_region ?_
 refine stw hA386 (op_call rfl en_51 ev0 (hot_ok _)) rfl rfl (by decide) ?_
 rintro a387 _ w389 ⟨u392, rfl, hT390⟩ hA388; have hS391 := hS375.callS hT390 rfl; clear hT390 hA386 hS375 a384
 refine stw hA388 (op_call rfl en_52 ev0 (made_ok _)) rfl rfl (by decide) ?_
 rintro a393 v398 w395 ⟨lv399, hT396⟩ hA394; have hS397 := hS391.callS hT396 rfl; clear hT396 hA388 hS391 a387
 refine stw hA394 (op_buildSlice hS397 rfl (pv2 (evc _ _) (evc _ _)) un_40 ty_3 ze_3 (by decide) (cs := [(Value.int .i64 3), (Value.int .i64 2)]) (bs_3_2_0i_1i _ _)) rfl rfl (by decide) ?_
 rintro a400 _ w402 ⟨b403, rfl, hS404⟩ hA401; clear hA394 hS397 a393
 refine stw hA401 (op_call rfl en_38 (ev3 (hA401.ev rfl) (hA401.ev rfl) (hA401.ev rfl)) (allows_no hotR madeR lv399 u392 v398 _ (SlAt.of_row (hS404.ok_row 2 rfl)) (runs_at (hS404.ok 1 _ rfl)) (by decide) (by decide) ([3, 2]) (Value.slice (some ⟨b403, 0, none⟩) 2 2) (SlAt.of_blk (hS404.bk 0 rfl) rfl (Nat.le_of_ble_eq_true rfl)) (by decide) ex_enter ex_are3)) rfl rfl (by decide) ?_
 rintro a405 _ w407 ⟨rfl, hE408⟩ hA406; have hS409 := hS404.step hE408; clear hE408 hA401 hS404 a400
 refine st hA406 (op_move rfl (hA406.ev rfl)) rfl rfl (by decide) fun a410 hA411 => ?_; clear hA406 a405
 refine st hA411 (op_extract rfl (hA411.ev rfl) rfl) rfl rfl (by decide) fun a412 hA413 => ?_; clear hA411 a410
 refine st hA413 (op_extract rfl (hA413.ev rfl) rfl) rfl rfl (by decide) fun a414 hA415 => ?_; clear hA413 a412
 refine st hA415 (op_assign rfl (hA415.ev rfl)) rfl rfl (by decide) fun a416 hA417 => ?_; clear hA415 a414
 refine wl_nil ?_
 refine then_n ?_
 refine c_seq ?_
 have hA418 := hA417.as [(4, (Value.int .i64 2)), (2, (Value.int .i64 (possF hotR otherR))), (5, v106)] rfl; clear hA417
 have hA419 := hA418.as [(4, (Value.int .i64 2)), (2, (Value.int .i64 (possF hotR otherR))), (5, v106)] rfl; clear hA418
 refine c_drawV mixed hA419 hS409 7 [[], [], [], [0, 1, 2], [3], [4], [4]] [(fun (vs420 : Nat → Value) (v_ : Value) (rs_ : List Res) => ∃ (u0_ : Value), v_ = (Value.agg #[u0_]) ∧ rs_ = [(row u0_ 42 2 2 (pairs hotR))]), (fun (vs420 : Nat → Value) (v_ : Value) (rs_ : List Res) => ∃ (lv1_ : List Value), True ∧ rs_ = [(runsR true v_ lv1_ madeR)]), (fun (vs420 : Nat → Value) (v_ : Value) (rs_ : List Res) => True ∧ rs_ = [(row v_ 67 3 zeroS.length (trips zeroS))]), (fun (vs420 : Nat → Value) (v_ : Value) (rs_ : List Res) => v_ = (Value.tuple #[(Value.agg #[(Value.int .i64 0), (Value.int .i64 0)]), (Value.int .i64 (planF hotR madeR zeroS))]) ∧ rs_ = []), (fun (vs420 : Nat → Value) (v_ : Value) (rs_ : List Res) => v_ = (Value.tuple #[(Value.agg #[(Value.int .i64 0), (Value.int .i64 0)]), (Value.int .i64 (planF hotR madeR zeroS))]) ∧ rs_ = []), (fun (vs420 : Nat → Value) (v_ : Value) (rs_ : List Res) => v_ = (Value.agg #[(Value.int .i64 0), (Value.int .i64 0)]) ∧ rs_ = []), (fun (vs420 : Nat → Value) (v_ : Value) (rs_ : List Res) => v_ = (Value.int .i64 (planF hotR madeR zeroS)) ∧ rs_ = [])] (by decide +kernel) (by decide +kernel) rfl rfl ⟨(fun _ _ _ _ _ h_ => h_), (fun _ _ _ _ _ h_ => h_), (fun _ _ _ _ _ h_ => h_), (fun _ _ _ _ _ h_ => h_), (fun _ _ _ _ _ h_ => h_), (fun _ _ _ _ _ h_ => h_), (fun _ _ _ _ _ h_ => h_), trivial⟩ ?_ ?_
 ·skip
  refine ⟨fun a w vs420 hA hS hd => ?_, ?_⟩
  ·skip
   exact opG_of rfl (vn (op_call rfl en_51 ev0 (hot_ok _)) (fun v w' h => by obtain ⟨u, rfl, hT⟩ := h; exact ⟨_, ⟨u, rfl, rfl⟩, hT, rfl⟩))
  refine ⟨fun a w vs420 hA hS hd => ?_, ?_⟩
  ·skip
   exact opG_of rfl (vn (op_call rfl en_52 ev0 (made_ok _)) (fun v w' h => by obtain ⟨lv, hT⟩ := h; exact ⟨_, ⟨lv, trivial, rfl⟩, hT, rfl⟩))
  refine ⟨fun a w vs420 hA hS hd => ?_, ?_⟩
  ·skip
   exact opG_of rfl (vn (op_makeFull (n := 9) (Sep.start NoB _) rfl un_58 el_67 (show _ = Value.int .i64 ((9 : Nat) : Int) from (evc _ _)) (show _ = Value.int .i64 ((9 : Nat) : Int) from (evc _ _)) mkv_67_9 (by decide) (by decide) (by decide)) (fun v w' h => ⟨_, ⟨trivial, rfl⟩, h, rfl⟩))
  refine ⟨fun a w vs420 hA hS hd => ?_, ?_⟩
  ·skip
   obtain ⟨e0, rs0, hy0, hp0⟩ := hd 0 (by decide)
   obtain ⟨u0_, hv0, hr0⟩ := hy0; subst hr0
   rw [hv0] at e0
   have hp0_0 := hp0 _ (List.mem_of_getElem? (i := 0) rfl)
   obtain ⟨e1, rs1, hy1, hp1⟩ := hd 1 (by decide)
   obtain ⟨lv1_, hv1, hr1⟩ := hy1; subst hr1
   have hp1_0 := hp1 _ (List.mem_of_getElem? (i := 0) rfl)
   obtain ⟨e2, rs2, hy2, hp2⟩ := hd 2 (by decide)
   obtain ⟨hv2, hr2⟩ := hy2; subst hr2
   have hp2_0 := hp2 _ (List.mem_of_getElem? (i := 0) rfl)
   exact opG_of rfl (vn (op_call rfl en_28 (ev3 (tmp_ev (slot_ev e0 rfl)) (tmp_ev (slot_ev e1 rfl)) (tmp_ev (slot_ev e2 rfl))) (stretch_bad hotR madeR lv1_ u0_ (vs420 1) _ (SlAt.of_row hp0_0) (runs_at hp1_0) (by decide) (by decide) zeroS (vs420 2) (SlAt.of_row hp2_0) (by decide) (by rw [ex_plan]; decide))) (fun v w' h => by obtain ⟨rfl, hE⟩ := h; exact ⟨[], ⟨rfl, rfl⟩, (Sep.start NoB _).step hE, rfl⟩))
  refine ⟨fun a w vs420 hA hS hd => ?_, ?_⟩
  ·skip
   obtain ⟨e3, rs3, hy3, hp3⟩ := hd 3 (by decide)
   obtain ⟨hv3, hr3⟩ := hy3; subst hr3
   rw [hv3] at e3
   exact opG_of rfl (vv (op_move rfl (tmp_ev (slot_ev e3 rfl))) (And.intro rfl rfl))
  refine ⟨fun a w vs420 hA hS hd => ?_, ?_⟩
  ·skip
   obtain ⟨e4, rs4, hy4, hp4⟩ := hd 4 (by decide)
   obtain ⟨hv4, hr4⟩ := hy4; subst hr4
   rw [hv4] at e4
   exact opG_of rfl (vv (op_extract rfl (tmp_ev (slot_ev e4 rfl)) rfl) (And.intro rfl rfl))
  refine ⟨fun a w vs420 hA hS hd => ?_, ?_⟩
  ·skip
   obtain ⟨e4, rs4, hy4, hp4⟩ := hd 4 (by decide)
   obtain ⟨hv4, hr4⟩ := hy4; subst hr4
   rw [hv4] at e4
   exact opG_of rfl (vv (op_extract rfl (tmp_ev (slot_ev e4 rfl)) rfl) (And.intro rfl rfl))
  trivial
 intro a421 w422 vs420 rsf426 hA423 hH425 hS424; clear hA419 hS409
 obtain ⟨hs_0, hy_0⟩ := hH425 0 (by decide)
 obtain ⟨u0_, hv_0, hr_0⟩ := hy_0
 obtain ⟨hs_1, hy_1⟩ := hH425 1 (by decide)
 obtain ⟨lv1_, hv_1, hr_1⟩ := hy_1
 obtain ⟨hs_2, hy_2⟩ := hH425 2 (by decide)
 obtain ⟨hv_2, hr_2⟩ := hy_2
 obtain ⟨hs_3, hy_3⟩ := hH425 3 (by decide)
 obtain ⟨hv_3, hr_3⟩ := hy_3
 obtain ⟨hs_4, hy_4⟩ := hH425 4 (by decide)
 obtain ⟨hv_4, hr_4⟩ := hy_4
 obtain ⟨hs_5, hy_5⟩ := hH425 5 (by decide)
 obtain ⟨hv_5, hr_5⟩ := hy_5
 obtain ⟨hs_6, hy_6⟩ := hH425 6 (by decide)
 obtain ⟨hv_6, hr_6⟩ := hy_6
 have hS427 : Sep NoB w w422 [(row u0_ 42 2 2 (pairs hotR)), (runsR true (vs420 1) lv1_ madeR), (row (vs420 2) 67 3 zeroS.length (trips zeroS)), (blk b403 3 [(Value.int .i64 3), (Value.int .i64 2)]), (runsR true v398 lv399 madeR), (row u392 42 2 2 (pairs hotR)), (row u368 42 2 2 (pairs hotR)), (blk b290 3 [(Value.int .i64 0)]), (blk b240 42 [(Value.int .i64 ((lifeR (allowedF ([(0, 2)]) ([])) (0 : Int).toNat 0).1)), (Value.int .i64 ((lifeR (allowedF ([(0, 2)]) ([])) (0 : Int).toNat 0).2))]), (blk b215 42 [(Value.int .i64 ((lifeR (allowedF ([(0, 0)]) ([])) (0 : Int).toNat 5).1)), (Value.int .i64 ((lifeR (allowedF ([(0, 0)]) ([])) (0 : Int).toNat 5).2))]), (blk b197 42 [(Value.int .i64 0), (Value.int .i64 0)]), (blk b180 42 [(Value.int .i64 ((lifeR (allowedF ([(0, 2)]) ([])) (0 : Int).toNat 5).1)), (Value.int .i64 ((lifeR (allowedF ([(0, 2)]) ([])) (0 : Int).toNat 5).2))]), (blk b158 33 [(Value.slice (some ⟨b151, 0, none⟩) 1 1)]), (blk b151 42 [(Value.int .i64 0), (Value.int .i64 2)]), (row u131 3 1 ((doubtF hotR otherR).length) (ints (doubtF hotR otherR))), (row u123 42 2 2 (pairs hotR)), (runsR true v106 ([s77, s78, (Value.slice (some ⟨b89, 0, none⟩) 1 1)]) otherR), (runsR true v48 lv49 madeR), (runsR true v14 lv15 madeR)] := by rw [show catR rsf426 0 7 = ([(row u0_ 42 2 2 (pairs hotR)), (runsR true (vs420 1) lv1_ madeR), (row (vs420 2) 67 3 zeroS.length (trips zeroS))] : List Res) by (try simp only [catR, hr_0, hr_1, hr_2, hr_3, hr_4, hr_5, hr_6]); (try rfl)] at hS424; exact hS424
 rw [hv_6] at hs_6
 have hA428 : Fr 230 [] [(138, (Value.int .i64 (planF hotR madeR zeroS))), (4, (Value.int .i64 2)), (2, (Value.int .i64 (possF hotR otherR))), (5, v106)] a421 := hA423.add (slot_ev hs_6 rfl); clear hA423
 clear hH425 hS424 hs_0 hs_1 hs_2 hs_3 hs_4 hs_5 hs_6
 clear hr_0
 clear hv_0
 clear hr_1
 clear hv_1
 clear hr_2
 clear hv_2
 clear hr_3
 clear hv_3
 clear hr_4
 clear hv_4
 clear hr_5
 clear hv_5
 clear hr_6
 clear hv_6
 refine st hA428 (op_assign rfl (hA428.ev rfl)) rfl rfl (by decide) fun a429 hA430 => ?_; clear hA428 a421
 refine wl_nil ?_
 refine then_n ?_
 refine c_seq ?_
 refine c_region ?_
 refine stw hA430 (op_call rfl en_51 ev0 (hot_ok _)) rfl rfl (by decide) ?_
 rintro a431 _ w433 ⟨u436, rfl, hT434⟩ hA432; have hS435 := hS427.callS hT434 rfl; clear hT434 hA430 hS427 a429
 refine stw hA432 (op_call rfl en_52 ev0 (made_ok _)) rfl rfl (by decide) ?_
 rintro a437 v442 w439 ⟨lv443, hT440⟩ hA438; have hS441 := hS435.callS hT440 rfl; clear hT440 hA432 hS435 a431
 refine stw hA438 (op_call rfl en_23 (ev4 (hA438.ev rfl) (hA438.ev rfl) (evc _ _) (evc _ _)) (life_no hotR madeR lv443 u436 v442 _ (SlAt.of_row (hS441.ok_row 1 rfl)) (runs_at (hS441.ok 0 _ rfl)) (by decide) (by decide) 2 5 (by rw [ex_l4]; decide))) rfl rfl (by decide) ?_
 rintro a444 _ w446 ⟨rfl, hE447⟩ hA445; have hS448 := hS441.step hE447; clear hE447 hA438 hS441 a437
 refine st hA445 (op_move rfl (hA445.ev rfl)) rfl rfl (by decide) fun a449 hA450 => ?_; clear hA445 a444
 refine st hA450 (op_extract rfl (hA450.ev rfl) rfl) rfl rfl (by decide) fun a451 hA452 => ?_; clear hA450 a449
 refine st hA452 (op_extract rfl (hA452.ev rfl) rfl) rfl rfl (by decide) fun a453 hA454 => ?_; clear hA452 a451
 refine st hA454 (op_assign rfl (hA454.ev rfl)) rfl rfl (by decide) fun a455 hA456 => ?_; clear hA454 a453
 refine wl_nil ?_
 refine then_n ?_
 refine c_seq ?_
 have hA457 := hA456.as [(10, (Value.int .i64 (lifeE hotR madeR 2 5))), (7, (Value.int .i64 (planF hotR madeR zeroS))), (4, (Value.int .i64 2)), (2, (Value.int .i64 (possF hotR otherR))), (5, v106)] rfl; clear hA456
 refine c_region ?_
 refine stw hA457 (op_call rfl en_51 ev0 (hot_ok _)) rfl rfl (by decide) ?_
 rintro a458 _ w460 ⟨u463, rfl, hT461⟩ hA459; have hS462 := hS448.callS hT461 rfl; clear hT461 hA457 hS448 a455
 refine stw hA459 (op_call rfl en_52 ev0 (made_ok _)) rfl rfl (by decide) ?_
 rintro a464 v469 w466 ⟨lv470, hT467⟩ hA465; have hS468 := hS462.callS hT467 rfl; clear hT467 hA459 hS462 a458
 refine stw hA465 (op_call rfl en_23 (ev4 (hA465.ev rfl) (hA465.ev rfl) (evc _ _) (evc _ _)) (life_no hotR madeR lv470 u463 v469 _ (SlAt.of_row (hS468.ok_row 1 rfl)) (runs_at (hS468.ok 0 _ rfl)) (by decide) (by decide) 1 (-1) (by rw [ex_l5]; decide))) rfl rfl (by decide) ?_
 rintro a471 _ w473 ⟨rfl, hE474⟩ hA472; have hS475 := hS468.step hE474; clear hE474 hA465 hS468 a464
 refine st hA472 (op_move rfl (hA472.ev rfl)) rfl rfl (by decide) fun a476 hA477 => ?_; clear hA472 a471
 refine st hA477 (op_extract rfl (hA477.ev rfl) rfl) rfl rfl (by decide) fun a478 hA479 => ?_; clear hA477 a476
 refine st hA479 (op_extract rfl (hA479.ev rfl) rfl) rfl rfl (by decide) fun a480 hA481 => ?_; clear hA479 a478
 refine st hA481 (op_assign rfl (hA481.ev rfl)) rfl rfl (by decide) fun a482 hA483 => ?_; clear hA481 a480
 refine wl_nil ?_
 refine then_n ?_
 refine c_seq ?_
 have hA484 := hA483.as [(12, (Value.int .i64 (lifeE hotR madeR 1 (-1)))), (10, (Value.int .i64 (lifeE hotR madeR 2 5))), (7, (Value.int .i64 (planF hotR madeR zeroS))), (4, (Value.int .i64 2)), (2, (Value.int .i64 (possF hotR otherR))), (5, v106)] rfl; clear hA483
 have hA485 := hA484.as [(12, (Value.int .i64 (lifeE hotR madeR 1 (-1)))), (10, (Value.int .i64 (lifeE hotR madeR 2 5))), (7, (Value.int .i64 (planF hotR madeR zeroS))), (4, (Value.int .i64 2)), (2, (Value.int .i64 (possF hotR otherR))), (5, v106)] rfl; clear hA484
 refine c_drawV mixed hA485 hS475 6 [[], [], [0, 1], [2], [3], [3]] [(fun (vs486 : Nat → Value) (v_ : Value) (rs_ : List Res) => ∃ (u0_vs486 : Value), v_ = (Value.agg #[u0_vs486]) ∧ rs_ = [(row u0_vs486 42 2 2 (pairs hotR))]), (fun (vs486 : Nat → Value) (v_ : Value) (rs_ : List Res) => True ∧ rs_ = [(runsR true v_ zeroV zeroR)]), (fun (vs486 : Nat → Value) (v_ : Value) (rs_ : List Res) => v_ = (Value.tuple #[(Value.slice none 0 0), (Value.int .i64 (enterF hotR zeroR))]) ∧ rs_ = []), (fun (vs486 : Nat → Value) (v_ : Value) (rs_ : List Res) => v_ = (Value.tuple #[(Value.slice none 0 0), (Value.int .i64 (enterF hotR zeroR))]) ∧ rs_ = []), (fun (vs486 : Nat → Value) (v_ : Value) (rs_ : List Res) => v_ = (Value.slice none 0 0) ∧ rs_ = []), (fun (vs486 : Nat → Value) (v_ : Value) (rs_ : List Res) => v_ = (Value.int .i64 (enterF hotR zeroR)) ∧ rs_ = [])] (by decide +kernel) (by decide +kernel) rfl rfl ⟨(fun _ _ _ _ _ h_ => h_), (fun _ _ _ _ _ h_ => h_), (fun _ _ _ _ _ h_ => h_), (fun _ _ _ _ _ h_ => h_), (fun _ _ _ _ _ h_ => h_), (fun _ _ _ _ _ h_ => h_), trivial⟩ ?_ ?_
 ·skip
  refine ⟨fun a w vs486 hA hS hd => ?_, ?_⟩
  ·skip
   exact opG_of rfl (vn (op_call rfl en_51 ev0 (hot_ok _)) (fun v w' h => by obtain ⟨u, rfl, hT⟩ := h; exact ⟨_, ⟨u, rfl, rfl⟩, hT, rfl⟩))
  refine ⟨fun a w vs486 hA hS hd => ?_, ?_⟩
  ·skip
   exact opG_of rfl (vn (op_makeFull (n := 7) (Sep.start NoB _) rfl un_35 el_96 (show _ = Value.int .i64 ((7 : Nat) : Int) from (evc _ _)) (show _ = Value.int .i64 ((7 : Nat) : Int) from (evc _ _)) mkv_96_7 (by decide) (by decide) (by decide)) (fun v w' h => ⟨_, ⟨trivial, rfl⟩, Sep.runs_zero (n := 7) h, rfl⟩))
  refine ⟨fun a w vs486 hA hS hd => ?_, ?_⟩
  ·skip
   obtain ⟨e0, rs0, hy0, hp0⟩ := hd 0 (by decide)
   obtain ⟨u0_vs486, hv0, hr0⟩ := hy0; subst hr0
   rw [hv0] at e0
   have hp0_0 := hp0 _ (List.mem_of_getElem? (i := 0) rfl)
   obtain ⟨e1, rs1, hy1, hp1⟩ := hd 1 (by decide)
   obtain ⟨hv1, hr1⟩ := hy1; subst hr1
   have hp1_0 := hp1 _ (List.mem_of_getElem? (i := 0) rfl)
   exact opG_of rfl (vn (op_call rfl en_43 (ev2 (tmp_ev (slot_ev e0 rfl)) (tmp_ev (slot_ev e1 rfl))) (doubt_bad hotR zeroR zeroV u0_vs486 (vs486 1) _ (SlAt.of_row hp0_0) (runs_at hp1_0) (by decide) (by decide) (by rw [ex_seven]; decide))) (fun v w' h => by obtain ⟨rfl, hE⟩ := h; exact ⟨[], ⟨rfl, rfl⟩, (Sep.start NoB _).step hE, rfl⟩))
  refine ⟨fun a w vs486 hA hS hd => ?_, ?_⟩
  ·skip
   obtain ⟨e2, rs2, hy2, hp2⟩ := hd 2 (by decide)
   obtain ⟨hv2, hr2⟩ := hy2; subst hr2
   rw [hv2] at e2
   exact opG_of rfl (vv (op_move rfl (tmp_ev (slot_ev e2 rfl))) (And.intro rfl rfl))
  refine ⟨fun a w vs486 hA hS hd => ?_, ?_⟩
  ·skip
   obtain ⟨e3, rs3, hy3, hp3⟩ := hd 3 (by decide)
   obtain ⟨hv3, hr3⟩ := hy3; subst hr3
   rw [hv3] at e3
   exact opG_of rfl (vv (op_extract rfl (tmp_ev (slot_ev e3 rfl)) rfl) (And.intro rfl rfl))
  refine ⟨fun a w vs486 hA hS hd => ?_, ?_⟩
  ·skip
   obtain ⟨e3, rs3, hy3, hp3⟩ := hd 3 (by decide)
   obtain ⟨hv3, hr3⟩ := hy3; subst hr3
   rw [hv3] at e3
   exact opG_of rfl (vv (op_extract rfl (tmp_ev (slot_ev e3 rfl)) rfl) (And.intro rfl rfl))
  trivial
 intro a487 w488 vs486 rsf492 hA489 hH491 hS490; clear hA485 hS475
 obtain ⟨hs_0, hy_0⟩ := hH491 0 (by decide)
 obtain ⟨u0_vs486, hv_0, hr_0⟩ := hy_0
 obtain ⟨hs_1, hy_1⟩ := hH491 1 (by decide)
 obtain ⟨hv_1, hr_1⟩ := hy_1
 obtain ⟨hs_2, hy_2⟩ := hH491 2 (by decide)
 obtain ⟨hv_2, hr_2⟩ := hy_2
 obtain ⟨hs_3, hy_3⟩ := hH491 3 (by decide)
 obtain ⟨hv_3, hr_3⟩ := hy_3
 obtain ⟨hs_4, hy_4⟩ := hH491 4 (by decide)
 obtain ⟨hv_4, hr_4⟩ := hy_4
 obtain ⟨hs_5, hy_5⟩ := hH491 5 (by decide)
 obtain ⟨hv_5, hr_5⟩ := hy_5
 have hS493 : Sep NoB w w488 [(row u0_vs486 42 2 2 (pairs hotR)), (runsR true (vs486 1) zeroV zeroR), (runsR true v469 lv470 madeR), (row u463 42 2 2 (pairs hotR)), (runsR true v442 lv443 madeR), (row u436 42 2 2 (pairs hotR)), (row u0_ 42 2 2 (pairs hotR)), (runsR true (vs420 1) lv1_ madeR), (row (vs420 2) 67 3 zeroS.length (trips zeroS)), (blk b403 3 [(Value.int .i64 3), (Value.int .i64 2)]), (runsR true v398 lv399 madeR), (row u392 42 2 2 (pairs hotR)), (row u368 42 2 2 (pairs hotR)), (blk b290 3 [(Value.int .i64 0)]), (blk b240 42 [(Value.int .i64 ((lifeR (allowedF ([(0, 2)]) ([])) (0 : Int).toNat 0).1)), (Value.int .i64 ((lifeR (allowedF ([(0, 2)]) ([])) (0 : Int).toNat 0).2))]), (blk b215 42 [(Value.int .i64 ((lifeR (allowedF ([(0, 0)]) ([])) (0 : Int).toNat 5).1)), (Value.int .i64 ((lifeR (allowedF ([(0, 0)]) ([])) (0 : Int).toNat 5).2))]), (blk b197 42 [(Value.int .i64 0), (Value.int .i64 0)]), (blk b180 42 [(Value.int .i64 ((lifeR (allowedF ([(0, 2)]) ([])) (0 : Int).toNat 5).1)), (Value.int .i64 ((lifeR (allowedF ([(0, 2)]) ([])) (0 : Int).toNat 5).2))]), (blk b158 33 [(Value.slice (some ⟨b151, 0, none⟩) 1 1)]), (blk b151 42 [(Value.int .i64 0), (Value.int .i64 2)]), (row u131 3 1 ((doubtF hotR otherR).length) (ints (doubtF hotR otherR))), (row u123 42 2 2 (pairs hotR)), (runsR true v106 ([s77, s78, (Value.slice (some ⟨b89, 0, none⟩) 1 1)]) otherR), (runsR true v48 lv49 madeR), (runsR true v14 lv15 madeR)] := by rw [show catR rsf492 0 6 = ([(row u0_vs486 42 2 2 (pairs hotR)), (runsR true (vs486 1) zeroV zeroR)] : List Res) by (try simp only [catR, hr_0, hr_1, hr_2, hr_3, hr_4, hr_5]); (try rfl)] at hS490; exact hS490
 rw [hv_5] at hs_5
 have hA494 : Fr 230 [] [(156, (Value.int .i64 (enterF hotR zeroR))), (12, (Value.int .i64 (lifeE hotR madeR 1 (-1)))), (10, (Value.int .i64 (lifeE hotR madeR 2 5))), (7, (Value.int .i64 (planF hotR madeR zeroS))), (4, (Value.int .i64 2)), (2, (Value.int .i64 (possF hotR otherR))), (5, v106)] a487 := hA489.add (slot_ev hs_5 rfl); clear hA489
 clear hH491 hS490 hs_0 hs_1 hs_2 hs_3 hs_4 hs_5
 clear hr_0
 clear hv_0
 clear hr_1
 clear hv_1
 clear hr_2
 clear hv_2
 clear hr_3
 clear hv_3
 clear hr_4
 clear hv_4
 clear hr_5
 clear hv_5
 refine st hA494 (op_assign rfl (hA494.ev rfl)) rfl rfl (by decide) fun a495 hA496 => ?_; clear hA494 a487
 refine wl_nil ?_
 refine then_n ?_
 refine c_seq ?_
 refine c_region ?_
 refine stw hA496 (op_call rfl en_52 ev0 (made_raw _)) rfl rfl (by decide) ?_
 rintro a497 v502 w499 ⟨s503, s504, hT500⟩ hA498; have hS501 := hS493.callS hT500 rfl; clear hT500 hA496 hS493 a495
 refine st hA498 (op_assign rfl (hA498.ev rfl)) rfl rfl (by decide) fun a505 hA506 => ?_; clear hA498 a497
 refine wl_nil ?_
 refine then_n ?_
 refine c_seq ?_
 refine c_region ?_
 refine st hA506 (op_move rfl (hA506.ev rfl)) rfl rfl (by decide) fun a507 hA508 => ?_; clear hA506 a505
 refine st hA508 (op_indexS rfl un_35 ty_96 (hA508.ev rfl) (i := 0) (show _ = Value.int .i64 ((0 : Nat) : Int) from (evc _ _)) (SlAt.of_row (hS501.ok_row 0 rfl)) (by decide) (by decide)) rfl rfl (by decide) fun a509 hA510 => ?_; clear hA508 a507
 refine st hA510 (op_fieldS rfl fd_96_0 (hA510.ev rfl) (SlAt.of_row (hS501.ok_row 0 rfl)) (by rw [((SlAt.of_row (hS501.ok_row 0 rfl))).1]; omega)) rfl rfl (by decide) fun a511 hA512 => ?_; clear hA510 a509
 refine st hA512 (op_load1E rfl ty_58 (hA512.ev rfl) (SlAt.of_row (hS501.ok_row 0 rfl)) rfl) rfl rfl (by decide) fun a513 hA514 => ?_; clear hA512 a511
 refine st hA514 (op_indexS rfl un_58 ty_67 (hA514.ev rfl) (i := 1) (show _ = Value.int .i64 ((1 : Nat) : Int) from (evc _ _)) (SlAt.of_row (hS501.ok_row 1 rfl)) (by decide) (by decide)) rfl rfl (by decide) fun a515 hA516 => ?_; clear hA514 a513
 refine st hA516 (op_fieldS rfl fd_67_0 (hA516.ev rfl) (SlAt.of_row (hS501.ok_row 1 rfl)) (by rw [((SlAt.of_row (hS501.ok_row 1 rfl))).1]; omega)) rfl rfl (by decide) fun a517 hA518 => ?_; clear hA516 a515
 refine sts hA518 (op_storeE hS501 rfl ty_3 (hA518.ev rfl) (evc _ _) (i := 1) rfl (vs := [(Value.int .i64 2)]) rfl rfl rfl (by decide) (by decide)) rfl rfl ?_
 intro _ w519 hS520 hA522; have hS521 := hS520.row_say (i := 1) rfl (n' := 2) (xs' := (trips ([(0, 100, 100), (2, 10, 10)]))) rfl rfl; clear hS520 hA518 hS501
 refine wl_nil ?_
 refine then_n ?_
 refine c_seq ?_
 have hA523 := hA522.as [(15, v502), (14, (Value.int .i64 (enterF hotR zeroR))), (12, (Value.int .i64 (lifeE hotR madeR 1 (-1)))), (10, (Value.int .i64 (lifeE hotR madeR 2 5))), (7, (Value.int .i64 (planF hotR madeR zeroS))), (4, (Value.int .i64 2)), (2, (Value.int .i64 (possF hotR otherR))), (5, v106)] rfl; clear hA522
 refine c_region ?_
 have hJ524 := (hS521.keep [1, 2, 0, 4, 5, 7, 10, 13, 25, 26, 27] (by decide) [row s503 67 3 2 (trips [(0, 100, 100), (2, 10, 10)]), row s504 67 3 1 (trips [(1, 20, 30)]), row v502 96 3 2 (vtrips (runV [s503, s504] oddR)), (runsR true (vs486 1) zeroV zeroR), (runsR true v469 lv470 madeR), (runsR true v442 lv443 madeR), (runsR true (vs420 1) lv1_ madeR), (runsR true v398 lv399 madeR), (runsR true v106 ([s77, s78, (Value.slice (some ⟨b89, 0, none⟩) 1 1)]) otherR), (runsR true v48 lv49 madeR), (runsR true v14 lv15 madeR)] rfl rfl).segs_nil
 have hJ525 := (hJ524.keep [1, 0, 2, 3, 4, 5, 6, 7, 8, 9, 10, 11] (by decide) _ rfl rfl).segs_snoc (x := ⟨[(0, 100, 100), (2, 10, 10)], 220, 250⟩)
 have hJ526 := (hJ525.keep [1, 0, 2, 3, 4, 5, 6, 7, 8, 9, 10] (by decide) _ rfl rfl).segs_snoc (x := ⟨[(1, 20, 30)], 90, 100⟩)
 have hS527 := (hJ526.keep [1, 0, 2, 3, 4, 5, 6, 7, 8, 9] (by decide) [row v502 96 3 2 (vtrips (runV [s503, s504] oddR)), segsR true [s503, s504] oddR, (runsR true (vs486 1) zeroV zeroR), (runsR true v469 lv470 madeR), (runsR true v442 lv443 madeR), (runsR true (vs420 1) lv1_ madeR), (runsR true v398 lv399 madeR), (runsR true v106 ([s77, s78, (Value.slice (some ⟨b89, 0, none⟩) 1 1)]) otherR), (runsR true v48 lv49 madeR), (runsR true v14 lv15 madeR)] rfl rfl).runs_join rfl; clear hS521
 refine stw hA523 (op_call rfl en_51 ev0 (hot_ok _)) rfl rfl (by decide) ?_
 rintro a528 _ w530 ⟨u533, rfl, hT531⟩ hA529; have hS532 := hS527.callS hT531 rfl; clear hT531 hA523 hS527 a517
 refine st hA529 (op_move rfl (hA529.ev rfl)) rfl rfl (by decide) fun a534 hA535 => ?_; clear hA529 a528
 refine stw hA535 (op_call rfl en_43 (ev2 (hA535.ev rfl) (hA535.ev rfl)) (doubt_bad hotR oddR ([s503, s504]) u533 v502 _ (SlAt.of_row (hS532.ok_row 0 rfl)) (runs_at (hS532.ok 1 _ rfl)) (by decide) (by decide) (by rw [ex_odd]; decide))) rfl rfl (by decide) ?_
 rintro a536 _ w538 ⟨rfl, hE539⟩ hA537; have hS540 := hS532.step hE539; clear hE539 hA535 hS532 a534
 refine st hA537 (op_move rfl (hA537.ev rfl)) rfl rfl (by decide) fun a541 hA542 => ?_; clear hA537 a536
 refine st hA542 (op_extract rfl (hA542.ev rfl) rfl) rfl rfl (by decide) fun a543 hA544 => ?_; clear hA542 a541
 refine st hA544 (op_extract rfl (hA544.ev rfl) rfl) rfl rfl (by decide) fun a545 hA546 => ?_; clear hA544 a543
 refine st hA546 (op_assign rfl (hA546.ev rfl)) rfl rfl (by decide) fun a547 hA548 => ?_; clear hA546 a545
 refine st hA548 (op_assign rfl (hA548.ev rfl)) rfl rfl (by decide) fun a549 hA550 => ?_; clear hA548 a547
 refine wl_nil ?_
 refine then_n ?_
 refine c_seq ?_
 have hA551 := hA550.as [(17, (Value.int .i64 (enterF hotR oddR))), (14, (Value.int .i64 (enterF hotR zeroR))), (12, (Value.int .i64 (lifeE hotR madeR 1 (-1)))), (10, (Value.int .i64 (lifeE hotR madeR 2 5))), (7, (Value.int .i64 (planF hotR madeR zeroS))), (4, (Value.int .i64 2)), (2, (Value.int .i64 (possF hotR otherR))), (5, v106)] rfl; clear hA550
 have hA552 := hA551.as [(17, (Value.int .i64 (enterF hotR oddR))), (14, (Value.int .i64 (enterF hotR zeroR))), (12, (Value.int .i64 (lifeE hotR madeR 1 (-1)))), (10, (Value.int .i64 (lifeE hotR madeR 2 5))), (7, (Value.int .i64 (planF hotR madeR zeroS))), (4, (Value.int .i64 2)), (2, (Value.int .i64 (possF hotR otherR))), (5, v106)] rfl; clear hA551
 refine c_drawV mixed hA552 hS540 8 [[], [], [], [0, 1, 2], [3], [4], [4], [5]] [(fun (vs553 : Nat → Value) (v_ : Value) (rs_ : List Res) => ∃ (u0_ : Value), v_ = (Value.agg #[u0_]) ∧ rs_ = [(row u0_ 42 2 2 (pairs hotR))]), (fun (vs553 : Nat → Value) (v_ : Value) (rs_ : List Res) => v_ = v106 ∧ rs_ = []), (fun (vs553 : Nat → Value) (v_ : Value) (rs_ : List Res) => True ∧ rs_ = [(row v_ 67 3 zeroS.length (trips zeroS))]), (fun (vs553 : Nat → Value) (v_ : Value) (rs_ : List Res) => v_ = (Value.tuple #[(Value.slice none 0 0), (Value.int .i64 (planF hotR otherR zeroS))]) ∧ rs_ = []), (fun (vs553 : Nat → Value) (v_ : Value) (rs_ : List Res) => v_ = (Value.tuple #[(Value.slice none 0 0), (Value.int .i64 (planF hotR otherR zeroS))]) ∧ rs_ = []), (fun (vs553 : Nat → Value) (v_ : Value) (rs_ : List Res) => v_ = (Value.slice none 0 0) ∧ rs_ = []), (fun (vs553 : Nat → Value) (v_ : Value) (rs_ : List Res) => v_ = (Value.int .i64 (planF hotR otherR zeroS)) ∧ rs_ = []), (fun (vs553 : Nat → Value) (v_ : Value) (rs_ : List Res) => v_ = (Value.slice none 0 0) ∧ rs_ = [])] (by decide +kernel) (by decide +kernel) rfl rfl ⟨(fun _ _ _ _ _ h_ => h_), (fun _ _ _ _ _ h_ => h_), (fun _ _ _ _ _ h_ => h_), (fun _ _ _ _ _ h_ => h_), (fun _ _ _ _ _ h_ => h_), (fun _ _ _ _ _ h_ => h_), (fun _ _ _ _ _ h_ => h_), (fun _ _ _ _ _ h_ => h_), trivial⟩ ?_ ?_
 ·skip
  refine ⟨fun a w vs553 hA hS hd => ?_, ?_⟩
  ·skip
   exact opG_of rfl (vn (op_call rfl en_51 ev0 (hot_ok _)) (fun v w' h => by obtain ⟨u, rfl, hT⟩ := h; exact ⟨_, ⟨u, rfl, rfl⟩, hT, rfl⟩))
  refine ⟨fun a w vs553 hA hS hd => ?_, ?_⟩
  ·skip
   exact opG_of rfl (vv (op_move rfl (hA.ev rfl)) (And.intro rfl rfl))
  refine ⟨fun a w vs553 hA hS hd => ?_, ?_⟩
  ·skip
   exact opG_of rfl (vn (op_makeFull (n := 9) (Sep.start NoB _) rfl un_58 el_67 (show _ = Value.int .i64 ((9 : Nat) : Int) from (evc _ _)) (show _ = Value.int .i64 ((9 : Nat) : Int) from (evc _ _)) mkv_67_9 (by decide) (by decide) (by decide)) (fun v w' h => ⟨_, ⟨trivial, rfl⟩, h, rfl⟩))
  refine ⟨fun a w vs553 hA hS hd => ?_, ?_⟩
  ·skip
   obtain ⟨e0, rs0, hy0, hp0⟩ := hd 0 (by decide)
   obtain ⟨u0_, hv0, hr0⟩ := hy0; subst hr0
   rw [hv0] at e0
   have hp0_0 := hp0 _ (List.mem_of_getElem? (i := 0) rfl)
   obtain ⟨e1, rs1, hy1, hp1⟩ := hd 1 (by decide)
   obtain ⟨hv1, hr1⟩ := hy1; subst hr1
   rw [hv1] at e1
   obtain ⟨e2, rs2, hy2, hp2⟩ := hd 2 (by decide)
   obtain ⟨hv2, hr2⟩ := hy2; subst hr2
   have hp2_0 := hp2 _ (List.mem_of_getElem? (i := 0) rfl)
   exact opG_of rfl (vn (op_call rfl en_32 (ev4 (tmp_ev (slot_ev e0 rfl)) (tmp_ev (slot_ev e1 rfl)) (tmp_ev (slot_ev e2 rfl)) (evc _ _)) (shows_bad hotR otherR ([s77, s78, (Value.slice (some ⟨b89, 0, none⟩) 1 1)]) u0_ v106 _ (SlAt.of_row hp0_0) (runs_at (hS.ok 7 _ rfl)) (by decide) (by decide) zeroS (vs553 2) (SlAt.of_row hp2_0) (by decide) true (by rw [ex_plan2]; decide))) (fun v w' h => by obtain ⟨rfl, hE⟩ := h; exact ⟨[], ⟨rfl, rfl⟩, (Sep.start NoB _).step hE, rfl⟩))
  refine ⟨fun a w vs553 hA hS hd => ?_, ?_⟩
  ·skip
   obtain ⟨e3, rs3, hy3, hp3⟩ := hd 3 (by decide)
   obtain ⟨hv3, hr3⟩ := hy3; subst hr3
   rw [hv3] at e3
   exact opG_of rfl (vv (op_move rfl (tmp_ev (slot_ev e3 rfl))) (And.intro rfl rfl))
  refine ⟨fun a w vs553 hA hS hd => ?_, ?_⟩
  ·skip
   obtain ⟨e4, rs4, hy4, hp4⟩ := hd 4 (by decide)
   obtain ⟨hv4, hr4⟩ := hy4; subst hr4
   rw [hv4] at e4
   exact opG_of rfl (vv (op_extract rfl (tmp_ev (slot_ev e4 rfl)) rfl) (And.intro rfl rfl))
  refine ⟨fun a w vs553 hA hS hd => ?_, ?_⟩
  ·skip
   obtain ⟨e4, rs4, hy4, hp4⟩ := hd 4 (by decide)
   obtain ⟨hv4, hr4⟩ := hy4; subst hr4
   rw [hv4] at e4
   exact opG_of rfl (vv (op_extract rfl (tmp_ev (slot_ev e4 rfl)) rfl) (And.intro rfl rfl))
  refine ⟨fun a w vs553 hA hS hd => ?_, ?_⟩
  ·skip
   obtain ⟨e5, rs5, hy5, hp5⟩ := hd 5 (by decide)
   obtain ⟨hv5, hr5⟩ := hy5; subst hr5
   rw [hv5] at e5
   exact opG_of rfl (vv (op_assign rfl (tmp_ev (slot_ev e5 rfl))) (And.intro rfl rfl))
  trivial
 intro a554 w555 vs553 rsf559 hA556 hH558 hS557; clear hA552 hS540
 obtain ⟨hs_0, hy_0⟩ := hH558 0 (by decide)
 obtain ⟨u0_, hv_0, hr_0⟩ := hy_0
 obtain ⟨hs_1, hy_1⟩ := hH558 1 (by decide)
 obtain ⟨hv_1, hr_1⟩ := hy_1
 obtain ⟨hs_2, hy_2⟩ := hH558 2 (by decide)
 obtain ⟨hv_2, hr_2⟩ := hy_2
 obtain ⟨hs_3, hy_3⟩ := hH558 3 (by decide)
 obtain ⟨hv_3, hr_3⟩ := hy_3
 obtain ⟨hs_4, hy_4⟩ := hH558 4 (by decide)
 obtain ⟨hv_4, hr_4⟩ := hy_4
 obtain ⟨hs_5, hy_5⟩ := hH558 5 (by decide)
 obtain ⟨hv_5, hr_5⟩ := hy_5
 obtain ⟨hs_6, hy_6⟩ := hH558 6 (by decide)
 obtain ⟨hv_6, hr_6⟩ := hy_6
 obtain ⟨hs_7, hy_7⟩ := hH558 7 (by decide)
 obtain ⟨hv_7, hr_7⟩ := hy_7
 have hS560 : Sep NoB w w555 [(row u0_ 42 2 2 (pairs hotR)), (row (vs553 2) 67 3 zeroS.length (trips zeroS)), (row u533 42 2 2 (pairs hotR)), (runsR true v502 ([s503, s504]) oddR), (runsR true (vs486 1) zeroV zeroR), (runsR true v469 lv470 madeR), (runsR true v442 lv443 madeR), (runsR true (vs420 1) lv1_ madeR), (runsR true v398 lv399 madeR), (runsR true v106 ([s77, s78, (Value.slice (some ⟨b89, 0, none⟩) 1 1)]) otherR), (runsR true v48 lv49 madeR), (runsR true v14 lv15 madeR)] := by rw [show catR rsf559 0 8 = ([(row u0_ 42 2 2 (pairs hotR)), (row (vs553 2) 67 3 zeroS.length (trips zeroS))] : List Res) by (try simp only [catR, hr_0, hr_1, hr_2, hr_3, hr_4, hr_5, hr_6, hr_7]); (try rfl)] at hS557; exact hS557
 rw [hv_6] at hs_6
 have hA561 : Fr 230 [] [(176, (Value.int .i64 (planF hotR otherR zeroS))), (17, (Value.int .i64 (enterF hotR oddR))), (14, (Value.int .i64 (enterF hotR zeroR))), (12, (Value.int .i64 (lifeE hotR madeR 1 (-1)))), (10, (Value.int .i64 (lifeE hotR madeR 2 5))), (7, (Value.int .i64 (planF hotR madeR zeroS))), (4, (Value.int .i64 2)), (2, (Value.int .i64 (possF hotR otherR))), (5, v106)] a554 := hA556.add (slot_ev hs_6 rfl); clear hA556
 clear hH558 hS557 hs_0 hs_1 hs_2 hs_3 hs_4 hs_5 hs_6 hs_7
 clear hr_0
 clear hv_0
 clear hr_1
 clear hv_1
 clear hr_2
 clear hv_2
 clear hr_3
 clear hv_3
 clear hr_4
 clear hv_4
 clear hr_5
 clear hv_5
 clear hr_6
 clear hv_6
 clear hr_7
 clear hv_7
 refine st hA561 (op_assign rfl (hA561.ev rfl)) rfl rfl (by decide) fun a562 hA563 => ?_; clear hA561 a554
 refine wl_nil ?_
 refine then_n ?_
 refine c_seq ?_
 refine c_region ?_
 refine st hA563 (op_move rfl (hA563.ev rfl)) rfl rfl (by decide) fun a564 hA565 => ?_; clear hA563 a562
 refine st hA565 (op_eql rfl (hA565.ev rfl) (evc _ _)) rfl rfl (by decide) fun a566 hA567 => ?_; clear hA565 a564
 have hd568 : (possF hotR otherR) = 9 := ex_poss
 rw [decide_eq_true hd568] at hA567
 refine st hA567 (op_move rfl (hA567.ev rfl)) rfl rfl (by decide) fun a569 hA570 => ?_; clear hA567 a566
 refine stg hA570 (op_move rfl (hA570.ev rfl)) rfl rfl rfl rfl (by decide) fun a571 hA572 => ?_; clear hA570 a569
 refine stg hA572 (op_eql rfl (hA572.ev rfl) (evc _ _)) rfl rfl rfl rfl (by decide) fun a573 hA574 => ?_; clear hA572 a571
 refine st hA574 (op_pick_t rfl (hA574.ev rfl) (hA574.ev rfl)) rfl rfl (by decide) fun a575 hA576 => ?_; clear hA574 a573
 refine st hA576 (op_move rfl (hA576.ev rfl)) rfl rfl (by decide) fun a577 hA578 => ?_; clear hA576 a575
 refine stg hA578 (op_move rfl (hA578.ev rfl)) rfl rfl rfl rfl (by decide) fun a579 hA580 => ?_; clear hA578 a577
 refine stg hA580 (op_eql rfl (hA580.ev rfl) (evc _ _)) rfl rfl rfl rfl (by decide) fun a581 hA582 => ?_; clear hA580 a579
 have hd583 : (planF hotR madeR zeroS) = 2 := ex_plan
 rw [decide_eq_true hd583] at hA582
 refine st hA582 (op_pick_t rfl (hA582.ev rfl) (hA582.ev rfl)) rfl rfl (by decide) fun a584 hA585 => ?_; clear hA582 a581
 refine st hA585 (op_move rfl (hA585.ev rfl)) rfl rfl (by decide) fun a586 hA587 => ?_; clear hA585 a584
 refine stg hA587 (op_move rfl (hA587.ev rfl)) rfl rfl rfl rfl (by decide) fun a588 hA589 => ?_; clear hA587 a586
 refine stg hA589 (op_eql rfl (hA589.ev rfl) (evc _ _)) rfl rfl rfl rfl (by decide) fun a590 hA591 => ?_; clear hA589 a588
 have hd592 : (lifeE hotR madeR 2 5) = 2 := ex_l4
 rw [decide_eq_true hd592] at hA591
 refine st hA591 (op_pick_t rfl (hA591.ev rfl) (hA591.ev rfl)) rfl rfl (by decide) fun a593 hA594 => ?_; clear hA591 a590
 refine st hA594 (op_move rfl (hA594.ev rfl)) rfl rfl (by decide) fun a595 hA596 => ?_; clear hA594 a593
 refine stg hA596 (op_move rfl (hA596.ev rfl)) rfl rfl rfl rfl (by decide) fun a597 hA598 => ?_; clear hA596 a595
 refine stg hA598 (op_eql rfl (hA598.ev rfl) (evc _ _)) rfl rfl rfl rfl (by decide) fun a599 hA600 => ?_; clear hA598 a597
 have hd601 : (lifeE hotR madeR 1 (-1)) = 2 := ex_l5
 rw [decide_eq_true hd601] at hA600
 refine st hA600 (op_pick_t rfl (hA600.ev rfl) (hA600.ev rfl)) rfl rfl (by decide) fun a602 hA603 => ?_; clear hA600 a599
 refine st hA603 (op_move rfl (hA603.ev rfl)) rfl rfl (by decide) fun a604 hA605 => ?_; clear hA603 a602
 refine stg hA605 (op_move rfl (hA605.ev rfl)) rfl rfl rfl rfl (by decide) fun a606 hA607 => ?_; clear hA605 a604
 refine stg hA607 (op_eql rfl (hA607.ev rfl) (evc _ _)) rfl rfl rfl rfl (by decide) fun a608 hA609 => ?_; clear hA607 a606
 have hd610 : (enterF hotR zeroR) = 3 := ex_seven
 rw [decide_eq_true hd610] at hA609
 refine st hA609 (op_pick_t rfl (hA609.ev rfl) (hA609.ev rfl)) rfl rfl (by decide) fun a611 hA612 => ?_; clear hA609 a608
 refine st hA612 (op_move rfl (hA612.ev rfl)) rfl rfl (by decide) fun a613 hA614 => ?_; clear hA612 a611
 refine stg hA614 (op_move rfl (hA614.ev rfl)) rfl rfl rfl rfl (by decide) fun a615 hA616 => ?_; clear hA614 a613
 refine stg hA616 (op_eql rfl (hA616.ev rfl) (evc _ _)) rfl rfl rfl rfl (by decide) fun a617 hA618 => ?_; clear hA616 a615
 have hd619 : (enterF hotR oddR) = 1 := ex_odd
 rw [decide_eq_true hd619] at hA618
 refine st hA618 (op_pick_t rfl (hA618.ev rfl) (hA618.ev rfl)) rfl rfl (by decide) fun a620 hA621 => ?_; clear hA618 a617
 refine st hA621 (op_move rfl (hA621.ev rfl)) rfl rfl (by decide) fun a622 hA623 => ?_; clear hA621 a620
 refine stg hA623 (op_move rfl (hA623.ev rfl)) rfl rfl rfl rfl (by decide) fun a624 hA625 => ?_; clear hA623 a622
 refine stg hA625 (op_eql rfl (hA625.ev rfl) (evc _ _)) rfl rfl rfl rfl (by decide) fun a626 hA627 => ?_; clear hA625 a624
 have hd628 : (planF hotR otherR zeroS) = 9 := ex_plan2
 rw [decide_eq_true hd628] at hA627
 refine st hA627 (op_pick_t rfl (hA627.ev rfl) (hA627.ev rfl)) rfl rfl (by decide) fun a629 hA630 => ?_; clear hA627 a626
 refine st hA630 (op_move rfl (hA630.ev rfl)) rfl rfl (by decide) fun a631 hA632 => ?_; clear hA630 a629
 refine stg hA632 (op_build rfl pv0 bd_33_) rfl rfl rfl rfl (by decide) fun a633 hA634 => ?_; clear hA632 a631
 refine stwg hA634 (op_call rfl en_37 (ev1 (hA634.ev rfl)) (check_ok ([]) _ _ (slAt_nil _ 2) (by decide))) rfl rfl rfl rfl (by decide) ?_
 rintro a635 _ w637 ⟨rfl, hE638⟩ hA636; have hS639 := hS560.step hE638; clear hE638 hA634 hS560 a633
 refine stg hA636 (op_eql rfl (hA636.ev rfl) (evc _ _)) rfl rfl rfl rfl (by decide) fun a640 hA641 => ?_; clear hA636 a635
 have hd642 : (checkF ([])) = 1 := ex_c0
 rw [decide_eq_true hd642] at hA641
 refine st hA641 (op_pick_t rfl (hA641.ev rfl) (hA641.ev rfl)) rfl rfl (by decide) fun a643 hA644 => ?_; clear hA641 a640
 refine st hA644 (op_move rfl (hA644.ev rfl)) rfl rfl (by decide) fun a645 hA646 => ?_; clear hA644 a643
 refine stwg hA646 (op_call rfl en_31 (ev2 (evc _ _) (evc _ _)) (between_ok _ _ _)) rfl rfl rfl rfl (by decide) ?_
 rintro a647 _ w649 ⟨rfl, hE650⟩ hA648; have hS651 := hS639.step hE650; clear hE650 hA646 hS639 a645
 refine stwg hA648 (op_buildSlice hS651 rfl (pv1 (hA648.ev rfl)) un_28 ty_42 ze_42 (by decide) (cs := [(Value.int .i64 0), (Value.int .i64 21)]) (bs_42_1_0iia _ _)) rfl rfl rfl rfl (by decide) ?_
 rintro a652 _ w654 ⟨b655, rfl, hS656⟩ hA653; clear hA648 hS651 a647
 refine stg hA653 (op_build rfl (pv1 (hA653.ev rfl)) (bd_33_0s _ ⟨_, _, _, rfl⟩)) rfl rfl rfl rfl (by decide) fun a657 hA658 => ?_; clear hA653 a652
 refine stwg hA658 (op_call rfl en_37 (ev1 (hA658.ev rfl)) (check_ok ([(0, 21)]) _ _ (SlAt.of_blk (hS656.bk 0 rfl) rfl (Nat.le_of_ble_eq_true rfl)) (by decide))) rfl rfl rfl rfl (by decide) ?_
 rintro a659 _ w661 ⟨rfl, hE662⟩ hA660; have hS663 := hS656.step hE662; clear hE662 hA658 hS656 a657
 refine stg hA660 (op_eql rfl (hA660.ev rfl) (evc _ _)) rfl rfl rfl rfl (by decide) fun a664 hA665 => ?_; clear hA660 a659
 have hd666 : (checkF ([(0, 21)])) = 1 := ex_c1
 rw [decide_eq_true hd666] at hA665
 refine st hA665 (op_pick_t rfl (hA665.ev rfl) (hA665.ev rfl)) rfl rfl (by decide) fun a667 hA668 => ?_; clear hA665 a664
 refine st hA668 (op_move rfl (hA668.ev rfl)) rfl rfl (by decide) fun a669 hA670 => ?_; clear hA668 a667
 refine stwg hA670 (op_call rfl en_31 (ev2 (evc _ _) (evc _ _)) (between_ok _ _ _)) rfl rfl rfl rfl (by decide) ?_
 rintro a671 _ w673 ⟨rfl, hE674⟩ hA672; have hS675 := hS663.step hE674; clear hE674 hA670 hS663 a669
 refine stwg hA672 (op_call rfl en_31 (ev2 (evc _ _) (evc _ _)) (between_ok _ _ _)) rfl rfl rfl rfl (by decide) ?_
 rintro a676 _ w678 ⟨rfl, hE679⟩ hA677; have hS680 := hS675.step hE679; clear hE679 hA672 hS675 a671
 refine stwg hA677 (op_buildSlice hS680 rfl (pv2 (hA677.ev rfl) (hA677.ev rfl)) un_28 ty_42 ze_42 (by decide) (cs := [(Value.int .i64 5), (Value.int .i64 9), (Value.int .i64 1), (Value.int .i64 4)]) (bs_42_2_0iia_1iia _ _ _ _)) rfl rfl rfl rfl (by decide) ?_
 rintro a681 _ w683 ⟨b684, rfl, hS685⟩ hA682; clear hA677 hS680 a676
 refine stg hA682 (op_build rfl (pv1 (hA682.ev rfl)) (bd_33_0s _ ⟨_, _, _, rfl⟩)) rfl rfl rfl rfl (by decide) fun a686 hA687 => ?_; clear hA682 a681
 refine stwg hA687 (op_call rfl en_37 (ev1 (hA687.ev rfl)) (check_ok ([(5, 9), (1, 4)]) _ _ (SlAt.of_blk (hS685.bk 0 rfl) rfl (Nat.le_of_ble_eq_true rfl)) (by decide))) rfl rfl rfl rfl (by decide) ?_
 rintro a688 _ w690 ⟨rfl, hE691⟩ hA689; have hS692 := hS685.step hE691; clear hE691 hA687 hS685 a686
 refine stg hA689 (op_eql rfl (hA689.ev rfl) (evc _ _)) rfl rfl rfl rfl (by decide) fun a693 hA694 => ?_; clear hA689 a688
 have hd695 : (checkF ([(5, 9), (1, 4)])) = 1 := ex_c2
 rw [decide_eq_true hd695] at hA694
 refine st hA694 (op_pick_t rfl (hA694.ev rfl) (hA694.ev rfl)) rfl rfl (by decide) fun a696 hA697 => ?_; clear hA694 a693
 refine st hA697 (op_move rfl (hA697.ev rfl)) rfl rfl (by decide) fun a698 hA699 => ?_; clear hA697 a696
 refine stwg hA699 (op_call rfl en_17 ev0 (awake_ok _)) rfl rfl rfl rfl (by decide) ?_
 rintro a700 _ w702 ⟨rfl, hE703⟩ hA701; have hS704 := hS692.step hE703; clear hE703 hA699 hS692 a698
 refine st hA701 (op_pick_t rfl (hA701.ev rfl) (hA701.ev rfl)) rfl rfl (by decide) fun a705 hA706 => ?_; clear hA701 a700
 refine st hA706 (op_assign rfl (hA706.ev rfl)) rfl rfl (by decide) fun a707 hA708 => ?_; clear hA706 a705
 refine wl_nil ?_
 refine then_n ?_
 refine c_ret ?_
 refine fin_run hA708 (.inl rfl) (run_results1 hA708 rfl (.tmp rfl)) ?_
 exact ⟨rfl, hS704.ext⟩
end Go.Proofs.Ytkkglkdnnfegkaa
