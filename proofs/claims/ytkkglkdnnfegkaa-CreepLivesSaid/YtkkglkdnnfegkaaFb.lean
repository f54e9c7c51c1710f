/-
  Walks through the functions of the seat, printed by a program of ours (gowalk), a theorem a function: what the call returns and what it leaves in memory.
-/
import Derived.Test.YtkkglkdnnfegkaaFa
import Derived.Test.YtkkglkdnnfegkaaEng2
import Derived.Test.YtkkglkdnnfegkaaPlain
set_option linter.unusedSimpArgs false
set_option linter.unusedVariables false
namespace Go.Proofs.Ytkkglkdnnfegkaa
open Go.RowKit Go.Shelf Go.Eng
theorem ty_115 : tyK Try.prog 115 = some (false, 1) := by kernel_rfl
theorem ty_134 : tyK Try.prog 134 = some (false, 1) := by kernel_rfl
theorem en_88 : ∀ args w, (callFunc 88 args).run Try.prog w = .ok (.enter 88 args) w := enters_of Try.func88 (by kernel_rfl) rfl
theorem ze_134 : (Try.prog.info? 134).bind (·.zero) = some Value.nilFunc := by kernel_rfl
theorem bd_104_  (w : World) : (Instr.build 104 #[]).run Try.prog w = .ok (.agg #[(Value.int .i64 0), (Value.int .i64 0), (Value.int .i64 0)]) w := by kernel_rfl
theorem lists_leaf (l b1 by_ bf : Nat) (vr : Value) (R : List (Int × Int)) (hR : MatV R) (J Jx : Nat → Res → World → Prop) (hJ : ∀ k G W G' W', J k G W → Sep G.S W W' [G'] → G'.own = true → J k G' W') (hJx : ∀ k G W G' W', Jx k G W → Sep G.S W W' [G'] → G'.own = true → Jx k G' W') (hD : ∀ k G W, J k G W → G.own = true ∧ Sep G.S W W (G :: [rob b1 33 [vr], sl vr 2 R.length (pairs R)])) (hDx : ∀ k G W, Jx k G W → G.own = true ∧ Sep G.S W W (G :: [rob b1 33 [vr], sl vr 2 R.length (pairs R)])) (LS : List (List Int)) (hy : ∀ k, k < LS.length → ∀ G W1, J k G W1 → YT Try.prog l #[.agg (ints (LS.getD k [])).toArray] W1 (fun v W' => (v = .bool true ∧ J (k + 1) G W') ∨ (v = .bool false ∧ Jx k G W'))) (G0 : Res) (hG0 : G0.own = true) (arr : List Int) (band : Nat) (pre post : List (List Int)) (W : World) (harr : RatesV arr) (hb : band = R.length) (hLS : LS = pre ++ (fromF R 0 arr band ++ post)) (h0 : J pre.length (allR [(blk by_ 115 [(Value.func (.yield l) #[] #[])]), (blk bf 134 [(Value.func (.func 88) #[] #[(bptr b1 0), (bptr by_ 0), (bptr bf 0)])]), G0]) W) :
  Calls Try.prog 88 #[.agg (ints arr).toArray, .int .i64 ((band : Nat) : Int), bptr b1 0, bptr by_ 0, bptr bf 0] W (Ret fun v W' => (v = .bool true ∧ J (pre.length + (fromF R 0 arr band).length) (allR [(blk by_ 115 [(Value.func (.yield l) #[] #[])]), (blk bf 134 [(Value.func (.func 88) #[] #[(bptr b1 0), (bptr by_ 0), (bptr bf 0)])]), G0]) W') ∨ (v = .bool false ∧ ∃ k, Jx k (allR [(blk by_ 115 [(Value.func (.yield l) #[] #[])]), (blk bf 134 [(Value.func (.func 88) #[] #[(bptr b1 0), (bptr by_ 0), (bptr bf 0)])]), G0]) W')) := by
 refine calls_enter Try.func88 rfl fun a0 hA0 => ?_
 replace hA0 : Fr 52 [] [(0, (Value.agg (ints arr).toArray)), (1, (Value.int .i64 (band : Int))), (2, (bptr b1 0)), (3, (bptr by_ 0)), (4, (bptr bf 0))] a0 := hA0
 have har3 := harr.1
 have hk : pre.length < LS.length := by rw [hLS]; simp [fromF]
 have hat : LS.getD pre.length [] = arr := by rw [hLS]; simp [fromF, List.getD]
 have hS1 : Sep (allR [(blk by_ 115 [(Value.func (.yield l) #[] #[])]), (blk bf 134 [(Value.func (.func 88) #[] #[(bptr b1 0), (bptr by_ 0), (bptr bf 0)])]), G0]).S W W [(blk by_ 115 [(Value.func (.yield l) #[] #[])]), (blk bf 134 [(Value.func (.func 88) #[] #[(bptr b1 0), (bptr by_ 0), (bptr bf 0)])]), G0, (rob b1 33 [vr]), (sl vr 2 R.length (pairs R))] := (hD _ _ _ h0).2.upk1
 refine c_seq ?_
 refine c_region ?_
 refine stw hA0 (op_box hS1 rfl (hA0.ev rfl) (cs := (ints arr)) rfl) rfl rfl (by decide) ?_
 rintro a2 _ w4 ⟨b5, rfl, hS6⟩ hA3; clear hA0 hS1 a0
 refine st hA3 (op_assign rfl (evc _ _)) rfl rfl (by decide) fun a7 hA8 => ?_; clear hA3 a2
 refine wl_nil ?_
 refine then_n ?_
 refine c_seq ?_
 refine c_seq ?_
 refine c_region ?_
 refine st hA8 (op_move rfl (hA8.ev rfl)) rfl rfl (by decide) fun a9 hA10 => ?_; clear hA8 a7
 refine st hA10 (op_field rfl fd_33_0 (hA10.ev rfl)) rfl rfl (by decide) fun a11 hA12 => ?_; clear hA10 a9
 refine st hA12 (op_load1 rfl ty_28 (hA12.ev rfl) (hS6.rk 4 rfl) rfl) rfl rfl (by decide) fun a13 hA14 => ?_; clear hA12 a11
 refine st hA14 (op_lenS rfl un_28 (hA14.ev rfl) (hS6.sk 5 rfl)) rfl rfl (by decide) fun a15 hA16 => ?_; clear hA14 a13
 refine st hA16 (op_eql rfl (hA16.ev rfl) (hA16.ev rfl)) rfl rfl (by decide) fun a17 hA18 => ?_; clear hA16 a15
 have hd19 : (band : Int) = (R.length : Int) := (by omega)
 rw [decide_eq_true hd19] at hA18
 refine wl_nil ?_
 refine then_n ?_
 refine c_true hA18 rfl ?_
 refine c_seq ?_
 have hA20 := hA18.as [(5, (bptr b5 0)), (3, (bptr by_ 0))] rfl; clear hA18
 refine c_region ?_
 refine st hA20 (op_load1 rfl ty_115 (hA20.ev rfl) (hS6.bk 1 rfl) rfl) rfl rfl (by decide) fun a21 hA22 => ?_; clear hA20 a17
 refine st hA22 (op_loadA rfl ty_104 (hA22.ev rfl) (hS6.bk 0 rfl) (l := (ints arr)) (drop_take_all _ _ (by simp only [ints, List.length_map]; omega)) (by simp only [ints, List.length_map]; omega)) rfl rfl (by decide) fun a23 hA24 => ?_; clear hA22 a21
 have hK25 : Sep (allR [(blk by_ 115 [(Value.func (.yield l) #[] #[])]), (blk bf 134 [(Value.func (.func 88) #[] #[(bptr b1 0), (bptr by_ 0), (bptr bf 0)])]), G0]).S W w4 [(blk b5 104 (ints arr)), (blk by_ 115 [(Value.func (.yield l) #[] #[])]), (blk bf 134 [(Value.func (.func 88) #[] #[(bptr b1 0), (bptr by_ 0), (bptr bf 0)])]), G0] := hS6.keep [0, 1, 2, 3] (by decide) _ rfl rfl
 have hj26 := hJ _ _ _ _ _ h0 (Sep.pk2 (D := []) hK25 rfl rfl rfl hG0).one rfl
 refine stw hA24 (op_yield rfl (hA24.ev rfl) (ev1 (hA24.ev rfl)) (by have hz := hy _ hk _ _ hj26; rw [hat] at hz; exact hz)) rfl rfl (by decide) ?_
 rintro a27 v31 w29 hv30 hA28; clear hA24 hS6 a23
 rcases hv30 with ⟨rfl, hj32⟩ | ⟨rfl, hj32⟩
 ·skip
  refine st hA28 (op_assign rfl (hA28.ev rfl)) rfl rfl (by decide) fun a33 hA34 => ?_; clear hA28 a27
  refine wl_nil ?_
  refine then_n ?_
  refine c_ret ?_
  refine then_ret ?_
  refine fin_run hA34 (.inl rfl) (run_results1 hA34 rfl (.tmp rfl)) ?_
  exact .inl ⟨rfl, hJ _ _ _ _ _ hj32 (Sep.pk1 (D := []) (Sep.keep (hD _ _ _ hj32).2.upk2 [1, 2, 3] (by decide) _ rfl rfl) rfl rfl hG0).one rfl⟩
 ·skip
  refine st hA28 (op_assign rfl (hA28.ev rfl)) rfl rfl (by decide) fun a35 hA36 => ?_; clear hA28 a27
  refine wl_nil ?_
  refine then_n ?_
  refine c_ret ?_
  refine then_ret ?_
  refine fin_run hA36 (.inl rfl) (run_results1 hA36 rfl (.tmp rfl)) ?_
  exact .inr ⟨rfl, _, hJx _ _ _ _ _ hj32 (Sep.pk1 (D := []) (Sep.keep (hDx _ _ _ hj32).2.upk2 [1, 2, 3] (by decide) _ rfl rfl) rfl rfl hG0).one rfl⟩

theorem lists_step (l b1 by_ bf : Nat) (vr : Value) (R : List (Int × Int)) (hR : MatV R) (J Jx : Nat → Res → World → Prop) (hJ : ∀ k G W G' W', J k G W → Sep G.S W W' [G'] → G'.own = true → J k G' W') (hJx : ∀ k G W G' W', Jx k G W → Sep G.S W W' [G'] → G'.own = true → Jx k G' W') (hD : ∀ k G W, J k G W → G.own = true ∧ Sep G.S W W (G :: [rob b1 33 [vr], sl vr 2 R.length (pairs R)])) (hDx : ∀ k G W, Jx k G W → G.own = true ∧ Sep G.S W W (G :: [rob b1 33 [vr], sl vr 2 R.length (pairs R)])) (LS : List (List Int)) (hy : ∀ k, k < LS.length → ∀ G W1, J k G W1 → YT Try.prog l #[.agg (ints (LS.getD k [])).toArray] W1 (fun v W' => (v = .bool true ∧ J (k + 1) G W') ∨ (v = .bool false ∧ Jx k G W'))) (G0 : Res) (hG0 : G0.own = true) (arr : List Int) (band : Nat) (pre post : List (List Int)) (W : World) (harr : RatesV arr) (m : Nat) (hb : band + (m + 1) = R.length) (hih : ∀ (G0 : Res), G0.own = true → ∀ (arr : List Int) (pre post : List (List Int)) (W : World), RatesV arr → LS = pre ++ (fromF R m arr (band + 1) ++ post) → J pre.length (allR [(blk by_ 115 [(Value.func (.yield l) #[] #[])]), (blk bf 134 [(Value.func (.func 88) #[] #[(bptr b1 0), (bptr by_ 0), (bptr bf 0)])]), G0]) W → Calls Try.prog 88 #[.agg (ints arr).toArray, .int .i64 ((band + 1 : Nat) : Int), bptr b1 0, bptr by_ 0, bptr bf 0] W (Ret fun v W' => (v = .bool true ∧ J (pre.length + (fromF R m arr (band + 1)).length) (allR [(blk by_ 115 [(Value.func (.yield l) #[] #[])]), (blk bf 134 [(Value.func (.func 88) #[] #[(bptr b1 0), (bptr by_ 0), (bptr bf 0)])]), G0]) W') ∨ (v = .bool false ∧ ∃ k, Jx k (allR [(blk by_ 115 [(Value.func (.yield l) #[] #[])]), (blk bf 134 [(Value.func (.func 88) #[] #[(bptr b1 0), (bptr by_ 0), (bptr bf 0)])]), G0]) W'))) (hLS : LS = pre ++ (fromF R (m + 1) arr band ++ post)) (h0 : J pre.length (allR [(blk by_ 115 [(Value.func (.yield l) #[] #[])]), (blk bf 134 [(Value.func (.func 88) #[] #[(bptr b1 0), (bptr by_ 0), (bptr bf 0)])]), G0]) W) :
  Calls Try.prog 88 #[.agg (ints arr).toArray, .int .i64 ((band : Nat) : Int), bptr b1 0, bptr by_ 0, bptr bf 0] W (Ret fun v W' => (v = .bool true ∧ J (pre.length + (fromF R (m + 1) arr band).length) (allR [(blk by_ 115 [(Value.func (.yield l) #[] #[])]), (blk bf 134 [(Value.func (.func 88) #[] #[(bptr b1 0), (bptr by_ 0), (bptr bf 0)])]), G0]) W') ∨ (v = .bool false ∧ ∃ k, Jx k (allR [(blk by_ 115 [(Value.func (.yield l) #[] #[])]), (blk bf 134 [(Value.func (.func 88) #[] #[(bptr b1 0), (bptr by_ 0), (bptr bf 0)])]), G0]) W')) := by
 refine calls_enter Try.func88 rfl fun a0 hA0 => ?_
 replace hA0 : Fr 52 [] [(0, (Value.agg (ints arr).toArray)), (1, (Value.int .i64 (band : Int))), (2, (bptr b1 0)), (3, (bptr by_ 0)), (4, (bptr bf 0))] a0 := hA0
 have har3 := harr.1
 have hlb := lowF_bd hR harr band
 have hrb := hR.2 band
 have hr1 := hR.1
 have hS1 : Sep (allR [(blk by_ 115 [(Value.func (.yield l) #[] #[])]), (blk bf 134 [(Value.func (.func 88) #[] #[(bptr b1 0), (bptr by_ 0), (bptr bf 0)])]), G0]).S W W [(blk by_ 115 [(Value.func (.yield l) #[] #[])]), (blk bf 134 [(Value.func (.func 88) #[] #[(bptr b1 0), (bptr by_ 0), (bptr bf 0)])]), G0, (rob b1 33 [vr]), (sl vr 2 R.length (pairs R))] := (hD _ _ _ h0).2.upk1
 refine c_seq ?_
 refine c_region ?_
 refine stw hA0 (op_box hS1 rfl (hA0.ev rfl) (cs := (ints arr)) rfl) rfl rfl (by decide) ?_
 rintro a2 _ w4 ⟨b5, rfl, hS6⟩ hA3; clear hA0 hS1 a0
 refine st hA3 (op_assign rfl (evc _ _)) rfl rfl (by decide) fun a7 hA8 => ?_; clear hA3 a2
 refine wl_nil ?_
 refine then_n ?_
 refine c_seq ?_
 refine c_seq ?_
 refine c_region ?_
 refine st hA8 (op_move rfl (hA8.ev rfl)) rfl rfl (by decide) fun a9 hA10 => ?_; clear hA8 a7
 refine st hA10 (op_field rfl fd_33_0 (hA10.ev rfl)) rfl rfl (by decide) fun a11 hA12 => ?_; clear hA10 a9
 refine st hA12 (op_load1 rfl ty_28 (hA12.ev rfl) (hS6.rk 4 rfl) rfl) rfl rfl (by decide) fun a13 hA14 => ?_; clear hA12 a11
 refine st hA14 (op_lenS rfl un_28 (hA14.ev rfl) (hS6.sk 5 rfl)) rfl rfl (by decide) fun a15 hA16 => ?_; clear hA14 a13
 refine st hA16 (op_eql rfl (hA16.ev rfl) (hA16.ev rfl)) rfl rfl (by decide) fun a17 hA18 => ?_; clear hA16 a15
 have hd19 : ¬ ((band : Int) = (R.length : Int)) := (by omega)
 rw [decide_eq_false hd19] at hA18
 refine wl_nil ?_
 refine then_n ?_
 refine c_false hA18 rfl ?_
 refine c_skip ?_
 refine then_n ?_
 refine c_seq ?_
 have hA20 := hA18.as [(5, (bptr b5 0)), (1, (Value.int .i64 (band : Int))), (2, (bptr b1 0)), (4, (bptr bf 0))] rfl; clear hA18
 refine c_region ?_
 refine st hA20 (op_field rfl fd_33_0 (hA20.ev rfl)) rfl rfl (by decide) fun a21 hA22 => ?_; clear hA20 a17
 refine st hA22 (op_load1 rfl ty_28 (hA22.ev rfl) (hS6.rk 4 rfl) rfl) rfl rfl (by decide) fun a23 hA24 => ?_; clear hA22 a21
 refine st hA24 (op_move rfl (hA24.ev rfl)) rfl rfl (by decide) fun a25 hA26 => ?_; clear hA24 a23
 refine st hA26 (op_indexS rfl un_28 ty_42 (hA26.ev rfl) (i := band) (hA26.ev rfl) (hS6.sk 5 rfl) (by decide) (by omega)) rfl rfl (by decide) fun a27 hA28 => ?_; clear hA26 a25
 refine st hA28 (op_fieldS rfl fd_42_0 (hA28.ev rfl) (hS6.sk 5 rfl) (by rw [((hS6.sk 5 rfl)).1]; omega)) rfl rfl (by decide) fun a29 hA30 => ?_; clear hA28 a27
 refine st hA30 (op_load1E rfl ty_3 (hA30.ev rfl) (hS6.sk 5 rfl) (pairs_at0 (by omega))) rfl rfl (by decide) fun a31 hA32 => ?_; clear hA30 a29
 refine st hA32 (op_assign rfl (hA32.ev rfl)) rfl rfl (by decide) fun a33 hA34 => ?_; clear hA32 a31
 refine wl_nil ?_
 refine then_n ?_
 refine c_seq ?_
 refine c_seq ?_
 have hA35 := hA34.as [(8, (Value.int .i64 ((R.getD band (0, 0)).1))), (5, (bptr b5 0)), (1, (Value.int .i64 (band : Int))), (2, (bptr b1 0)), (4, (bptr bf 0))] rfl; clear hA34
 refine c_region ?_
 refine st hA35 (op_move rfl (hA35.ev rfl)) rfl rfl (by decide) fun a36 hA37 => ?_; clear hA35 a33
 refine st hA37 (op_gtr rfl (hA37.ev rfl) (evc _ _)) rfl rfl (by decide) fun a38 hA39 => ?_; clear hA37 a36
 refine wl_nil ?_
 refine then_n ?_
 by_cases hb40 : 0 < (band : Int)
 ·skip
  rw [decide_eq_true hb40] at hA39
  refine c_true hA39 rfl ?_
  refine c_region ?_
  refine st hA39 (op_move rfl (hA39.ev rfl)) rfl rfl (by decide) fun a41 hA42 => ?_; clear hA39 a38
  refine st hA42 (op_move rfl (hA42.ev rfl)) rfl rfl (by decide) fun a43 hA44 => ?_; clear hA42 a41
  refine st hA44 (op_sub rfl (hA44.ev rfl) (evc _ _) (by omega) (by omega)) rfl rfl (by decide) fun a45 hA46 => ?_; clear hA44 a43
  refine st hA46 (op_indexA rfl un_104 ty_3 (hA46.ev rfl) (i := ((band : Int) - 1).toNat) ((hA46.ev rfl).trans (int_nat (by omega))) (by omega)) rfl rfl (by decide) fun a47 hA48 => ?_; clear hA46 a45
  refine st hA48 (op_load1 rfl ty_3 (hA48.ev rfl) (hS6.bk 0 rfl) (ints_at' (by first | (simp only [List.length_set]; omega) | omega))) rfl rfl (by decide) fun a49 hA50 => ?_; clear hA48 a47
  refine st hA50 (op_max rfl (hA50.ev rfl) (hA50.ev rfl)) rfl rfl (by decide) fun a51 hA52 => ?_; clear hA50 a49
  refine st hA52 (op_assign rfl (hA52.ev rfl)) rfl rfl (by decide) fun a53 hA54 => ?_; clear hA52 a51
  refine wl_nil ?_
  refine then_n ?_
  refine c_seq ?_
  refine c_seq ?_
  have hA55 := hA54.as [(8, (Value.int .i64 (max ((R.getD band (0, 0)).1) (arr.getD (((band : Int) - 1).toNat) 0)))), (5, (bptr b5 0)), (1, (Value.int .i64 (band : Int))), (2, (bptr b1 0)), (4, (bptr bf 0))] rfl; clear hA54
  rw [show max ((R.getD band (0, 0)).1) (arr.getD (((band : Int) - 1).toNat) 0) = lowF R arr band + ((0 : Nat) : Int) from (by rw [show lowF R arr band + ((0 : Nat) : Int) = lowF R arr band from Int.add_zero _]; first | exact (lowF_pos (by assumption)).symm | exact (lowF_zero (by assumption)).symm)] at hA55
  refine c_region ?_
  refine st hA55 (op_move rfl (hA55.ev rfl)) rfl rfl (by decide) fun a56 hA57 => ?_; clear hA55 a53
  refine st hA57 (op_assign rfl (hA57.ev rfl)) rfl rfl (by decide) fun a58 hA59 => ?_; clear hA57 a56
  refine wl_nil ?_
  refine then_n ?_
  refine c_block ?_
  have hK60 : Sep (allR [(blk by_ 115 [(Value.func (.yield l) #[] #[])]), (blk bf 134 [(Value.func (.func 88) #[] #[(bptr b1 0), (bptr by_ 0), (bptr bf 0)])]), G0]).S W w4 [(blk b5 104 (ints arr)), (blk by_ 115 [(Value.func (.yield l) #[] #[])]), (blk bf 134 [(Value.func (.func 88) #[] #[(bptr b1 0), (bptr by_ 0), (bptr bf 0)])]), G0] := hS6.keep [0, 1, 2, 3] (by decide) _ rfl rfl
  have hj61 := hJ _ _ _ _ _ h0 (Sep.pk2 (D := []) hK60 rfl rfl rfl hG0).one rfl
  have hA62 := hA59.as [(9, (Value.int .i64 (lowF R arr band + ((0 : Nat) : Int)))), (5, (bptr b5 0)), (1, (Value.int .i64 (band : Int))), (2, (bptr b1 0)), (4, (bptr bf 0))] rfl; clear hA59
  refine c_loop (G := Nat) (fun (t : Nat) a_ w_ => Fr 52 [] [(9, (Value.int .i64 (lowF R arr band + (t : Int)))), (5, (bptr b5 0)), (1, (Value.int .i64 (band : Int))), (2, (bptr b1 0)), (4, (bptr bf 0))] a_ ∧ True ∧ (t ≤ cntF R arr band) ∧ (J (pre.length + (fromUpto R m arr band t).length) (allR [(blk by_ 115 [(Value.func (.yield l) #[] #[])]), (blk bf 134 [(Value.func (.func 88) #[] #[(bptr b1 0), (bptr by_ 0), (bptr bf 0)])]), allR [(blk b5 104 (ints (curA R arr band t))), G0]]) w_)) (fun t => cntF R arr band - t) 0 ⟨hA62.as _ rfl, trivial, (Nat.zero_le _), hj61⟩ ?_
  clear hA62 hS6 a58
  rintro t a63 w65 ⟨hA64, hS66, ht, hj⟩
  clear hS66
  have hS67 : Sep (allR [(blk by_ 115 [(Value.func (.yield l) #[] #[])]), (blk bf 134 [(Value.func (.func 88) #[] #[(bptr b1 0), (bptr by_ 0), (bptr bf 0)])]), allR [(blk b5 104 (ints (curA R arr band t))), G0]]).S w65 w65 [(blk b5 104 (ints (curA R arr band t))), (blk by_ 115 [(Value.func (.yield l) #[] #[])]), (blk bf 134 [(Value.func (.func 88) #[] #[(bptr b1 0), (bptr by_ 0), (bptr bf 0)])]), G0, (rob b1 33 [vr]), (sl vr 2 R.length (pairs R))] := (hD _ _ _ hj).2.upk2
  refine c_seq ?_
  refine c_seq ?_
  refine c_region ?_
  refine st hA64 (op_move rfl (hA64.ev rfl)) rfl rfl (by decide) fun a68 hA69 => ?_; clear hA64 a63
  refine st hA69 (op_field rfl fd_33_0 (hA69.ev rfl)) rfl rfl (by decide) fun a70 hA71 => ?_; clear hA69 a68
  refine st hA71 (op_load1 rfl ty_28 (hA71.ev rfl) (hS67.rk 4 rfl) rfl) rfl rfl (by decide) fun a72 hA73 => ?_; clear hA71 a70
  refine st hA73 (op_move rfl (hA73.ev rfl)) rfl rfl (by decide) fun a74 hA75 => ?_; clear hA73 a72
  refine st hA75 (op_indexS rfl un_28 ty_42 (hA75.ev rfl) (i := band) (hA75.ev rfl) (hS67.sk 5 rfl) (by decide) (by omega)) rfl rfl (by decide) fun a76 hA77 => ?_; clear hA75 a74
  refine st hA77 (op_fieldS rfl fd_42_1 (hA77.ev rfl) (hS67.sk 5 rfl) (by rw [((hS67.sk 5 rfl)).1]; omega)) rfl rfl (by decide) fun a78 hA79 => ?_; clear hA77 a76
  refine st hA79 (op_load1E rfl ty_3 (hA79.ev rfl) (hS67.sk 5 rfl) (pairs_at1 (by omega))) rfl rfl (by decide) fun a80 hA81 => ?_; clear hA79 a78
  refine st hA81 (op_leq rfl (hA81.ev rfl) (hA81.ev rfl)) rfl rfl (by decide) fun a82 hA83 => ?_; clear hA81 a80
  refine wl_nil ?_
  refine then_n ?_
  by_cases hb84 : (lowF R arr band + (t : Int)) ≤ ((R.getD band (0, 0)).2)
  ·skip
   rw [decide_eq_true hb84] at hA83
   have hlt := cnt_lt hb84; have hnb : 0 ≤ lowF R arr band + (t : Int) ∧ lowF R arr band + (t : Int) ≤ 1000 := by have hb2 := hR.2 band; omega
   refine c_true hA83 rfl ?_
   refine c_skip ?_
   refine then_n ?_
   refine c_seq ?_
   refine c_block ?_
   refine c_seq ?_
   have hA85 := hA83.as [(9, (Value.int .i64 (lowF R arr band + (t : Int)))), (5, (bptr b5 0)), (1, (Value.int .i64 (band : Int))), (2, (bptr b1 0)), (4, (bptr bf 0))] rfl; clear hA83
   refine c_region ?_
   refine st hA85 (op_move rfl (hA85.ev rfl)) rfl rfl (by decide) fun a86 hA87 => ?_; clear hA85 a82
   refine st hA87 (op_move rfl (hA87.ev rfl)) rfl rfl (by decide) fun a88 hA89 => ?_; clear hA87 a86
   refine st hA89 (op_indexA rfl un_104 ty_3 (hA89.ev rfl) (i := band) (hA89.ev rfl) (by omega)) rfl rfl (by decide) fun a90 hA91 => ?_; clear hA89 a88
   refine sts hA91 (op_store hS67 rfl ty_3 (hA91.ev rfl) (hA91.ev rfl) (i := 0) rfl (vs := [(Value.int .i64 (lowF R arr band + (t : Int)))]) rfl rfl rfl (by simp only [ints, List.length_map, curA_len]; omega)) rfl rfl ?_
   intro _ w92 hS93 hA95; have hS94 := hS93.blk_say (i := 0) rfl (cs' := (ints (arr.set band (lowF R arr band + (t : Int))))) (by rw [setFrom_one, Nat.mul_one, Nat.zero_add, ints_set, curA_set]; rfl); clear hS93 hA91 hS67
   refine wl_nil ?_
   refine then_n ?_
   refine c_seq ?_
   refine c_region ?_
   refine st hA95 (op_load1 rfl ty_134 (hA95.ev rfl) (hS94.bk 2 rfl) rfl) rfl rfl (by decide) fun a96 hA97 => ?_; clear hA95 a90
   refine st hA97 (op_loadA rfl ty_104 (hA97.ev rfl) (hS94.bk 0 rfl) (l := (ints (arr.set band (lowF R arr band + (t : Int))))) (drop_take_all _ _ (by simp only [ints, List.length_map, List.length_set]; omega)) (by simp only [ints, List.length_map, List.length_set]; omega)) rfl rfl (by decide) fun a98 hA99 => ?_; clear hA97 a96
   refine st hA99 (op_move rfl (hA99.ev rfl)) rfl rfl (by decide) fun a100 hA101 => ?_; clear hA99 a98
   refine st hA101 (op_add rfl (hA101.ev rfl) (evc _ _) (by omega) (by omega)) rfl rfl (by decide) fun a102 hA103 => ?_; clear hA101 a100
   have hK104 : Sep (allR [(blk by_ 115 [(Value.func (.yield l) #[] #[])]), (blk bf 134 [(Value.func (.func 88) #[] #[(bptr b1 0), (bptr by_ 0), (bptr bf 0)])]), allR [(blk b5 104 (ints (curA R arr band t))), G0]]).S w65 w92 [(blk b5 104 (ints (arr.set band (lowF R arr band + (t : Int))))), (blk by_ 115 [(Value.func (.yield l) #[] #[])]), (blk bf 134 [(Value.func (.func 88) #[] #[(bptr b1 0), (bptr by_ 0), (bptr bf 0)])]), G0] := hS94.keep [0, 1, 2, 3] (by decide) _ rfl rfl
   have hj105 := hJ _ _ _ _ _ hj (Sep.pk2 (D := []) hK104 rfl rfl rfl hG0).one rfl
   obtain ⟨rest, hrest⟩ := fromF_split (m := m) hlt
   refine stw hA103 (op_callv rfl (hA103.ev rfl) en_88 (ev2 (hA103.ev rfl) (hA103.ev rfl)) (hih _ rfl _ (pre ++ fromUpto R m arr band t) (rest ++ post) _ (ratesV_set harr hnb) (by rw [hLS, hrest]; simp only [List.append_assoc]) (by rw [List.length_append]; exact hj105))) rfl rfl (by decide) ?_
   rintro a106 v110 w108 hv109 hA107; clear hA103 hS94 a102
   rcases hv109 with ⟨rfl, hj111⟩ | ⟨rfl, hj111⟩
   ·skip
    refine st hA107 (op_not rfl (hA107.ev rfl)) rfl rfl (by decide) fun a112 hA113 => ?_; clear hA107 a106
    refine wl_nil ?_
    refine then_n ?_
    refine c_false hA113 rfl ?_
    refine c_skip ?_
    refine blk_n ?_
    refine then_n ?_
    have hA114 := hA113.as [(9, (Value.int .i64 (lowF R arr band + (t : Int)))), (5, (bptr b5 0)), (1, (Value.int .i64 (band : Int))), (2, (bptr b1 0)), (4, (bptr bf 0))] rfl; clear hA113
    refine c_region ?_
    refine st hA114 (op_move rfl (hA114.ev rfl)) rfl rfl (by decide) fun a115 hA116 => ?_; clear hA114 a112
    refine st hA116 (op_add rfl (hA116.ev rfl) (evc _ _) (by omega) (by omega)) rfl rfl (by decide) fun a117 hA118 => ?_; clear hA116 a115
    refine st hA118 (op_assign rfl (hA118.ev rfl)) rfl rfl (by decide) fun a119 hA120 => ?_; clear hA118 a117
    refine wl_nil ?_
    rw [show lowF R arr band + (t : Int) + 1 = lowF R arr band + ((t + 1 : Nat) : Int) from by omega] at hA120
    exact then_n ⟨t + 1, ⟨hA120.as _ rfl, trivial, hlt, (by rw [fromUpto_succ, List.length_append, ← Nat.add_assoc]; rw [List.length_append] at hj111; exact hj111)⟩, by omega⟩
   ·skip
    refine st hA107 (op_not rfl (hA107.ev rfl)) rfl rfl (by decide) fun a121 hA122 => ?_; clear hA107 a106
    refine wl_nil ?_
    refine then_n ?_
    refine c_true hA122 rfl ?_
    refine c_seq ?_
    have hA123 := hA122.as [] rfl; clear hA122
    refine c_region ?_
    refine st hA123 (op_assign rfl (evc _ _)) rfl rfl (by decide) fun a124 hA125 => ?_; clear hA123 a121
    refine wl_nil ?_
    refine then_n ?_
    refine c_ret ?_
    refine blk_ret ?_
    refine then_ret ?_
    refine then_ret ?_
    refine blk_ret ?_
    refine then_ret ?_
    refine fin_run hA125 (.inl rfl) (run_results1 hA125 rfl (.tmp rfl)) ?_
    obtain ⟨kx, hjx⟩ := hj111
    exact .inr ⟨rfl, _, hJx _ _ _ _ _ hjx (Sep.pk1 (D := []) (Sep.keep (hDx _ _ _ hjx).2.upk2 [1, 2, 3] (by decide) _ rfl rfl) rfl rfl hG0).one rfl⟩
  ·skip
   rw [decide_eq_false hb84] at hA83
   have hte := cnt_eq hb84 ht
   refine c_false hA83 rfl ?_
   refine c_exit ?_
   refine then_exit ?_
   refine then_exit ?_
   refine blk_hit ?_
   refine then_n ?_
   refine c_seq ?_
   have hA126 := hA83.as [] rfl; clear hA83
   refine c_region ?_
   refine st hA126 (op_assign rfl (evc _ _)) rfl rfl (by decide) fun a127 hA128 => ?_; clear hA126 a82
   refine wl_nil ?_
   refine then_n ?_
   refine c_ret ?_
   refine fin_run hA128 (.inl rfl) (run_results1 hA128 rfl (.tmp rfl)) ?_
   exact .inl ⟨rfl, by rw [fromF_end, ← hte]; exact hJ _ _ _ _ _ hj (Sep.pk1 (D := []) (Sep.keep (hD _ _ _ hj).2.upk2 [1, 2, 3] (by decide) _ rfl rfl) rfl rfl hG0).one rfl⟩
 ·skip
  rw [decide_eq_false hb40] at hA39
  refine c_false hA39 rfl ?_
  refine c_skip ?_
  refine then_n ?_
  refine c_seq ?_
  refine c_seq ?_
  rw [show (R.getD band (0, 0)).1 = lowF R arr band + ((0 : Nat) : Int) from (by rw [show lowF R arr band + ((0 : Nat) : Int) = lowF R arr band from Int.add_zero _]; first | exact (lowF_pos (by assumption)).symm | exact (lowF_zero (by assumption)).symm)] at hA39
  refine c_region ?_
  refine st hA39 (op_move rfl (hA39.ev rfl)) rfl rfl (by decide) fun a129 hA130 => ?_; clear hA39 a38
  refine st hA130 (op_assign rfl (hA130.ev rfl)) rfl rfl (by decide) fun a131 hA132 => ?_; clear hA130 a129
  refine wl_nil ?_
  refine then_n ?_
  refine c_block ?_
  have hK133 : Sep (allR [(blk by_ 115 [(Value.func (.yield l) #[] #[])]), (blk bf 134 [(Value.func (.func 88) #[] #[(bptr b1 0), (bptr by_ 0), (bptr bf 0)])]), G0]).S W w4 [(blk b5 104 (ints arr)), (blk by_ 115 [(Value.func (.yield l) #[] #[])]), (blk bf 134 [(Value.func (.func 88) #[] #[(bptr b1 0), (bptr by_ 0), (bptr bf 0)])]), G0] := hS6.keep [0, 1, 2, 3] (by decide) _ rfl rfl
  have hj134 := hJ _ _ _ _ _ h0 (Sep.pk2 (D := []) hK133 rfl rfl rfl hG0).one rfl
  have hA135 := hA132.as [(9, (Value.int .i64 (lowF R arr band + ((0 : Nat) : Int)))), (5, (bptr b5 0)), (1, (Value.int .i64 (band : Int))), (2, (bptr b1 0)), (4, (bptr bf 0))] rfl; clear hA132
  refine c_loop (G := Nat) (fun (t : Nat) a_ w_ => Fr 52 [] [(9, (Value.int .i64 (lowF R arr band + (t : Int)))), (5, (bptr b5 0)), (1, (Value.int .i64 (band : Int))), (2, (bptr b1 0)), (4, (bptr bf 0))] a_ ∧ True ∧ (t ≤ cntF R arr band) ∧ (J (pre.length + (fromUpto R m arr band t).length) (allR [(blk by_ 115 [(Value.func (.yield l) #[] #[])]), (blk bf 134 [(Value.func (.func 88) #[] #[(bptr b1 0), (bptr by_ 0), (bptr bf 0)])]), allR [(blk b5 104 (ints (curA R arr band t))), G0]]) w_)) (fun t => cntF R arr band - t) 0 ⟨hA135.as _ rfl, trivial, (Nat.zero_le _), hj134⟩ ?_
  clear hA135 hS6 a131
  rintro t a136 w138 ⟨hA137, hS139, ht, hj⟩
  clear hS139
  have hS140 : Sep (allR [(blk by_ 115 [(Value.func (.yield l) #[] #[])]), (blk bf 134 [(Value.func (.func 88) #[] #[(bptr b1 0), (bptr by_ 0), (bptr bf 0)])]), allR [(blk b5 104 (ints (curA R arr band t))), G0]]).S w138 w138 [(blk b5 104 (ints (curA R arr band t))), (blk by_ 115 [(Value.func (.yield l) #[] #[])]), (blk bf 134 [(Value.func (.func 88) #[] #[(bptr b1 0), (bptr by_ 0), (bptr bf 0)])]), G0, (rob b1 33 [vr]), (sl vr 2 R.length (pairs R))] := (hD _ _ _ hj).2.upk2
  refine c_seq ?_
  refine c_seq ?_
  refine c_region ?_
  refine st hA137 (op_move rfl (hA137.ev rfl)) rfl rfl (by decide) fun a141 hA142 => ?_; clear hA137 a136
  refine st hA142 (op_field rfl fd_33_0 (hA142.ev rfl)) rfl rfl (by decide) fun a143 hA144 => ?_; clear hA142 a141
  refine st hA144 (op_load1 rfl ty_28 (hA144.ev rfl) (hS140.rk 4 rfl) rfl) rfl rfl (by decide) fun a145 hA146 => ?_; clear hA144 a143
  refine st hA146 (op_move rfl (hA146.ev rfl)) rfl rfl (by decide) fun a147 hA148 => ?_; clear hA146 a145
  refine st hA148 (op_indexS rfl un_28 ty_42 (hA148.ev rfl) (i := band) (hA148.ev rfl) (hS140.sk 5 rfl) (by decide) (by omega)) rfl rfl (by decide) fun a149 hA150 => ?_; clear hA148 a147
  refine st hA150 (op_fieldS rfl fd_42_1 (hA150.ev rfl) (hS140.sk 5 rfl) (by rw [((hS140.sk 5 rfl)).1]; omega)) rfl rfl (by decide) fun a151 hA152 => ?_; clear hA150 a149
  refine st hA152 (op_load1E rfl ty_3 (hA152.ev rfl) (hS140.sk 5 rfl) (pairs_at1 (by omega))) rfl rfl (by decide) fun a153 hA154 => ?_; clear hA152 a151
  refine st hA154 (op_leq rfl (hA154.ev rfl) (hA154.ev rfl)) rfl rfl (by decide) fun a155 hA156 => ?_; clear hA154 a153
  refine wl_nil ?_
  refine then_n ?_
  by_cases hb157 : (lowF R arr band + (t : Int)) ≤ ((R.getD band (0, 0)).2)
  ·skip
   rw [decide_eq_true hb157] at hA156
   have hlt := cnt_lt hb157; have hnb : 0 ≤ lowF R arr band + (t : Int) ∧ lowF R arr band + (t : Int) ≤ 1000 := by have hb2 := hR.2 band; omega
   refine c_true hA156 rfl ?_
   refine c_skip ?_
   refine then_n ?_
   refine c_seq ?_
   refine c_block ?_
   refine c_seq ?_
   have hA158 := hA156.as [(9, (Value.int .i64 (lowF R arr band + (t : Int)))), (5, (bptr b5 0)), (1, (Value.int .i64 (band : Int))), (2, (bptr b1 0)), (4, (bptr bf 0))] rfl; clear hA156
   refine c_region ?_
   refine st hA158 (op_move rfl (hA158.ev rfl)) rfl rfl (by decide) fun a159 hA160 => ?_; clear hA158 a155
   refine st hA160 (op_move rfl (hA160.ev rfl)) rfl rfl (by decide) fun a161 hA162 => ?_; clear hA160 a159
   refine st hA162 (op_indexA rfl un_104 ty_3 (hA162.ev rfl) (i := band) (hA162.ev rfl) (by omega)) rfl rfl (by decide) fun a163 hA164 => ?_; clear hA162 a161
   refine sts hA164 (op_store hS140 rfl ty_3 (hA164.ev rfl) (hA164.ev rfl) (i := 0) rfl (vs := [(Value.int .i64 (lowF R arr band + (t : Int)))]) rfl rfl rfl (by simp only [ints, List.length_map, curA_len]; omega)) rfl rfl ?_
   intro _ w165 hS166 hA168; have hS167 := hS166.blk_say (i := 0) rfl (cs' := (ints (arr.set band (lowF R arr band + (t : Int))))) (by rw [setFrom_one, Nat.mul_one, Nat.zero_add, ints_set, curA_set]; rfl); clear hS166 hA164 hS140
   refine wl_nil ?_
   refine then_n ?_
   refine c_seq ?_
   refine c_region ?_
   refine st hA168 (op_load1 rfl ty_134 (hA168.ev rfl) (hS167.bk 2 rfl) rfl) rfl rfl (by decide) fun a169 hA170 => ?_; clear hA168 a163
   refine st hA170 (op_loadA rfl ty_104 (hA170.ev rfl) (hS167.bk 0 rfl) (l := (ints (arr.set band (lowF R arr band + (t : Int))))) (drop_take_all _ _ (by simp only [ints, List.length_map, List.length_set]; omega)) (by simp only [ints, List.length_map, List.length_set]; omega)) rfl rfl (by decide) fun a171 hA172 => ?_; clear hA170 a169
   refine st hA172 (op_move rfl (hA172.ev rfl)) rfl rfl (by decide) fun a173 hA174 => ?_; clear hA172 a171
   refine st hA174 (op_add rfl (hA174.ev rfl) (evc _ _) (by omega) (by omega)) rfl rfl (by decide) fun a175 hA176 => ?_; clear hA174 a173
   have hK177 : Sep (allR [(blk by_ 115 [(Value.func (.yield l) #[] #[])]), (blk bf 134 [(Value.func (.func 88) #[] #[(bptr b1 0), (bptr by_ 0), (bptr bf 0)])]), allR [(blk b5 104 (ints (curA R arr band t))), G0]]).S w138 w165 [(blk b5 104 (ints (arr.set band (lowF R arr band + (t : Int))))), (blk by_ 115 [(Value.func (.yield l) #[] #[])]), (blk bf 134 [(Value.func (.func 88) #[] #[(bptr b1 0), (bptr by_ 0), (bptr bf 0)])]), G0] := hS167.keep [0, 1, 2, 3] (by decide) _ rfl rfl
   have hj178 := hJ _ _ _ _ _ hj (Sep.pk2 (D := []) hK177 rfl rfl rfl hG0).one rfl
   obtain ⟨rest, hrest⟩ := fromF_split (m := m) hlt
   refine stw hA176 (op_callv rfl (hA176.ev rfl) en_88 (ev2 (hA176.ev rfl) (hA176.ev rfl)) (hih _ rfl _ (pre ++ fromUpto R m arr band t) (rest ++ post) _ (ratesV_set harr hnb) (by rw [hLS, hrest]; simp only [List.append_assoc]) (by rw [List.length_append]; exact hj178))) rfl rfl (by decide) ?_
   rintro a179 v183 w181 hv182 hA180; clear hA176 hS167 a175
   rcases hv182 with ⟨rfl, hj184⟩ | ⟨rfl, hj184⟩
   ·skip
    refine st hA180 (op_not rfl (hA180.ev rfl)) rfl rfl (by decide) fun a185 hA186 => ?_; clear hA180 a179
    refine wl_nil ?_
    refine then_n ?_
    refine c_false hA186 rfl ?_
    refine c_skip ?_
    refine blk_n ?_
    refine then_n ?_
    have hA187 := hA186.as [(9, (Value.int .i64 (lowF R arr band + (t : Int)))), (5, (bptr b5 0)), (1, (Value.int .i64 (band : Int))), (2, (bptr b1 0)), (4, (bptr bf 0))] rfl; clear hA186
    refine c_region ?_
    refine st hA187 (op_move rfl (hA187.ev rfl)) rfl rfl (by decide) fun a188 hA189 => ?_; clear hA187 a185
    refine st hA189 (op_add rfl (hA189.ev rfl) (evc _ _) (by omega) (by omega)) rfl rfl (by decide) fun a190 hA191 => ?_; clear hA189 a188
    refine st hA191 (op_assign rfl (hA191.ev rfl)) rfl rfl (by decide) fun a192 hA193 => ?_; clear hA191 a190
    refine wl_nil ?_
    rw [show lowF R arr band + (t : Int) + 1 = lowF R arr band + ((t + 1 : Nat) : Int) from by omega] at hA193
    exact then_n ⟨t + 1, ⟨hA193.as _ rfl, trivial, hlt, (by rw [fromUpto_succ, List.length_append, ← Nat.add_assoc]; rw [List.length_append] at hj184; exact hj184)⟩, by omega⟩
   ·skip
    refine st hA180 (op_not rfl (hA180.ev rfl)) rfl rfl (by decide) fun a194 hA195 => ?_; clear hA180 a179
    refine wl_nil ?_
    refine then_n ?_
    refine c_true hA195 rfl ?_
    refine c_seq ?_
    have hA196 := hA195.as [] rfl; clear hA195
    refine c_region ?_
    refine st hA196 (op_assign rfl (evc _ _)) rfl rfl (by decide) fun a197 hA198 => ?_; clear hA196 a194
    refine wl_nil ?_
    refine then_n ?_
    refine c_ret ?_
    refine blk_ret ?_
    refine then_ret ?_
    refine then_ret ?_
    refine blk_ret ?_
    refine then_ret ?_
    refine fin_run hA198 (.inl rfl) (run_results1 hA198 rfl (.tmp rfl)) ?_
    obtain ⟨kx, hjx⟩ := hj184
    exact .inr ⟨rfl, _, hJx _ _ _ _ _ hjx (Sep.pk1 (D := []) (Sep.keep (hDx _ _ _ hjx).2.upk2 [1, 2, 3] (by decide) _ rfl rfl) rfl rfl hG0).one rfl⟩
  ·skip
   rw [decide_eq_false hb157] at hA156
   have hte := cnt_eq hb157 ht
   refine c_false hA156 rfl ?_
   refine c_exit ?_
   refine then_exit ?_
   refine then_exit ?_
   refine blk_hit ?_
   refine then_n ?_
   refine c_seq ?_
   have hA199 := hA156.as [] rfl; clear hA156
   refine c_region ?_
   refine st hA199 (op_assign rfl (evc _ _)) rfl rfl (by decide) fun a200 hA201 => ?_; clear hA199 a155
   refine wl_nil ?_
   refine then_n ?_
   refine c_ret ?_
   refine fin_run hA201 (.inl rfl) (run_results1 hA201 rfl (.tmp rfl)) ?_
   exact .inl ⟨rfl, by rw [fromF_end, ← hte]; exact hJ _ _ _ _ _ hj (Sep.pk1 (D := []) (Sep.keep (hD _ _ _ hj).2.upk2 [1, 2, 3] (by decide) _ rfl rfl) rfl rfl hG0).one rfl⟩

theorem lists_from (l b1 by_ bf : Nat) (vr : Value) (R : List (Int × Int)) (hR : MatV R) (J Jx : Nat → Res → World → Prop) (hJ : ∀ k G W G' W', J k G W → Sep G.S W W' [G'] → G'.own = true → J k G' W') (hJx : ∀ k G W G' W', Jx k G W → Sep G.S W W' [G'] → G'.own = true → Jx k G' W') (hD : ∀ k G W, J k G W → G.own = true ∧ Sep G.S W W (G :: [rob b1 33 [vr], sl vr 2 R.length (pairs R)])) (hDx : ∀ k G W, Jx k G W → G.own = true ∧ Sep G.S W W (G :: [rob b1 33 [vr], sl vr 2 R.length (pairs R)])) (LS : List (List Int)) (hy : ∀ k, k < LS.length → ∀ G W1, J k G W1 → YT Try.prog l #[.agg (ints (LS.getD k [])).toArray] W1 (fun v W' => (v = .bool true ∧ J (k + 1) G W') ∨ (v = .bool false ∧ Jx k G W'))) :
  ∀ (m : Nat) (G0 : Res), G0.own = true → ∀ (arr : List Int) (band : Nat) (pre post : List (List Int)) (W : World), RatesV arr → band + m = R.length → LS = pre ++ (fromF R m arr band ++ post) → J pre.length (allR [(blk by_ 115 [(Value.func (.yield l) #[] #[])]), (blk bf 134 [(Value.func (.func 88) #[] #[(bptr b1 0), (bptr by_ 0), (bptr bf 0)])]), G0]) W →
  Calls Try.prog 88 #[.agg (ints arr).toArray, .int .i64 (band : Int), bptr b1 0, bptr by_ 0, bptr bf 0] W (Ret fun v W' => (v = .bool true ∧ J (pre.length + (fromF R m arr band).length) (allR [(blk by_ 115 [(Value.func (.yield l) #[] #[])]), (blk bf 134 [(Value.func (.func 88) #[] #[(bptr b1 0), (bptr by_ 0), (bptr bf 0)])]), G0]) W') ∨ (v = .bool false ∧ ∃ k, Jx k (allR [(blk by_ 115 [(Value.func (.yield l) #[] #[])]), (blk bf 134 [(Value.func (.func 88) #[] #[(bptr b1 0), (bptr by_ 0), (bptr bf 0)])]), G0]) W'))
 | 0, G0, hG0, arr, band, pre, post, W, harr, hb, hLS, h0 => lists_leaf l b1 by_ bf vr R hR J Jx hJ hJx hD hDx LS hy G0 hG0 arr band pre post W harr (by omega) hLS h0
 | m + 1, G0, hG0, arr, band, pre, post, W, harr, hb, hLS, h0 => lists_step l b1 by_ bf vr R hR J Jx hJ hJx hD hDx LS hy G0 hG0 arr band pre post W harr m hb (fun G0 hG0 arr pre post W harr hLS h0 => lists_from l b1 by_ bf vr R hR J Jx hJ hJx hD hDx LS hy m G0 hG0 arr (band + 1) pre post W harr (by omega) hLS h0) hLS h0
theorem rates0 : RatesV [0, 0, 0] := by
 refine ⟨rfl, fun i => ?_⟩
 match i with
 | 0 => decide
 | 1 => decide
 | 2 => decide
 | i + 3 => simp

theorem lists_it (b1 : Nat) (vr : Value) (R : List (Int × Int)) (hR : MatV R) (G0 : Res) (hG0 : G0.own = true) :
  IterG Try.prog 87 #[bptr b1 0] G0 [rob b1 33 [vr], sl vr 2 R.length (pairs R)] (listsF R).length (fun k => #[.agg (ints ((listsF R).getD k [])).toArray]) := by
 intro l J Jx W hJ hJx hD hDx h0 hy
 refine calls_enter Try.func87 rfl fun a0 hA0 => ?_
 replace hA0 : Fr 8 [] [(0, (Value.func (.yield l) #[] #[])), (1, (bptr b1 0))] a0 := hA0
 have hS0 : Sep G0.S W W [G0, (rob b1 33 [vr]), (sl vr 2 R.length (pairs R))] := (hD _ _ _ h0).2
 refine c_seq ?_
 refine c_region ?_
 refine stw hA0 (op_box hS0 rfl (hA0.ev rfl) (cs := [(Value.func (.yield l) #[] #[])]) rfl) rfl rfl (by decide) ?_
 rintro a1 _ w3 ⟨b4, rfl, hS5⟩ hA2; clear hA0 hS0 a0
 refine wl_nil ?_
 refine then_n ?_
 refine c_seq ?_
 refine c_region ?_
 refine stw hA2 (op_alloc hS5 rfl ze_134 (cs := [Value.nilFunc]) rfl) rfl rfl (by decide) ?_
 rintro a6 _ w8 ⟨b9, rfl, hS10⟩ hA7; clear hA2 hS5 a1
 refine wl_nil ?_
 refine then_n ?_
 refine c_seq ?_
 refine c_region ?_
 refine st hA7 (op_makeFunc rfl ev0 (ev3 (hA7.ev rfl) (hA7.ev rfl) (hA7.ev rfl))) rfl rfl (by decide) fun a11 hA12 => ?_; clear hA7 a6
 refine sts hA12 (op_store hS10 rfl ty_134 (hA12.ev rfl) (hA12.ev rfl) (i := 0) rfl (vs := [(Value.func (.func 88) #[] #[(bptr b1 0), (bptr b4 0), (bptr b9 0)])]) rfl rfl rfl (Nat.le_of_ble_eq_true rfl)) rfl rfl ?_
 intro _ w13 hS14 hA15; clear hA12
 have hS16 : Sep G0.S W w13 [(blk b9 134 [(Value.func (.func 88) #[] #[(bptr b1 0), (bptr b4 0), (bptr b9 0)])]), (blk b4 115 [(Value.func (.yield l) #[] #[])]), G0, (rob b1 33 [vr]), (sl vr 2 R.length (pairs R))] := hS14; clear hS14 hS10
 refine wl_nil ?_
 refine then_n ?_
 refine c_region ?_
 refine st hA15 (op_load1 rfl ty_134 (hA15.ev rfl) (hS16.bk 0 rfl) rfl) rfl rfl (by decide) fun a17 hA18 => ?_; clear hA15 a11
 refine st hA18 (op_build rfl pv0 bd_104_) rfl rfl (by decide) fun a19 hA20 => ?_; clear hA18 a17
 have hK21 : Sep G0.S W w13 [(blk b4 115 [(Value.func (.yield l) #[] #[])]), (blk b9 134 [(Value.func (.func 88) #[] #[(bptr b1 0), (bptr b4 0), (bptr b9 0)])]), G0] := hS16.keep [1, 0, 2] (by decide) _ rfl rfl
 have hj22 := hJ _ _ _ _ _ h0 (Sep.pk1 (D := []) hK21 rfl rfl hG0).one rfl
 refine stw hA20 (op_callv rfl (hA20.ev rfl) en_88 (ev2 (hA20.ev rfl) (evc _ _)) (lists_from l b1 b4 b9 vr R hR J Jx hJ hJx hD hDx (listsF R) hy R.length _ hG0 [0, 0, 0] 0 [] [] _ rates0 (Nat.zero_add _) (List.append_nil _).symm hj22)) rfl rfl (by decide) ?_
 rintro a23 v27 w25 hv26 hA24; clear hA20 hS16 a19
 refine wl_nil ?_
 refine fin_run hA24 (.inr rfl) (run_results0 rfl _) ?_
 rcases hv26 with ⟨_, hj⟩ | ⟨_, k, hj⟩
 ·exact .inl (by rw [← Nat.zero_add (listsF R).length]; exact hJ _ _ _ _ _ hj (Sep.keep (hD _ _ _ hj).2.upk1 [2] (by decide) _ rfl rfl) hG0)
 ·exact .inr ⟨k, hJx _ _ _ _ _ hj (Sep.keep (hDx _ _ _ hj).2.upk1 [2] (by decide) _ rfl rfl) hG0⟩

theorem lists_ok (vr : Value) (w : World) :
  Calls Try.prog 65 #[(Value.agg #[vr])] w (Ret fun v w' => ∃ b1, v = .func (.func 87) #[] #[bptr b1 0] ∧ Sep NoB w w' [blk b1 33 [vr]]) := by
 refine calls_enter Try.func65 rfl fun a0 hA0 => ?_
 replace hA0 : Fr 4 [] [(0, (Value.agg #[vr]))] a0 := hA0
 have hS0 : Sep NoB w w [] := Sep.start _ _
 refine c_seq ?_
 refine c_region ?_
 refine stw hA0 (op_box hS0 rfl (hA0.ev rfl) (cs := [vr]) rfl) rfl rfl (by decide) ?_
 rintro a1 _ w3 ⟨b4, rfl, hS5⟩ hA2; clear hA0 hS0 a0
 refine st hA2 (op_assign rfl (evc _ _)) rfl rfl (by decide) fun a6 hA7 => ?_; clear hA2 a1
 refine wl_nil ?_
 refine then_n ?_
 refine c_seq ?_
 refine c_region ?_
 refine st hA7 (op_makeFunc rfl ev0 (ev1 (hA7.ev rfl))) rfl rfl (by decide) fun a8 hA9 => ?_; clear hA7 a6
 refine st hA9 (op_assign rfl (hA9.ev rfl)) rfl rfl (by decide) fun a10 hA11 => ?_; clear hA9 a8
 refine wl_nil ?_
 refine then_n ?_
 refine c_ret ?_
 refine fin_run hA11 (.inl rfl) (run_results1 hA11 rfl (.tmp rfl)) ?_
 exact ⟨_, rfl, hS5⟩

end Go.Proofs.Ytkkglkdnnfegkaa

namespace Go.Proofs.Ytkkglkdnnfegkaa
open Go.RowKit Go.Shelf Go.Eng
theorem ze_29 : (Try.prog.info? 29).bind (·.zero) = some (Value.int .i64 0) := by kernel_rfl
theorem en_64 : ∀ args w, (callFunc 64 args).run Try.prog w = .ok (.enter 64 args) w := enters_of Try.func64 (by kernel_rfl) rfl
theorem en_63 : ∀ args w, (callFunc 63 args).run Try.prog w = .ok (.enter 63 args) w := enters_of Try.func63 (by kernel_rfl) rfl
theorem en_65 : ∀ args w, (callFunc 65 args).run Try.prog w = .ok (.enter 65 args) w := enters_of Try.func65 (by kernel_rfl) rfl
theorem en_87 : ∀ args w, (callFunc 87 args).run Try.prog w = .ok (.enter 87 args) w := enters_of Try.func87 (by kernel_rfl) rfl
theorem ty_29 : tyK Try.prog 29 = some (false, 1) := by kernel_rfl
theorem check_ok (R : List (Int × Int)) (vr : Value) (w : World) (hm : SlAt w vr 2 R.length (pairs R)) (hlen : R.length ≤ 1000000) :
  Calls Try.prog 37 #[(Value.agg #[vr])] w (Ret fun v w' => v = .int .i64 (checkF R) ∧ Ext NoB w w') := by
 refine calls_enterM Try.func37 rfl fun a0 hA0 => ?_
 replace hA0 : Fr 17 (marks []) [(0, (Value.agg #[vr]))] a0 := hA0
 have hS0 : Sep NoB w w [(marksR []), (sl vr 2 R.length (pairs R))] := sep_marks (sep_ro ⟨rfl, hm, trivial⟩)
 refine c_seq ?_
 refine c_region ?_
 refine stw hA0 (op_box hS0 rfl (hA0.ev rfl) (cs := [vr]) rfl) rfl rfl (by decide) ?_
 rintro a1 _ w3 ⟨b4, rfl, hS5⟩ hA2; clear hA0 hS0 a0
 refine stw hA2 (op_alloc hS5 rfl ze_29 (cs := [(Value.int .i64 0)]) rfl) rfl rfl (by decide) ?_
 rintro a6 _ w8 ⟨b9, rfl, hS10⟩ hA7; clear hA2 hS5 a1
 refine wl_nil ?_
 refine then_n ?_
 refine c_seq ?_
 refine c_seq ?_
 refine c_region ?_
 refine st hA7 (op_field rfl fd_33_0 (hA7.ev rfl)) rfl rfl (by decide) fun a11 hA12 => ?_; clear hA7 a6
 refine st hA12 (op_load1 rfl ty_28 (hA12.ev rfl) (hS10.bk 1 rfl) rfl) rfl rfl (by decide) fun a13 hA14 => ?_; clear hA12 a11
 refine st hA14 (op_lenS rfl un_28 (hA14.ev rfl) (hS10.sk 3 rfl)) rfl rfl (by decide) fun a15 hA16 => ?_; clear hA14 a13
 refine stw hA16 (op_call rfl en_56 (ev3 (hA16.ev rfl) (evc _ _) (evc _ _)) (within_ok _ _ _ _)) rfl rfl (by decide) ?_
 rintro a17 _ W_ ⟨rfl, hW_⟩ hA18; have hW2_ := hW_.symm; subst hW2_; clear hW_ hA16 a15
 refine st hA18 (op_not rfl (hA18.ev rfl)) rfl rfl (by decide) fun a20 hA21 => ?_; clear hA18 a17
 refine st hA21 (op_move rfl (hA21.ev rfl)) rfl rfl (by decide) fun a22 hA23 => ?_; clear hA21 a20
 rcases Bool.eq_false_or_eq_true ((decide (1 ≤ (R.length : Int)) && decide ((R.length : Int) ≤ 3))) with hb24 | hb24
 ·skip
  rw [hb24] at hA23
  have hq25 := hb24; simp only [Bool.and_eq_true, Bool.and_eq_false_iff, decide_eq_true_eq, decide_eq_false_iff_not] at hq25
  refine stg hA23 (op_field rfl fd_33_0 (hA23.ev rfl)) rfl rfl rfl rfl (by decide) fun a26 hA27 => ?_; clear hA23 a22
  refine stg hA27 (op_load1 rfl ty_28 (hA27.ev rfl) (hS10.bk 1 rfl) rfl) rfl rfl rfl rfl (by decide) fun a28 hA29 => ?_; clear hA27 a26
  refine stwg hA29 (op_call rfl en_63 (ev2 (hA29.ev rfl) (evf _ _)) (all_rng R _ 64 #[] #[] (fun i => rateB (R.getD i (0, 0))) _ (hS10.sk 3 rfl) (by omega) ⟨en_64, fun i hi W hW => rate_ok _ _ W⟩)) rfl rfl rfl rfl (by decide) ?_
  rintro a30 _ w32 ⟨rfl, hE33⟩ hA31; have hS34 := hS10.step hE33; clear hE33 hA29 hS10 a28
  refine stg hA31 (op_not rfl (hA31.ev rfl)) rfl rfl rfl rfl (by decide) fun a35 hA36 => ?_; clear hA31 a30
  refine st hA36 (op_pick_f rfl (hA36.ev rfl) (hA36.ev rfl)) rfl rfl (by decide) fun a37 hA38 => ?_; clear hA36 a35
  refine wl_nil ?_
  refine then_n ?_
  rcases Bool.eq_false_or_eq_true (((List.range R.length).all (fun i => rateB (R.getD i (0, 0))))) with hb39 | hb39
  ·skip
   rw [hb39] at hA38
   refine c_false hA38 rfl ?_
   refine c_skip ?_
   refine then_n ?_
   refine c_seq ?_
   refine c_seq ?_
   have hA40 := hA38.as [(2, (bptr b9 0)), (1, (bptr b4 0))] rfl; clear hA38
   refine c_region ?_
   refine st hA40 (op_loadA rfl ty_33 (hA40.ev rfl) (hS34.bk 1 rfl) (l := [vr]) rfl rfl) rfl rfl (by decide) fun a41 hA42 => ?_; clear hA40 a37
   refine stw hA42 (op_call rfl en_65 (ev1 (hA42.ev rfl)) (lists_ok _ _)) rfl rfl (by decide) ?_
   rintro a43 _ w45 ⟨bl48, rfl, hT46⟩ hA44; have hS47 := hS34.callS hT46 rfl; clear hT46 hA42 hS34 a41
   refine wl_nil ?_
   refine then_n ?_
   refine c_block ?_
   have hA49 := hA44.as [(15, (Value.func (.func 87) #[] #[(bptr bl48 0)])), (2, (bptr b9 0))] rfl; clear hA44
   have hR : MatV R := matV_of (by omega) (by assumption)
   have hS50 := hS47.nilR; clear hS47
   have hS51 : Sep NoB w w45 [(marksR []), nilR, (blk bl48 33 [vr]), (blk b9 29 [(Value.int .i64 0)]), (blk b4 33 [vr]), (sl vr 2 R.length (pairs R))] := hS50.keep [4, 0, 1, 2, 3, 5] (by decide) _ rfl rfl; clear hS50
   refine c_rangeG hA49 nilR rfl hS51 (hA49.ev rfl) en_87 ((listsF R).length) (fun k => #[.agg (ints ((listsF R).getD k [])).toArray]) (fun _ => rfl) [rob bl48 33 [vr], sl vr 2 R.length (pairs R)] (fun r hr => by simp only [List.mem_cons, List.not_mem_nil, or_false] at hr; rcases hr with rfl | rfl <;> rfl) (lists_it bl48 vr R hR _ rfl) (fun q L_ => L_ = [(blk bl48 33 [vr]), (blk b9 29 [(Value.int .i64 0)]), (blk b4 33 [vr]), (sl vr 2 R.length (pairs R))] ∧ (q = 0)) (fun L_ => L_ = [(blk bl48 33 [vr]), (blk b9 29 [(Value.int .i64 0)]), (blk b4 33 [vr]), (sl vr 2 R.length (pairs R))] ∧ (0 < (listsF R).length)) (some .ret) ⟨rfl, rfl⟩ (fun q L_ hI_ G_ W_ r1_ r2_ hW_ => by obtain ⟨rfl, hz⟩ := hI_; exact (Sep.keep (hW_.to_ro (i := 3) rfl) [2, 3, 6] (by decide) _ rfl rfl)) (fun L_ hI_ G_ W_ r1_ r2_ hW_ => by obtain ⟨rfl, hn⟩ := hI_; exact (Sep.keep (hW_.to_ro (i := 3) rfl) [2, 3, 6] (by decide) _ rfl rfl)) ?_ ?_ ?_
   ·skip
    intro q hq L_ hL_ G60 hG61 l57 D58 rc59 a52 w53 ha56 hS54; obtain ⟨rfl, hz⟩ := hL_
    have hA55 : Fr 17 [] [(16, (Value.agg (ints ((listsF R).getD q [])).toArray)), (15, (Value.func (.func 87) #[] #[(bptr bl48 0)])), (2, (bptr b9 0))] a52 := by rw [ha56]; exact Fr.round1 hA49 (by decide)
    clear ha56 hS51
    refine c_skip ?_
    refine ⟨rfl, _, hS54, ?_⟩; intro w62 hS63; clear hS54
    refine c_block ?_
    refine c_seq ?_
    refine c_region ?_
    refine sts hA55 (op_store hS63 rfl ty_29 (hA55.ev rfl) (evc _ _) (i := 4) rfl (vs := [(Value.int .i64 0)]) rfl rfl rfl (Nat.le_of_ble_eq_true rfl)) rfl rfl ?_
    intro _ w64 hS65 hA66; clear hA55
    have hS67 : Sep NoB w w64 [(obR l57 (.loop (rc59 .busy none))), (marksR (D58 :: [])), G60, (blk bl48 33 [vr]), (blk b9 29 [(Value.int .i64 0)]), (blk b4 33 [vr]), (sl vr 2 R.length (pairs R))] := hS65; clear hS65 hS63
    refine wl_nil ?_
    refine then_n ?_
    refine c_ret ?_
    refine blk_ret ?_
    exact re_ret rfl ⟨_, rfl, ⟨rfl, (Nat.lt_of_le_of_lt (Nat.zero_le _) hq)⟩⟩ hS67
   ·skip
    intro L_ hL_ D72 a68 w69 hA71 hS70; obtain ⟨rfl, hz⟩ := hL_; clear hA49 hS51
    refine blk_n ?_
    refine then_n ?_
    refine c_seq ?_
    refine c_region ?_
    refine sts hA71 (op_store hS70 rfl ty_29 (hA71.ev rfl) (evc _ _) (i := 3) rfl (vs := [(Value.int .i64 1)]) rfl rfl rfl (Nat.le_of_ble_eq_true rfl)) rfl rfl ?_
    intro _ w73 hS74 hA75; clear hA71
    have hS76 : Sep NoB w w73 [(marksR (D72 :: [])), nilR, (blk bl48 33 [vr]), (blk b9 29 [(Value.int .i64 1)]), (blk b4 33 [vr]), (sl vr 2 R.length (pairs R))] := hS74; clear hS74 hS70
    refine wl_nil ?_
    refine then_n ?_
    refine c_ret ?_
    refine fin_runM hA75 (.inl rfl) hS76 ?_
    intro w77 hS78; clear hS76
    refine ⟨_, (run_results1 hA75 rfl (.cell1 rfl ty_29 (hS78.bk 2 rfl) rfl)), ?_⟩
    exact ⟨ret_int (by unfold checkF allRateB; first | rw [if_pos ⟨by omega, by assumption⟩, if_pos (by omega)] | rw [if_pos ⟨by omega, by assumption⟩, if_neg (by omega)] | rw [if_neg (fun h => by first | omega | exact absurd (h.2.symm.trans (by assumption : (List.range R.length).all (fun i => rateB (R.getD i (0, 0))) = false)) (by decide))]), hS78.ext⟩
   ·skip
    intro c_ hc_; cases hc_
    intro L_ hL_ D83 a79 w80 hA82 hS81; obtain ⟨rfl, hn⟩ := hL_; clear hA49 hS51
    refine c_ret ?_
    refine blk_ret ?_
    refine then_ret ?_
    refine fin_runM hA82 (.inl rfl) hS81 ?_
    intro w84 hS85; clear hS81
    refine ⟨_, (run_results1 hA82 rfl (.cell1 rfl ty_29 (hS85.bk 2 rfl) rfl)), ?_⟩
    exact ⟨ret_int (by unfold checkF allRateB; first | rw [if_pos ⟨by omega, by assumption⟩, if_pos (by omega)] | rw [if_pos ⟨by omega, by assumption⟩, if_neg (by omega)] | rw [if_neg (fun h => by first | omega | exact absurd (h.2.symm.trans (by assumption : (List.range R.length).all (fun i => rateB (R.getD i (0, 0))) = false)) (by decide))]), hS85.ext⟩
  ·skip
   rw [hb39] at hA38
   refine c_true hA38 rfl ?_
   refine c_seq ?_
   have hA86 := hA38.as [(2, (bptr b9 0))] rfl; clear hA38
   refine c_region ?_
   refine sts hA86 (op_store hS34 rfl ty_29 (hA86.ev rfl) (evc _ _) (i := 0) rfl (vs := [(Value.int .i64 1)]) rfl rfl rfl (Nat.le_of_ble_eq_true rfl)) rfl rfl ?_
   intro _ w87 hS88 hA89; clear hA86
   have hS90 : Sep NoB w w87 [(blk b9 29 [(Value.int .i64 1)]), (blk b4 33 [vr]), (marksR []), (sl vr 2 R.length (pairs R))] := hS88; clear hS88 hS34
   refine wl_nil ?_
   refine then_n ?_
   refine c_ret ?_
   refine then_ret ?_
   have hS91 : Sep NoB w w87 [(marksR []), (blk b9 29 [(Value.int .i64 1)]), (blk b4 33 [vr]), (sl vr 2 R.length (pairs R))] := hS90.keep [2, 0, 1, 3] (by decide) _ rfl rfl; clear hS90
   refine fin_runM hA89 (.inl rfl) hS91 ?_
   intro w92 hS93; clear hS91
   refine ⟨_, (run_results1 hA89 rfl (.cell1 rfl ty_29 (hS93.bk 0 rfl) rfl)), ?_⟩
   exact ⟨ret_int (by unfold checkF allRateB; first | rw [if_pos ⟨by omega, by assumption⟩, if_pos (by omega)] | rw [if_pos ⟨by omega, by assumption⟩, if_neg (by omega)] | rw [if_neg (fun h => by first | omega | exact absurd (h.2.symm.trans (by assumption : (List.range R.length).all (fun i => rateB (R.getD i (0, 0))) = false)) (by decide))]), hS93.ext⟩
 ·skip
  rw [hb24] at hA23
  have hq94 := hb24; simp only [Bool.and_eq_true, Bool.and_eq_false_iff, decide_eq_true_eq, decide_eq_false_iff_not] at hq94
  refine skp hA23 rfl rfl rfl rfl rfl (by decide) fun a95 hA96 => ?_; clear hA23 a22
  refine skp hA96 rfl rfl rfl rfl rfl (by decide) fun a97 hA98 => ?_; clear hA96 a95
  refine skp hA98 rfl rfl rfl rfl rfl (by decide) fun a99 hA100 => ?_; clear hA98 a97
  refine skp hA100 rfl rfl rfl rfl rfl (by decide) fun a101 hA102 => ?_; clear hA100 a99
  refine st hA102 (op_pick_t rfl (hA102.ev rfl) (evc _ _)) rfl rfl (by decide) fun a103 hA104 => ?_; clear hA102 a101
  refine wl_nil ?_
  refine then_n ?_
  refine c_true hA104 rfl ?_
  refine c_seq ?_
  have hA105 := hA104.as [(2, (bptr b9 0))] rfl; clear hA104
  refine c_region ?_
  refine sts hA105 (op_store hS10 rfl ty_29 (hA105.ev rfl) (evc _ _) (i := 0) rfl (vs := [(Value.int .i64 1)]) rfl rfl rfl (Nat.le_of_ble_eq_true rfl)) rfl rfl ?_
  intro _ w106 hS107 hA108; clear hA105
  have hS109 : Sep NoB w w106 [(blk b9 29 [(Value.int .i64 1)]), (blk b4 33 [vr]), (marksR []), (sl vr 2 R.length (pairs R))] := hS107; clear hS107 hS10
  refine wl_nil ?_
  refine then_n ?_
  refine c_ret ?_
  refine then_ret ?_
  have hS110 : Sep NoB w w106 [(marksR []), (blk b9 29 [(Value.int .i64 1)]), (blk b4 33 [vr]), (sl vr 2 R.length (pairs R))] := hS109.keep [2, 0, 1, 3] (by decide) _ rfl rfl; clear hS109
  refine fin_runM hA108 (.inl rfl) hS110 ?_
  intro w111 hS112; clear hS110
  refine ⟨_, (run_results1 hA108 rfl (.cell1 rfl ty_29 (hS112.bk 0 rfl) rfl)), ?_⟩
  exact ⟨ret_int (by unfold checkF allRateB; first | rw [if_pos ⟨by omega, by assumption⟩, if_pos (by omega)] | rw [if_pos ⟨by omega, by assumption⟩, if_neg (by omega)] | rw [if_neg (fun h => by first | omega | exact absurd (h.2.symm.trans (by assumption : (List.range R.length).all (fun i => rateB (R.getD i (0, 0))) = false)) (by decide))]), hS112.ext⟩

end Go.Proofs.Ytkkglkdnnfegkaa

namespace Go.Proofs.Ytkkglkdnnfegkaa
open Go.RowKit Go.Shelf Go.Eng
theorem un_3 : Try.prog.underlying 3 = some (.int .i64) := by kernel_rfl
theorem fd_119_2 : fldK Try.prog 119 2 = some 2 := by kernel_rfl
theorem ty_117 : tyK Try.prog 117 = some (false, 1) := by kernel_rfl
theorem ze_4 : (Try.prog.info? 4).bind (·.zero) = some (Value.bool false) := by kernel_rfl
theorem un_117 : Try.prog.underlying 117 = some (.map 104 4) := by kernel_rfl
theorem fd_119_1 : fldK Try.prog 119 1 = some 1 := by kernel_rfl
theorem ty_35 : tyK Try.prog 35 = some (false, 1) := by kernel_rfl
theorem ze_96 : (Try.prog.info? 96).bind (·.zero) = some (Value.agg #[(Value.slice none 0 0), (Value.int .i64 0), (Value.int .i64 0)]) := by kernel_rfl
theorem en_70 : ∀ args w, (callFunc 70 args).run Try.prog w = .ok (.enter 70 args) w := enters_of Try.func70 (by kernel_rfl) rfl
theorem allowed_ok (bj bm : Nat) (r : List Int) (R : List (Int × Int)) (rs : List RunD) (lv : List Value) (vr vu : Value) (n : Nat) (w : World) (hn : n ≤ 3) (hr : RatesV r) (hV : RunsV n rs) (hl : lv.length = rs.length) (hJ : Sep (fun b => b = bm) w w [(memo bm (KA rs)), (rob bj 119 [vr, vu, (Value.map (some bm))]), (sl vr 2 R.length (pairs R)), (sl vu 3 rs.length (vtrips (runV lv rs))), (segsR false lv rs)]) :
  Calls Try.prog 68 #[(bptr bj 0), (Value.agg (ints r).toArray)] w (Ret fun v w' => v = .bool (allowB rs r) ∧ Ext (fun b => b = bm) w w' ∧ (memo bm (KA rs)).p w') := by
 refine calls_enter Try.func68 rfl fun a0 hA0 => ?_
 replace hA0 : Fr 44 [] [(0, (bptr bj 0)), (1, (Value.agg (ints r).toArray))] a0 := hA0
 have hr3 := hr.1
 have hvl := hV.len
 have hS0 : Sep (fun b => b = bm) w w [(memo bm (KA rs)), (rob bj 119 [vr, vu, (Value.map (some bm))]), (sl vr 2 R.length (pairs R)), (sl vu 3 rs.length (vtrips (runV lv rs))), (segsR false lv rs)] := hJ
 refine c_seq ?_
 refine c_region ?_
 refine stw hA0 (op_box hS0 rfl (hA0.ev rfl) (cs := (ints r)) rfl) rfl rfl (by decide) ?_
 rintro a1 _ w3 ⟨b4, rfl, hS5⟩ hA2; clear hA0 hS0 a0
 refine st hA2 (op_assign rfl (evc _ _)) rfl rfl (by decide) fun a6 hA7 => ?_; clear hA2 a1
 refine wl_nil ?_
 refine then_n ?_
 refine c_scope ?_
 refine c_seq ?_
 obtain ⟨rs8, hr9, hS10⟩ := memo_look hS5 (i := 1) rfl un_104 (keyOk_ints un_104 un_3 ty_3 (KA_keys rs) r hr3); clear hS5
 rcases hr9 with rfl | ⟨u, rfl, hK⟩
 ·skip
  have hA11 := hA7.as [(3, (bptr b4 0)), (0, (bptr bj 0))] rfl; clear hA7
  refine c_drawn mixed hA11 hS10 10 [[], [0], [1], [2], [], [3, 4], [5], [6], [6], [7]] [(Yd.val (bptr bj 0)), (Yd.val (bptr bj 0)), (Yd.val (bptr bj 2)), (Yd.val (Value.map (some bm))), (Yd.val (Value.agg (ints r).toArray)), (Yd.val (Value.tuple #[(Value.bool false), (Value.bool false)])), (Yd.val (Value.tuple #[(Value.bool false), (Value.bool false)])), (Yd.val (Value.bool false)), (Yd.val (Value.bool false)), (Yd.val (Value.bool false))] (by decide +kernel) rfl rfl ?_ ?_
  ·skip
   refine ⟨fun a w hA hS hd => ?_, ?_⟩
   ·skip
    exact opG_of rfl (dv (op_move rfl (hA.ev rfl)) hS rfl)
   refine ⟨fun a w hA hS hd => ?_, ?_⟩
   ·skip
    have e0 := has_ev (hd 0 (by decide)) rfl (fun _ h => h)
    exact opG_of rfl (dv (op_nilCheck rfl (tmp_ev e0)) hS rfl)
   refine ⟨fun a w hA hS hd => ?_, ?_⟩
   ·skip
    have e1 := has_ev (hd 1 (by decide)) rfl (fun _ h => h)
    exact opG_of rfl (dv (op_field rfl fd_119_2 (tmp_ev e1)) hS rfl)
   refine ⟨fun a w hA hS hd => ?_, ?_⟩
   ·skip
    have e2 := has_ev (hd 2 (by decide)) rfl (fun _ h => h)
    exact opG_of rfl (dv (op_load1 rfl ty_117 (tmp_ev e2) (hS.rk 2 rfl) rfl) hS rfl)
   refine ⟨fun a w hA hS hd => ?_, ?_⟩
   ·skip
    exact opG_of rfl (dv (op_loadA rfl ty_104 (hA.ev rfl) (hS.bk 0 rfl) (l := (ints r)) (drop_take_all _ _ (by simp only [ints, List.length_map]; omega)) (by simp only [ints, List.length_map]; omega)) hS rfl)
   refine ⟨fun a w hA hS hd => ?_, ?_⟩
   ·skip
    have e3 := has_ev (hd 3 (by decide)) rfl (fun _ h => h)
    have e4 := has_ev (hd 4 (by decide)) rfl (fun _ h => h)
    exact opG_of rfl (dv (op_lookupAt hS rfl un_117 ze_4 (tmp_ev e3) (tmp_ev e4) (i := 1) rfl (keyOk_ints un_104 un_3 ty_3 (KA_keys rs) r hr3)) hS rfl)
   refine ⟨fun a w hA hS hd => ?_, ?_⟩
   ·skip
    have e5 := has_ev (hd 5 (by decide)) rfl (fun _ h => h)
    exact opG_of rfl (dv (op_move rfl (tmp_ev e5)) hS rfl)
   refine ⟨fun a w hA hS hd => ?_, ?_⟩
   ·skip
    have e6 := has_ev (hd 6 (by decide)) rfl (fun _ h => h)
    exact opG_of rfl (dv (op_extract rfl (tmp_ev e6) rfl) hS rfl)
   refine ⟨fun a w hA hS hd => ?_, ?_⟩
   ·skip
    have e6 := has_ev (hd 6 (by decide)) rfl (fun _ h => h)
    exact opG_of rfl (dv (op_extract rfl (tmp_ev e6) rfl) hS rfl)
   refine ⟨fun a w hA hS hd => ?_, ?_⟩
   ·skip
    have e7 := has_ev (hd 7 (by decide)) rfl (fun _ h => h)
    exact opG_of rfl (dv (op_assign rfl (tmp_ev e7)) hS rfl)
   trivial
  intro a12 w13 hA14 hS15 hH16; clear hA11 hS10
  have hA18 := hA14.add (has_ev (hH16 8 (by decide)) rfl (fun _ h => h)); clear hA14
  have hA19 := hA18.add (has_ev (hH16 9 (by decide)) rfl (fun _ h => h)); clear hA18
  clear hH16
  refine st hA19 (op_assign rfl (hA19.ev rfl)) rfl rfl (by decide) fun a20 hA21 => ?_; clear hA19 a12
  refine wl_nil ?_
  refine then_n ?_
  refine c_seq ?_
  refine c_seq ?_
  have hS22 := memo_back hS15 (i := 1) rfl; clear hS15
  refine c_region ?_
  refine st hA21 (op_move rfl (hA21.ev rfl)) rfl rfl (by decide) fun a23 hA24 => ?_; clear hA21 a20
  refine wl_nil ?_
  refine then_n ?_
  refine c_false hA24 rfl ?_
  refine c_skip ?_
  refine then_n ?_
  refine c_seq ?_
  refine c_region ?_
  refine st hA24 (op_assign rfl (evc _ _)) rfl rfl (by decide) fun a25 hA26 => ?_; clear hA24 a23
  refine wl_nil ?_
  refine then_n ?_
  refine c_seq ?_
  refine c_label ?_
  refine then_n ?_
  refine c_seq ?_
  refine c_seq ?_
  refine c_region ?_
  refine st hA26 (op_move rfl (hA26.ev rfl)) rfl rfl (by decide) fun a27 hA28 => ?_; clear hA26 a25
  refine st hA28 (op_nilCheck rfl (hA28.ev rfl)) rfl rfl (by decide) fun a29 hA30 => ?_; clear hA28 a27
  refine st hA30 (op_field rfl fd_119_1 (hA30.ev rfl)) rfl rfl (by decide) fun a31 hA32 => ?_; clear hA30 a29
  refine st hA32 (op_load1 rfl ty_35 (hA32.ev rfl) (hS22.rk 2 rfl) rfl) rfl rfl (by decide) fun a33 hA34 => ?_; clear hA32 a31
  refine st hA34 (op_lenS rfl un_35 (hA34.ev rfl) (hS22.sk 4 rfl)) rfl rfl (by decide) fun a35 hA36 => ?_; clear hA34 a33
  refine st hA36 (op_move rfl (evc _ _)) rfl rfl (by decide) fun a37 hA38 => ?_; clear hA36 a35
  refine wl_nil ?_
  refine then_n ?_
  refine c_block ?_
  have hA39 := hA38.as [(26, (Value.int .i64 0)), (25, (Value.int .i64 (rs.length : Int))), (24, vu), (5, (Value.bool true)), (3, (bptr b4 0)), (0, (bptr bj 0))] rfl; clear hA38
  refine c_loop (G := Nat) (fun (k : Nat) a_ w_ => Fr 44 [] [(26, (Value.int .i64 (k : Int))), (25, (Value.int .i64 (rs.length : Int))), (24, vu), (5, (Value.bool true)), (3, (bptr b4 0)), (0, (bptr bj 0))] a_ ∧ Sep (fun b => b = bm) w w_ [(blk b4 104 (ints r)), (memo bm (KA rs)), (rob bj 119 [vr, vu, (Value.map (some bm))]), (sl vr 2 R.length (pairs R)), (sl vu 3 rs.length (vtrips (runV lv rs))), (segsR false lv rs)] ∧ (k ≤ rs.length) ∧ (∀ i, i < k → allowsB (rs.getD i run0) r = true)) (fun k => rs.length - k) 0 ⟨hA39.as _ rfl, hS22, by omega, by omega⟩ ?_
  clear hA39 hS22 a37
  rintro k a40 w42 ⟨hA41, hS43, hk, hal0⟩
  refine c_seq ?_
  refine c_region ?_
  refine st hA41 (op_lss rfl (hA41.ev rfl) (hA41.ev rfl)) rfl rfl (by decide) fun a44 hA45 => ?_; clear hA41 a40
  refine wl_nil ?_
  refine then_n ?_
  refine c_seq ?_
  by_cases hb46 : (k : Int) < (rs.length : Int)
  ·skip
   rw [decide_eq_true hb46] at hA45
   have hrk := hV.runs k (by omega)
   refine c_true hA45 rfl ?_
   refine c_skip ?_
   refine then_n ?_
   refine c_seq ?_
   refine c_block ?_
   refine c_seq ?_
   refine c_region ?_
   refine st hA45 (op_indexS rfl un_35 ty_96 (hA45.ev rfl) (i := k) (hA45.ev rfl) (hS43.sk 4 rfl) (by decide) (by omega)) rfl rfl (by decide) fun a47 hA48 => ?_; clear hA45 a44
   refine st hA48 (op_loadAE rfl ty_96 (hA48.ev rfl) (hS43.sk 4 rfl) (runs_all hl (by omega)) rfl (by decide)) rfl rfl (by decide) fun a49 hA50 => ?_; clear hA48 a47
   refine stw hA50 (op_alloc hS43 rfl ze_96 (cs := [(Value.slice none 0 0), (Value.int .i64 0), (Value.int .i64 0)]) rfl) rfl rfl (by decide) ?_
   rintro a51 _ w53 ⟨b54, rfl, hS55⟩ hA52; clear hA50 hS43 a49
   refine sts hA52 (op_store hS55 rfl ty_96 (hA52.ev rfl) (hA52.ev rfl) (i := 0) rfl (vs := [(lv.getD k nilS), (Value.int .i64 ((rs.getD k run0).lo)), (Value.int .i64 ((rs.getD k run0).hi))]) rfl rfl (all_c (SlAt.one ((hS55.ok 6 _ rfl).2 k (by omega))) (all_c rfl (all_c rfl all_n))) (Nat.le_of_ble_eq_true rfl)) rfl rfl ?_
   intro _ w56 hS57 hA58; clear hA52
   have hS59 : Sep (fun b => b = bm) w w56 [(blk b54 96 [(lv.getD k nilS), (Value.int .i64 ((rs.getD k run0).lo)), (Value.int .i64 ((rs.getD k run0).hi))]), (blk b4 104 (ints r)), (memo bm (KA rs)), (rob bj 119 [vr, vu, (Value.map (some bm))]), (sl vr 2 R.length (pairs R)), (sl vu 3 rs.length (vtrips (runV lv rs))), (segsR false lv rs)] := hS57; clear hS57 hS55
   refine wl_nil ?_
   refine then_n ?_
   refine c_seq ?_
   refine c_region ?_
   refine st hA58 (op_loadA rfl ty_96 (hA58.ev rfl) (hS59.bk 0 rfl) (l := [(lv.getD k nilS), (Value.int .i64 ((rs.getD k run0).lo)), (Value.int .i64 ((rs.getD k run0).hi))]) rfl rfl) rfl rfl (by decide) fun a60 hA61 => ?_; clear hA58 a51
   refine st hA61 (op_makeFunc rfl (ev1 (hA61.ev rfl)) ev0) rfl rfl (by decide) fun a62 hA63 => ?_; clear hA61 a60
   refine st hA63 (op_assign rfl (hA63.ev rfl)) rfl rfl (by decide) fun a64 hA65 => ?_; clear hA63 a62
   refine wl_nil ?_
   refine then_n ?_
   refine c_seq ?_
   have hA66 := hA65.as [(9, (Value.func (.func 70) #[(Value.agg #[(lv.getD k nilS), (Value.int .i64 ((rs.getD k run0).lo)), (Value.int .i64 ((rs.getD k run0).hi))])] #[])), (26, (Value.int .i64 (k : Int))), (25, (Value.int .i64 (rs.length : Int))), (24, vu), (5, (Value.bool true)), (3, (bptr b4 0)), (0, (bptr bj 0))] rfl; clear hA65
   refine c_region ?_
   refine st hA66 (op_move rfl (hA66.ev rfl)) rfl rfl (by decide) fun a67 hA68 => ?_; clear hA66 a64
   refine st hA68 (op_loadA rfl ty_104 (hA68.ev rfl) (hS59.bk 1 rfl) (l := (ints r)) (drop_take_all _ _ (by simp only [ints, List.length_map]; omega)) (by simp only [ints, List.length_map]; omega)) rfl rfl (by decide) fun a69 hA70 => ?_; clear hA68 a67
   refine stw hA70 (op_callv rfl (hA70.ev rfl) en_70 (ev1 (hA70.ev rfl)) (allows_ok (rs.getD k run0) _ r n _ hrk.len hn hr hrk.segs ((hS59.ok 6 _ rfl).2 k (by omega)))) rfl rfl (by decide) ?_
   rintro a71 _ w73 ⟨rfl, hE74⟩ hA72; have hS75 := hS59.step hE74; clear hE74 hA70 hS59 a69
   refine st hA72 (op_not rfl (hA72.ev rfl)) rfl rfl (by decide) fun a76 hA77 => ?_; clear hA72 a71
   refine wl_nil ?_
   refine then_n ?_
   rcases Bool.eq_false_or_eq_true ((allowsB (rs.getD k run0) r)) with hb78 | hb78
   ·skip
    rw [hb78] at hA77
    refine c_false hA77 rfl ?_
    refine c_skip ?_
    refine blk_n ?_
    refine then_n ?_
    refine c_region ?_
    refine st hA77 (op_add rfl (hA77.ev rfl) (evc _ _) (by omega) (by omega)) rfl rfl (by decide) fun a79 hA80 => ?_; clear hA77 a76
    refine st hA80 (op_move rfl (hA80.ev rfl)) rfl rfl (by decide) fun a81 hA82 => ?_; clear hA80 a79
    refine wl_nil ?_
    have hS83 : Sep (fun b => b = bm) w w73 [(blk b4 104 (ints r)), (memo bm (KA rs)), (rob bj 119 [vr, vu, (Value.map (some bm))]), (sl vr 2 R.length (pairs R)), (sl vu 3 rs.length (vtrips (runV lv rs))), (segsR false lv rs)] := hS75.keep [1, 2, 3, 4, 5, 6] (by decide) _ rfl rfl; clear hS75
    exact then_n ⟨k + 1, ⟨hA82.as _ rfl, hS83, by omega, (fun i hi => by rcases Nat.lt_succ_iff_lt_or_eq.1 hi with h | h; exact hal0 i h; subst h; assumption)⟩, by omega⟩
   ·skip
    rw [hb78] at hA77
    refine c_true hA77 rfl ?_
    refine c_seq ?_
    have hA84 := hA77.as [(3, (bptr b4 0)), (0, (bptr bj 0))] rfl; clear hA77
    refine c_region ?_
    refine st hA84 (op_assign rfl (evc _ _)) rfl rfl (by decide) fun a85 hA86 => ?_; clear hA84 a76
    refine wl_nil ?_
    refine then_n ?_
    refine c_exit ?_
    refine blk_miss (by decide) ?_
    refine then_exit ?_
    refine then_exit ?_
    refine blk_hit ?_
    refine then_n ?_
    refine c_seq ?_
    have hal : allowB rs r = false := allow_no (k := k) (by omega) (by assumption)
    have hA87 := hA86.as [(5, (Value.bool false)), (3, (bptr b4 0)), (0, (bptr bj 0))] rfl; clear hA86
    refine c_drawn mixed hA87 hS75 6 [[], [0], [1], [2], [], []] [(Yd.val (bptr bj 0)), (Yd.val (bptr bj 0)), (Yd.val (bptr bj 2)), (Yd.val (Value.map (some bm))), (Yd.val (Value.agg (ints r).toArray)), (Yd.val (Value.bool false))] (by decide +kernel) rfl rfl ?_ ?_
    ·skip
     refine ⟨fun a w hA hS hd => ?_, ?_⟩
     ·skip
      exact opG_of rfl (dv (op_move rfl (hA.ev rfl)) hS rfl)
     refine ⟨fun a w hA hS hd => ?_, ?_⟩
     ·skip
      have e0 := has_ev (hd 0 (by decide)) rfl (fun _ h => h)
      exact opG_of rfl (dv (op_nilCheck rfl (tmp_ev e0)) hS rfl)
     refine ⟨fun a w hA hS hd => ?_, ?_⟩
     ·skip
      have e1 := has_ev (hd 1 (by decide)) rfl (fun _ h => h)
      exact opG_of rfl (dv (op_field rfl fd_119_2 (tmp_ev e1)) hS rfl)
     refine ⟨fun a w hA hS hd => ?_, ?_⟩
     ·skip
      have e2 := has_ev (hd 2 (by decide)) rfl (fun _ h => h)
      exact opG_of rfl (dv (op_load1 rfl ty_117 (tmp_ev e2) (hS.rk 3 rfl) rfl) hS rfl)
     refine ⟨fun a w hA hS hd => ?_, ?_⟩
     ·skip
      exact opG_of rfl (dv (op_loadA rfl ty_104 (hA.ev rfl) (hS.bk 1 rfl) (l := (ints r)) (drop_take_all _ _ (by simp only [ints, List.length_map]; omega)) (by simp only [ints, List.length_map]; omega)) hS rfl)
     refine ⟨fun a w hA hS hd => ?_, ?_⟩
     ·skip
      exact opG_of rfl (dv (op_move rfl (hA.ev rfl)) hS rfl)
     trivial
    intro a88 w89 hA90 hS91 hH92; clear hA87 hS75
    have hA94 := hA90.add (has_ev (hH92 3 (by decide)) rfl (fun _ h => h)); clear hA90
    have hA95 := hA94.add (has_ev (hH92 4 (by decide)) rfl (fun _ h => h)); clear hA94
    have hA96 := hA95.add (has_ev (hH92 5 (by decide)) rfl (fun _ h => h)); clear hA95
    clear hH92
    refine sts hA96 (op_mapUpdate hS91 rfl un_117 un_104 (hA96.ev rfl) (hA96.ev rfl) (hA96.ev rfl) (i := 2) rfl (keyOk_ints un_104 un_3 ty_3 (KA_keys rs) r hr3) ⟨r, hr3, rfl, by rw [hal]⟩) rfl rfl ?_
    intro _ w97 hS98 hA99; clear hA96 hS91
    refine wl_nil ?_
    refine then_n ?_
    refine c_seq ?_
    refine c_region ?_
    refine st hA99 (op_move rfl (hA99.ev rfl)) rfl rfl (by decide) fun a100 hA101 => ?_; clear hA99 a88
    refine st hA101 (op_assign rfl (hA101.ev rfl)) rfl rfl (by decide) fun a102 hA103 => ?_; clear hA101 a100
    refine wl_nil ?_
    refine then_n ?_
    refine c_ret ?_
    refine ng_ret ?_
    refine fin_run hA103 (.inl rfl) (run_results1 hA103 rfl (.tmp rfl)) ?_
    exact ⟨by rw [hal], hS98.ext, hS98.ok 2 _ rfl⟩
  ·skip
   rw [decide_eq_false hb46] at hA45
   refine c_false hA45 rfl ?_
   refine c_exit ?_
   refine then_exit ?_
   refine then_exit ?_
   refine blk_hit ?_
   refine then_n ?_
   refine c_seq ?_
   have hal : allowB rs r = true := allow_all (fun i hi => hal0 i (by omega))
   have hA104 := hA45.as [(5, (Value.bool true)), (3, (bptr b4 0)), (0, (bptr bj 0))] rfl; clear hA45
   refine c_drawn mixed hA104 hS43 6 [[], [0], [1], [2], [], []] [(Yd.val (bptr bj 0)), (Yd.val (bptr bj 0)), (Yd.val (bptr bj 2)), (Yd.val (Value.map (some bm))), (Yd.val (Value.agg (ints r).toArray)), (Yd.val (Value.bool true))] (by decide +kernel) rfl rfl ?_ ?_
   ·skip
    refine ⟨fun a w hA hS hd => ?_, ?_⟩
    ·skip
     exact opG_of rfl (dv (op_move rfl (hA.ev rfl)) hS rfl)
    refine ⟨fun a w hA hS hd => ?_, ?_⟩
    ·skip
     have e0 := has_ev (hd 0 (by decide)) rfl (fun _ h => h)
     exact opG_of rfl (dv (op_nilCheck rfl (tmp_ev e0)) hS rfl)
    refine ⟨fun a w hA hS hd => ?_, ?_⟩
    ·skip
     have e1 := has_ev (hd 1 (by decide)) rfl (fun _ h => h)
     exact opG_of rfl (dv (op_field rfl fd_119_2 (tmp_ev e1)) hS rfl)
    refine ⟨fun a w hA hS hd => ?_, ?_⟩
    ·skip
     have e2 := has_ev (hd 2 (by decide)) rfl (fun _ h => h)
     exact opG_of rfl (dv (op_load1 rfl ty_117 (tmp_ev e2) (hS.rk 2 rfl) rfl) hS rfl)
    refine ⟨fun a w hA hS hd => ?_, ?_⟩
    ·skip
     exact opG_of rfl (dv (op_loadA rfl ty_104 (hA.ev rfl) (hS.bk 0 rfl) (l := (ints r)) (drop_take_all _ _ (by simp only [ints, List.length_map]; omega)) (by simp only [ints, List.length_map]; omega)) hS rfl)
    refine ⟨fun a w hA hS hd => ?_, ?_⟩
    ·skip
     exact opG_of rfl (dv (op_move rfl (hA.ev rfl)) hS rfl)
    trivial
   intro a105 w106 hA107 hS108 hH109; clear hA104 hS43
   have hA111 := hA107.add (has_ev (hH109 3 (by decide)) rfl (fun _ h => h)); clear hA107
   have hA112 := hA111.add (has_ev (hH109 4 (by decide)) rfl (fun _ h => h)); clear hA111
   have hA113 := hA112.add (has_ev (hH109 5 (by decide)) rfl (fun _ h => h)); clear hA112
   clear hH109
   refine sts hA113 (op_mapUpdate hS108 rfl un_117 un_104 (hA113.ev rfl) (hA113.ev rfl) (hA113.ev rfl) (i := 1) rfl (keyOk_ints un_104 un_3 ty_3 (KA_keys rs) r hr3) ⟨r, hr3, rfl, by rw [hal]⟩) rfl rfl ?_
   intro _ w114 hS115 hA116; clear hA113 hS108
   refine wl_nil ?_
   refine then_n ?_
   refine c_seq ?_
   refine c_region ?_
   refine st hA116 (op_move rfl (hA116.ev rfl)) rfl rfl (by decide) fun a117 hA118 => ?_; clear hA116 a105
   refine st hA118 (op_assign rfl (hA118.ev rfl)) rfl rfl (by decide) fun a119 hA120 => ?_; clear hA118 a117
   refine wl_nil ?_
   refine then_n ?_
   refine c_ret ?_
   refine ng_ret ?_
   refine fin_run hA120 (.inl rfl) (run_results1 hA120 rfl (.tmp rfl)) ?_
   exact ⟨by rw [hal], hS115.ext, hS115.ok 1 _ rfl⟩
 ·skip
  obtain rfl := KA_val hK
  have hA121 := hA7.as [(3, (bptr b4 0)), (0, (bptr bj 0))] rfl; clear hA7
  refine c_drawn mixed hA121 hS10 10 [[], [0], [1], [2], [], [3, 4], [5], [6], [6], [7]] [(Yd.val (bptr bj 0)), (Yd.val (bptr bj 0)), (Yd.val (bptr bj 2)), (Yd.val (Value.map (some bm))), (Yd.val (Value.agg (ints r).toArray)), (Yd.val (Value.tuple #[(Value.bool (allowB rs r)), (Value.bool true)])), (Yd.val (Value.tuple #[(Value.bool (allowB rs r)), (Value.bool true)])), (Yd.val (Value.bool (allowB rs r))), (Yd.val (Value.bool true)), (Yd.val (Value.bool (allowB rs r)))] (by decide +kernel) rfl rfl ?_ ?_
  ·skip
   refine ⟨fun a w hA hS hd => ?_, ?_⟩
   ·skip
    exact opG_of rfl (dv (op_move rfl (hA.ev rfl)) hS rfl)
   refine ⟨fun a w hA hS hd => ?_, ?_⟩
   ·skip
    have e0 := has_ev (hd 0 (by decide)) rfl (fun _ h => h)
    exact opG_of rfl (dv (op_nilCheck rfl (tmp_ev e0)) hS rfl)
   refine ⟨fun a w hA hS hd => ?_, ?_⟩
   ·skip
    have e1 := has_ev (hd 1 (by decide)) rfl (fun _ h => h)
    exact opG_of rfl (dv (op_field rfl fd_119_2 (tmp_ev e1)) hS rfl)
   refine ⟨fun a w hA hS hd => ?_, ?_⟩
   ·skip
    have e2 := has_ev (hd 2 (by decide)) rfl (fun _ h => h)
    exact opG_of rfl (dv (op_load1 rfl ty_117 (tmp_ev e2) (hS.rk 2 rfl) rfl) hS rfl)
   refine ⟨fun a w hA hS hd => ?_, ?_⟩
   ·skip
    exact opG_of rfl (dv (op_loadA rfl ty_104 (hA.ev rfl) (hS.bk 0 rfl) (l := (ints r)) (drop_take_all _ _ (by simp only [ints, List.length_map]; omega)) (by simp only [ints, List.length_map]; omega)) hS rfl)
   refine ⟨fun a w hA hS hd => ?_, ?_⟩
   ·skip
    have e3 := has_ev (hd 3 (by decide)) rfl (fun _ h => h)
    have e4 := has_ev (hd 4 (by decide)) rfl (fun _ h => h)
    exact opG_of rfl (dv (op_lookupAt hS rfl un_117 ze_4 (tmp_ev e3) (tmp_ev e4) (i := 1) rfl (keyOk_ints un_104 un_3 ty_3 (KA_keys rs) r hr3)) hS rfl)
   refine ⟨fun a w hA hS hd => ?_, ?_⟩
   ·skip
    have e5 := has_ev (hd 5 (by decide)) rfl (fun _ h => h)
    exact opG_of rfl (dv (op_move rfl (tmp_ev e5)) hS rfl)
   refine ⟨fun a w hA hS hd => ?_, ?_⟩
   ·skip
    have e6 := has_ev (hd 6 (by decide)) rfl (fun _ h => h)
    exact opG_of rfl (dv (op_extract rfl (tmp_ev e6) rfl) hS rfl)
   refine ⟨fun a w hA hS hd => ?_, ?_⟩
   ·skip
    have e6 := has_ev (hd 6 (by decide)) rfl (fun _ h => h)
    exact opG_of rfl (dv (op_extract rfl (tmp_ev e6) rfl) hS rfl)
   refine ⟨fun a w hA hS hd => ?_, ?_⟩
   ·skip
    have e7 := has_ev (hd 7 (by decide)) rfl (fun _ h => h)
    exact opG_of rfl (dv (op_assign rfl (tmp_ev e7)) hS rfl)
   trivial
  intro a122 w123 hA124 hS125 hH126; clear hA121 hS10
  have hA128 := hA124.add (has_ev (hH126 8 (by decide)) rfl (fun _ h => h)); clear hA124
  have hA129 := hA128.add (has_ev (hH126 9 (by decide)) rfl (fun _ h => h)); clear hA128
  clear hH126
  refine st hA129 (op_assign rfl (hA129.ev rfl)) rfl rfl (by decide) fun a130 hA131 => ?_; clear hA129 a122
  refine wl_nil ?_
  refine then_n ?_
  refine c_seq ?_
  refine c_seq ?_
  have hS132 := memo_back hS125 (i := 1) rfl; clear hS125
  refine c_region ?_
  refine st hA131 (op_move rfl (hA131.ev rfl)) rfl rfl (by decide) fun a133 hA134 => ?_; clear hA131 a130
  refine wl_nil ?_
  refine then_n ?_
  refine c_true hA134 rfl ?_
  refine c_seq ?_
  refine c_region ?_
  refine st hA134 (op_move rfl (hA134.ev rfl)) rfl rfl (by decide) fun a135 hA136 => ?_; clear hA134 a133
  refine st hA136 (op_assign rfl (hA136.ev rfl)) rfl rfl (by decide) fun a137 hA138 => ?_; clear hA136 a135
  refine wl_nil ?_
  refine then_n ?_
  refine c_ret ?_
  refine then_ret ?_
  refine ng_ret ?_
  refine fin_run hA138 (.inl rfl) (run_results1 hA138 rfl (.tmp rfl)) ?_
  exact ⟨rfl, hS132.ext, hS132.ok 1 _ rfl⟩

end Go.Proofs.Ytkkglkdnnfegkaa

namespace Go.Proofs.Ytkkglkdnnfegkaa
open Go.RowKit Go.Shelf Go.Eng
theorem ty_97 : tyK Try.prog 97 = some (false, 1) := by kernel_rfl
theorem fd_119_0 : fldK Try.prog 119 0 = some 0 := by kernel_rfl
theorem ze_104 : (Try.prog.info? 104).bind (·.zero) = some (Value.agg #[(Value.int .i64 0), (Value.int .i64 0), (Value.int .i64 0)]) := by kernel_rfl
theorem en_68 : ∀ args w, (callFunc 68 args).run Try.prog w = .ok (.enter 68 args) w := enters_of Try.func68 (by kernel_rfl) rfl
theorem every_ok (bj : Nat) (w : World) :
  Calls Try.prog 54 #[(bptr bj 0)] w (Ret fun v w' => ∃ bx, v = .func (.func 78) #[] #[bptr bx 0] ∧ Sep NoB w w' [blk bx 97 [bptr bj 0]]) := by
 refine calls_enter Try.func54 rfl fun a0 hA0 => ?_
 replace hA0 : Fr 4 [] [(0, (bptr bj 0))] a0 := hA0
 have hS0 : Sep NoB w w [] := Sep.start _ _
 refine c_seq ?_
 refine c_region ?_
 refine stw hA0 (op_box hS0 rfl (hA0.ev rfl) (cs := [(bptr bj 0)]) rfl) rfl rfl (by decide) ?_
 rintro a1 _ w3 ⟨b4, rfl, hS5⟩ hA2; clear hA0 hS0 a0
 refine st hA2 (op_assign rfl (evc _ _)) rfl rfl (by decide) fun a6 hA7 => ?_; clear hA2 a1
 refine wl_nil ?_
 refine then_n ?_
 refine c_seq ?_
 refine c_region ?_
 refine st hA7 (op_makeFunc rfl ev0 (ev1 (hA7.ev rfl))) rfl rfl (by decide) fun a8 hA9 => ?_; clear hA7 a6
 refine st hA9 (op_assign rfl (hA9.ev rfl)) rfl rfl (by decide) fun a10 hA11 => ?_; clear hA9 a8
 refine wl_nil ?_
 refine then_n ?_
 refine c_ret ?_
 refine fin_run hA11 (.inl rfl) (run_results1 hA11 rfl (.tmp rfl)) ?_
 exact ⟨_, rfl, hS5⟩

theorem every_it (bx bj bm : Nat) (R : List (Int × Int)) (rs : List RunD) (lv : List Value) (vr vu : Value) (n : Nat) (hn : n ≤ 3) (hR : MatV R) (hV : RunsV n rs) (hl : lv.length = rs.length) :
  IterG Try.prog 78 #[bptr bx 0] (memo bm (KA rs)) [(rob bx 97 [(bptr bj 0)]), (rob bj 119 [vr, vu, (Value.map (some bm))]), (sl vr 2 R.length (pairs R)), (sl vu 3 rs.length (vtrips (runV lv rs))), (segsR false lv rs)] (allowedF R rs).length (fun k => #[.agg (ints ((allowedF R rs).getD k [])).toArray]) := by
 intro l J Jx W hJ hJx hD hDx h0 hy
 refine calls_enterM Try.func78 rfl fun a0 hA0 => ?_
 replace hA0 : Fr 19 (marks []) [(0, (Value.func (.yield l) #[] #[])), (1, (bptr bx 0))] a0 := hA0
 have hS0 : Sep (memo bm (KA rs)).S W W [(marksR []), (memo bm (KA rs)), (rob bx 97 [(bptr bj 0)]), (rob bj 119 [vr, vu, (Value.map (some bm))]), (sl vr 2 R.length (pairs R)), (sl vu 3 rs.length (vtrips (runV lv rs))), (segsR false lv rs)] := sep_marks (hD _ _ _ h0).2
 refine c_seq ?_
 refine c_region ?_
 refine stw hA0 (op_box hS0 rfl (hA0.ev rfl) (cs := [(Value.func (.yield l) #[] #[])]) rfl) rfl rfl (by decide) ?_
 rintro a1 _ w3 ⟨b4, rfl, hS5⟩ hA2; clear hA0 hS0 a0
 refine wl_nil ?_
 refine then_n ?_
 refine c_seq ?_
 refine c_region ?_
 refine st hA2 (op_load1 rfl ty_97 (hA2.ev rfl) (hS5.rk 3 rfl) rfl) rfl rfl (by decide) fun a6 hA7 => ?_; clear hA2 a1
 refine st hA7 (op_nilCheck rfl (hA7.ev rfl)) rfl rfl (by decide) fun a8 hA9 => ?_; clear hA7 a6
 refine st hA9 (op_field rfl fd_119_0 (hA9.ev rfl)) rfl rfl (by decide) fun a10 hA11 => ?_; clear hA9 a8
 refine st hA11 (op_loadA rfl ty_33 (hA11.ev rfl) (hS5.rk 4 rfl) (l := [vr]) rfl rfl) rfl rfl (by decide) fun a12 hA13 => ?_; clear hA11 a10
 refine stw hA13 (op_call rfl en_65 (ev1 (hA13.ev rfl)) (lists_ok _ _)) rfl rfl (by decide) ?_
 rintro a14 _ w16 ⟨bl19, rfl, hT17⟩ hA15; have hS18 := hS5.callS hT17 rfl; clear hT17 hA13 hS5 a12
 refine wl_nil ?_
 refine then_n ?_
 refine c_block ?_
 have hA20 := hA15.as [(8, (Value.func (.func 87) #[] #[(bptr bl19 0)])), (2, (bptr b4 0)), (1, (bptr bx 0))] rfl; clear hA15
 have hS21 := hS18.nilR; clear hS18
 have hS22 : Sep (memo bm (KA rs)).S W w16 [(marksR []), nilR, (blk b4 115 [(Value.func (.yield l) #[] #[])]), (blk bl19 33 [vr]), (memo bm (KA rs)), (rob bx 97 [(bptr bj 0)]), (rob bj 119 [vr, vu, (Value.map (some bm))]), (sl vr 2 R.length (pairs R)), (sl vu 3 rs.length (vtrips (runV lv rs))), (segsR false lv rs)] := hS21.keep [3, 0, 2, 1, 4, 5, 6, 7, 8, 9] (by decide) _ rfl rfl; clear hS21
 have hj23 := hJ _ _ _ _ _ h0 (Sep.pack (A := [(marksR []), nilR, (blk b4 115 [(Value.func (.yield l) #[] #[])]), (blk bl19 33 [vr]), (memo bm (KA rs))]) (L := [(rob bx 97 [(bptr bj 0)]), (rob bj 119 [vr, vu, (Value.map (some bm))]), (sl vr 2 R.length (pairs R)), (sl vu 3 rs.length (vtrips (runV lv rs))), (segsR false lv rs)]) hS22 (own_c rfl (own_c rfl (own_c rfl (own_c rfl (own_c rfl own_n)))))).one rfl
 refine c_rangeJ hJ hJx hD hDx hA20 nilR rfl [(blk b4 115 [(Value.func (.yield l) #[] #[])]), (blk bl19 33 [vr]), (memo bm (KA rs))] 0 hj23 (hA20.ev rfl) en_87 (listsF R).length (fun q => #[.agg (ints ((listsF R).getD q [])).toArray]) (fun _ => rfl) [rob bl19 33 [vr], sl vr 2 R.length (pairs R)] (fun r hr => by simp only [List.mem_cons, List.not_mem_nil, or_false] at hr; rcases hr with rfl | rfl <;> rfl) (lists_it bl19 vr R hR _ rfl) (fun q c_ L_ => c_ = (fUpto (allowB rs) (listsF R) q).length ∧ L_ = [(blk b4 115 [(Value.func (.yield l) #[] #[])]), (blk bl19 33 [vr]), (memo bm (KA rs))]) (fun _ L_ => L_ = [(blk b4 115 [(Value.func (.yield l) #[] #[])]), (blk bl19 33 [vr]), (memo bm (KA rs))]) (fun q c_ L_ hI_ => by obtain ⟨rfl, rfl⟩ := hI_; exact (own_c rfl (own_c rfl (own_c rfl own_n)))) (fun c_ L_ hI_ => by subst hI_; exact (own_c rfl (own_c rfl (own_c rfl own_n)))) (some .ret) ⟨rfl, rfl⟩ (fun q c_ L_ hI_ X_ W_ G_ r1_ r2_ hS_ => by obtain ⟨rfl, rfl⟩ := hI_; exact Sep.keep (hS_.to_ro (i := 4) rfl) [2, 4, 8] (by decide) _ rfl rfl) (fun c_ L_ hI_ X_ W_ G_ r1_ r2_ hS_ => by subst hI_; exact Sep.keep (hS_.to_ro (i := 4) rfl) [2, 4, 8] (by decide) _ rfl rfl) ?_ ?_ ?_
 ·skip
  intro q hq c_ L_ hI_ G31 hG32 l28 D29 rc30 a24 w25 ha27 hj33; obtain ⟨rfl, rfl⟩ := hI_
  have hA26 : Fr 19 [] [(9, (Value.agg (ints ((listsF R).getD q [])).toArray)), (8, (Value.func (.func 87) #[] #[(bptr bl19 0)])), (2, (bptr b4 0)), (1, (bptr bx 0))] a24 := by rw [ha27]; exact Fr.round1 hA20 (by decide)
  clear ha27 hS22 hj23
  have hS34 : Sep (allR [(obR l28 (.loop (rc30 .ready none))), (marksR (D29 :: [])), G31, (blk b4 115 [(Value.func (.yield l) #[] #[])]), (blk bl19 33 [vr]), (memo bm (KA rs))]).S w25 w25 [(obR l28 (.loop (rc30 .ready none))), (marksR (D29 :: [])), G31, (blk b4 115 [(Value.func (.yield l) #[] #[])]), (blk bl19 33 [vr]), (memo bm (KA rs)), (rob bx 97 [(bptr bj 0)]), (rob bj 119 [vr, vu, (Value.map (some bm))]), (sl vr 2 R.length (pairs R)), (sl vu 3 rs.length (vtrips (runV lv rs))), (segsR false lv rs)] := jU hD hj33
  refine c_region ?_
  refine stw hA26 (op_alloc hS34 rfl ze_104 (cs := [(Value.int .i64 0), (Value.int .i64 0), (Value.int .i64 0)]) rfl) rfl rfl (by decide) ?_
  rintro a35 _ w37 ⟨b38, rfl, hS39⟩ hA36; clear hA26 hS34 a24
  refine sts hA36 (op_store hS39 rfl ty_104 (hA36.ev rfl) (hA36.ev rfl) (i := 0) rfl (vs := (ints ((listsF R).getD q []))) rfl (lists_len3 hR hq).symm (ints_one _) (by decide)) rfl rfl ?_
  intro _ w40 hS41 hA43; have hS42 := hS41.blk_say (i := 0) rfl (cs' := (ints ((listsF R).getD q []))) (setFrom_all _ _ (Eq.symm (lists_len3 hR hq).symm)); clear hS41 hA36 hS39
  refine wl_nil ?_
  have hS44 : Sep (allR [(obR l28 (.loop (rc30 .ready none))), (marksR (D29 :: [])), G31, (blk b4 115 [(Value.func (.yield l) #[] #[])]), (blk bl19 33 [vr]), (memo bm (KA rs))]).S w25 w40 [(obR l28 (.loop (rc30 .ready none))), (marksR (D29 :: [])), G31, (blk b4 115 [(Value.func (.yield l) #[] #[])]), (blk bl19 33 [vr]), (memo bm (KA rs)), (blk b38 104 (ints ((listsF R).getD q []))), (rob bx 97 [(bptr bj 0)]), (rob bj 119 [vr, vu, (Value.map (some bm))]), (sl vr 2 R.length (pairs R)), (sl vu 3 rs.length (vtrips (runV lv rs))), (segsR false lv rs)] := hS42.keep [1, 2, 3, 4, 5, 6, 0, 7, 8, 9, 10, 11] (by decide) _ rfl rfl; clear hS42
  have hj45 := hJ _ _ _ _ _ hj33 (Sep.pack (A := [(obR l28 (.loop (rc30 .ready none))), (marksR (D29 :: [])), G31, (blk b4 115 [(Value.func (.yield l) #[] #[])]), (blk bl19 33 [vr]), (memo bm (KA rs)), (blk b38 104 (ints ((listsF R).getD q [])))]) (L := [(rob bx 97 [(bptr bj 0)]), (rob bj 119 [vr, vu, (Value.map (some bm))]), (sl vr 2 R.length (pairs R)), (sl vu 3 rs.length (vtrips (runV lv rs))), (segsR false lv rs)]) hS44 (own_c rfl (own_c rfl (own_c hG32 (own_c rfl (own_c rfl (own_c rfl (own_c rfl own_n)))))))).one rfl
  refine ⟨rfl, [G31, (blk b4 115 [(Value.func (.yield l) #[] #[])]), (blk bl19 33 [vr]), (memo bm (KA rs)), (blk b38 104 (ints ((listsF R).getD q [])))], (own_c hG32 (own_c rfl (own_c rfl (own_c rfl (own_c rfl own_n))))), hj45, ?_⟩; intro w46 hj47; clear hS44
  have hS48 : Sep (allR [(obR l28 (.loop (rc30 .busy none))), (marksR (D29 :: [])), G31, (blk b4 115 [(Value.func (.yield l) #[] #[])]), (blk bl19 33 [vr]), (memo bm (KA rs)), (blk b38 104 (ints ((listsF R).getD q [])))]).S w46 w46 [(obR l28 (.loop (rc30 .busy none))), (marksR (D29 :: [])), G31, (blk b4 115 [(Value.func (.yield l) #[] #[])]), (blk bl19 33 [vr]), (memo bm (KA rs)), (blk b38 104 (ints ((listsF R).getD q []))), (rob bx 97 [(bptr bj 0)]), (rob bj 119 [vr, vu, (Value.map (some bm))]), (sl vr 2 R.length (pairs R)), (sl vu 3 rs.length (vtrips (runV lv rs))), (segsR false lv rs)] := jU hD hj47
  refine c_block ?_
  refine c_seq ?_
  refine c_region ?_
  refine st hA43 (op_load1 rfl ty_97 (hA43.ev rfl) (hS48.rk 7 rfl) rfl) rfl rfl (by decide) fun a49 hA50 => ?_; clear hA43 a35
  refine st hA50 (op_loadA rfl ty_104 (hA50.ev rfl) (hS48.bk 6 rfl) (l := (ints ((listsF R).getD q []))) (drop_take_all _ _ (lists_len3 hR hq).symm) (lists_len3 hR hq).symm) rfl rfl (by decide) fun a51 hA52 => ?_; clear hA50 a49
  refine stw hA52 (op_call rfl en_68 (ev2 (hA52.ev rfl) (hA52.ev rfl)) (allowed_ok _ bm ((listsF R).getD q []) R rs lv vr vu n _ hn (lists_rates hR hq) hV hl (hS48.lendM (i := 5) rfl [8, 9, 10, 11] ⟨rfl, by decide, hS48.rk 8 rfl, ⟨_, rfl, fun _ hz => hz⟩, rfl, by decide, hS48.sk 9 rfl, ⟨_, rfl, fun _ hz => hz⟩, rfl, by decide, hS48.sk 10 rfl, ⟨_, rfl, fun _ hz => hz⟩, rfl, by decide, hS48.ok 11 _ rfl, ⟨_, rfl, fun _ hz => hz⟩, trivial⟩))) rfl rfl (by decide) ?_
  rintro a53 _ w55 ⟨rfl, hE56, hM57⟩ hA54; have hS58 := hS48.updM (i := 5) rfl hE56 hM57; clear hE56 hM57 hA52 hS48 a51
  refine st hA54 (op_move rfl (hA54.ev rfl)) rfl rfl (by decide) fun a59 hA60 => ?_; clear hA54 a53
  rcases Bool.eq_false_or_eq_true ((allowB rs ((listsF R).getD q []))) with hb61 | hb61
  ·skip
   rw [hb61] at hA60
   refine stg hA60 (op_load1 rfl ty_115 (hA60.ev rfl) (hS58.bk 3 rfl) rfl) rfl rfl rfl rfl (by decide) fun a62 hA63 => ?_; clear hA60 a59
   refine stg hA63 (op_loadA rfl ty_104 (hA63.ev rfl) (hS58.bk 6 rfl) (l := (ints ((listsF R).getD q []))) (drop_take_all _ _ (lists_len3 hR hq).symm) (lists_len3 hR hq).symm) rfl rfl rfl rfl (by decide) fun a64 hA65 => ?_; clear hA63 a62
   have hj66 := hJ _ _ _ _ _ hj47 (Sep.pack (A := [(obR l28 (.loop (rc30 .busy none))), (marksR (D29 :: [])), G31, (blk b4 115 [(Value.func (.yield l) #[] #[])]), (blk bl19 33 [vr]), (memo bm (KA rs)), (blk b38 104 (ints ((listsF R).getD q [])))]) (L := [(rob bx 97 [(bptr bj 0)]), (rob bj 119 [vr, vu, (Value.map (some bm))]), (sl vr 2 R.length (pairs R)), (sl vu 3 rs.length (vtrips (runV lv rs))), (segsR false lv rs)]) hS58 (own_c rfl (own_c rfl (own_c hG32 (own_c rfl (own_c rfl (own_c rfl (own_c rfl own_n)))))))).one rfl
   have hy67 := fUpto_yes (l := listsF R) hq [] (p := allowB rs) (by assumption)
   refine stwg hA65 (op_yield rfl (hA65.ev rfl) (ev1 (hA65.ev rfl)) (by have hz := hy _ hy67.1 _ _ hj66; dsimp only at hz; rw [show (allowedF R rs).getD _ [] = _ from hy67.2.1] at hz; exact hz)) rfl rfl rfl rfl (by decide) ?_
   rintro a68 v72 w70 hv71 hA69; clear hA65 hS58 a64
   rcases hv71 with ⟨rfl, hj73⟩ | ⟨rfl, hj73⟩
   ·skip
    have hS74 : Sep (allR [(obR l28 (.loop (rc30 .busy none))), (marksR (D29 :: [])), G31, (blk b4 115 [(Value.func (.yield l) #[] #[])]), (blk bl19 33 [vr]), (memo bm (KA rs)), (blk b38 104 (ints ((listsF R).getD q [])))]).S w70 w70 [(obR l28 (.loop (rc30 .busy none))), (marksR (D29 :: [])), G31, (blk b4 115 [(Value.func (.yield l) #[] #[])]), (blk bl19 33 [vr]), (memo bm (KA rs)), (blk b38 104 (ints ((listsF R).getD q []))), (rob bx 97 [(bptr bj 0)]), (rob bj 119 [vr, vu, (Value.map (some bm))]), (sl vr 2 R.length (pairs R)), (sl vu 3 rs.length (vtrips (runV lv rs))), (segsR false lv rs)] := jU hD hj73
    refine stg hA69 (op_not rfl (hA69.ev rfl)) rfl rfl rfl rfl (by decide) fun a75 hA76 => ?_; clear hA69 a68
    refine st hA76 (op_pick_t rfl (hA76.ev rfl) (hA76.ev rfl)) rfl rfl (by decide) fun a77 hA78 => ?_; clear hA76 a75
    refine wl_nil ?_
    refine then_n ?_
    refine c_false hA78 rfl ?_
    refine c_skip ?_
    refine blk_n ?_
    have hS79 : Sep (allR [(obR l28 (.loop (rc30 .busy none))), (marksR (D29 :: [])), G31, (blk b4 115 [(Value.func (.yield l) #[] #[])]), (blk bl19 33 [vr]), (memo bm (KA rs)), (blk b38 104 (ints ((listsF R).getD q [])))]).S w70 w70 [(obR l28 (.loop (rc30 .busy none))), (marksR (D29 :: [])), G31, (blk b4 115 [(Value.func (.yield l) #[] #[])]), (blk bl19 33 [vr]), (memo bm (KA rs)), (rob bx 97 [(bptr bj 0)]), (rob bj 119 [vr, vu, (Value.map (some bm))]), (sl vr 2 R.length (pairs R)), (sl vu 3 rs.length (vtrips (runV lv rs))), (segsR false lv rs)] := hS74.keep [0, 1, 2, 3, 4, 5, 7, 8, 9, 10, 11] (by decide) _ rfl rfl; clear hS74
    have hj80 := hJ _ _ _ _ _ hj73 (Sep.pack (A := [(obR l28 (.loop (rc30 .busy none))), (marksR (D29 :: [])), G31, (blk b4 115 [(Value.func (.yield l) #[] #[])]), (blk bl19 33 [vr]), (memo bm (KA rs))]) (L := [(rob bx 97 [(bptr bj 0)]), (rob bj 119 [vr, vu, (Value.map (some bm))]), (sl vr 2 R.length (pairs R)), (sl vu 3 rs.length (vtrips (runV lv rs))), (segsR false lv rs)]) hS79 (own_c rfl (own_c rfl (own_c hG32 (own_c rfl (own_c rfl (own_c rfl own_n))))))).one rfl
    exact rj_n ⟨hy67.2.2.symm, rfl⟩ hj80
   ·skip
    have hS81 : Sep (allR [(obR l28 (.loop (rc30 .busy none))), (marksR (D29 :: [])), G31, (blk b4 115 [(Value.func (.yield l) #[] #[])]), (blk bl19 33 [vr]), (memo bm (KA rs)), (blk b38 104 (ints ((listsF R).getD q [])))]).S w70 w70 [(obR l28 (.loop (rc30 .busy none))), (marksR (D29 :: [])), G31, (blk b4 115 [(Value.func (.yield l) #[] #[])]), (blk bl19 33 [vr]), (memo bm (KA rs)), (blk b38 104 (ints ((listsF R).getD q []))), (rob bx 97 [(bptr bj 0)]), (rob bj 119 [vr, vu, (Value.map (some bm))]), (sl vr 2 R.length (pairs R)), (sl vu 3 rs.length (vtrips (runV lv rs))), (segsR false lv rs)] := jU hDx hj73
    refine stg hA69 (op_not rfl (hA69.ev rfl)) rfl rfl rfl rfl (by decide) fun a82 hA83 => ?_; clear hA69 a68
    refine st hA83 (op_pick_t rfl (hA83.ev rfl) (hA83.ev rfl)) rfl rfl (by decide) fun a84 hA85 => ?_; clear hA83 a82
    refine wl_nil ?_
    refine then_n ?_
    refine c_true hA85 rfl ?_
    refine c_ret ?_
    refine blk_ret ?_
    have hS86 : Sep (allR [(obR l28 (.loop (rc30 .busy none))), (marksR (D29 :: [])), G31, (blk b4 115 [(Value.func (.yield l) #[] #[])]), (blk bl19 33 [vr]), (memo bm (KA rs)), (blk b38 104 (ints ((listsF R).getD q [])))]).S w70 w70 [(obR l28 (.loop (rc30 .busy none))), (marksR (D29 :: [])), G31, (blk b4 115 [(Value.func (.yield l) #[] #[])]), (blk bl19 33 [vr]), (memo bm (KA rs)), (rob bx 97 [(bptr bj 0)]), (rob bj 119 [vr, vu, (Value.map (some bm))]), (sl vr 2 R.length (pairs R)), (sl vu 3 rs.length (vtrips (runV lv rs))), (segsR false lv rs)] := hS81.keep [0, 1, 2, 3, 4, 5, 7, 8, 9, 10, 11] (by decide) _ rfl rfl; clear hS81
    have hj87 := hJx _ _ _ _ _ hj73 (Sep.pack (A := [(obR l28 (.loop (rc30 .busy none))), (marksR (D29 :: [])), G31, (blk b4 115 [(Value.func (.yield l) #[] #[])]), (blk bl19 33 [vr]), (memo bm (KA rs))]) (L := [(rob bx 97 [(bptr bj 0)]), (rob bj 119 [vr, vu, (Value.map (some bm))]), (sl vr 2 R.length (pairs R)), (sl vu 3 rs.length (vtrips (runV lv rs))), (segsR false lv rs)]) hS86 (own_c rfl (own_c rfl (own_c hG32 (own_c rfl (own_c rfl (own_c rfl own_n))))))).one rfl
    exact rj_ret rfl rfl hj87
  ·skip
   rw [hb61] at hA60
   refine skp hA60 rfl rfl rfl rfl rfl (by decide) fun a88 hA89 => ?_; clear hA60 a59
   refine skp hA89 rfl rfl rfl rfl rfl (by decide) fun a90 hA91 => ?_; clear hA89 a88
   refine skp hA91 rfl rfl rfl rfl rfl (by decide) fun a92 hA93 => ?_; clear hA91 a90
   refine skp hA93 rfl rfl rfl rfl rfl (by decide) fun a94 hA95 => ?_; clear hA93 a92
   refine st hA95 (op_pick_f rfl (hA95.ev rfl) (evc _ _)) rfl rfl (by decide) fun a96 hA97 => ?_; clear hA95 a94
   refine wl_nil ?_
   refine then_n ?_
   refine c_false hA97 rfl ?_
   refine c_skip ?_
   refine blk_n ?_
   have hS98 : Sep (allR [(obR l28 (.loop (rc30 .busy none))), (marksR (D29 :: [])), G31, (blk b4 115 [(Value.func (.yield l) #[] #[])]), (blk bl19 33 [vr]), (memo bm (KA rs)), (blk b38 104 (ints ((listsF R).getD q [])))]).S w46 w55 [(obR l28 (.loop (rc30 .busy none))), (marksR (D29 :: [])), G31, (blk b4 115 [(Value.func (.yield l) #[] #[])]), (blk bl19 33 [vr]), (memo bm (KA rs)), (rob bx 97 [(bptr bj 0)]), (rob bj 119 [vr, vu, (Value.map (some bm))]), (sl vr 2 R.length (pairs R)), (sl vu 3 rs.length (vtrips (runV lv rs))), (segsR false lv rs)] := hS58.keep [0, 1, 2, 3, 4, 5, 7, 8, 9, 10, 11] (by decide) _ rfl rfl; clear hS58
   have hj99 := hJ _ _ _ _ _ hj47 (Sep.pack (A := [(obR l28 (.loop (rc30 .busy none))), (marksR (D29 :: [])), G31, (blk b4 115 [(Value.func (.yield l) #[] #[])]), (blk bl19 33 [vr]), (memo bm (KA rs))]) (L := [(rob bx 97 [(bptr bj 0)]), (rob bj 119 [vr, vu, (Value.map (some bm))]), (sl vr 2 R.length (pairs R)), (sl vu 3 rs.length (vtrips (runV lv rs))), (segsR false lv rs)]) hS98 (own_c rfl (own_c rfl (own_c hG32 (own_c rfl (own_c rfl (own_c rfl own_n))))))).one rfl
   exact rj_n ⟨(by rw [fUpto_no (l := listsF R) hq [] (by assumption)]), rfl⟩ hj99
 ·skip
  intro c_ L_ hI_ D103 a100 w101 hA102 hj104; obtain ⟨rfl, rfl⟩ := hI_; clear hA20 hS22 hj23
  have hS105 : Sep (allR [(marksR (D103 :: [])), nilR, (blk b4 115 [(Value.func (.yield l) #[] #[])]), (blk bl19 33 [vr]), (memo bm (KA rs))]).S w101 w101 [(marksR (D103 :: [])), nilR, (blk b4 115 [(Value.func (.yield l) #[] #[])]), (blk bl19 33 [vr]), (memo bm (KA rs)), (rob bx 97 [(bptr bj 0)]), (rob bj 119 [vr, vu, (Value.map (some bm))]), (sl vr 2 R.length (pairs R)), (sl vu 3 rs.length (vtrips (runV lv rs))), (segsR false lv rs)] := jU hD hj104
  refine blk_n ?_
  refine fin_runM hA102 (.inr rfl) hS105 ?_
  intro w106 hS107; clear hS105
  refine ⟨_, (run_results0 rfl _), ?_⟩
  exact .inl (by rw [show (allowedF R rs).length = (fUpto (allowB rs) (listsF R) (listsF R).length).length by rw [fUpto_all]; rfl]; exact hJ _ _ _ _ _ hj104 (Sep.keep hS107 [3] (by decide) _ rfl rfl) rfl)
 ·skip
  intro c_ hc_; cases hc_
  intro c_ L_ hI_ D111 a108 w109 hA110 hj112; subst hI_; clear hA20 hS22 hj23
  have hS113 : Sep (allR [(marksR (D111 :: [])), nilR, (blk b4 115 [(Value.func (.yield l) #[] #[])]), (blk bl19 33 [vr]), (memo bm (KA rs))]).S w109 w109 [(marksR (D111 :: [])), nilR, (blk b4 115 [(Value.func (.yield l) #[] #[])]), (blk bl19 33 [vr]), (memo bm (KA rs)), (rob bx 97 [(bptr bj 0)]), (rob bj 119 [vr, vu, (Value.map (some bm))]), (sl vr 2 R.length (pairs R)), (sl vu 3 rs.length (vtrips (runV lv rs))), (segsR false lv rs)] := jU hDx hj112
  refine c_ret ?_
  refine blk_ret ?_
  refine fin_runM hA110 (.inl rfl) hS113 ?_
  intro w114 hS115; clear hS113
  refine ⟨_, (run_results0 rfl _), ?_⟩
  exact .inr ⟨_, hJx _ _ _ _ _ hj112 (Sep.keep hS115 [3] (by decide) _ rfl rfl) rfl⟩

end Go.Proofs.Ytkkglkdnnfegkaa

namespace Go.Proofs.Ytkkglkdnnfegkaa
open Go.RowKit Go.Shelf Go.Eng
theorem en_37 : ∀ args w, (callFunc 37 args).run Try.prog w = .ok (.enter 37 args) w := enters_of Try.func37 (by kernel_rfl) rfl
theorem en_90 : ∀ args w, (callFunc 90 args).run Try.prog w = .ok (.enter 90 args) w := enters_of Try.func90 (by kernel_rfl) rfl
theorem en_89 : ∀ args w, (callFunc 89 args).run Try.prog w = .ok (.enter 89 args) w := enters_of Try.func89 (by kernel_rfl) rfl
theorem en_91 : ∀ args w, (callFunc 91 args).run Try.prog w = .ok (.enter 91 args) w := enters_of Try.func91 (by kernel_rfl) rfl
theorem bd_119_0va_1s_2m (x0_0 : Value) (x1_0 : Value) (hx1_0 : IsSl x1_0) (x2_0 : Option Nat) (w : World) : (Instr.build 119 #[(0, .agg #[x0_0]), (1, x1_0), (2, (.map x2_0))]).run Try.prog w = .ok (.agg #[x0_0, x1_0, (.map x2_0)]) w := by obtain ⟨Ax1_0, Bx1_0, Cx1_0, rfl⟩ := hx1_0; kernel_rfl
theorem enter_any (R : List (Int × Int)) (rs : List RunD) (lv : List Value) (vr vu : Value) (w : World) (hm : SlAt w vr 2 R.length (pairs R)) (hx : RunsAt w vu lv rs) (hlen : R.length ≤ 1000000) (hrl : rs.length ≤ 1000000) :
  Calls Try.prog 66 #[(Value.agg #[vr]), vu] w (Ret fun v w' => (enterF R rs ≠ 0 ∧ v = .tuple #[.pointer none, .int .i64 (enterF R rs)] ∧ Ext NoB w w') ∨ (enterF R rs = 0 ∧ ∃ bj bm, v = .tuple #[bptr bj 0, .int .i64 0] ∧ Sep NoB w w' [blk bj 119 [vr, vu, .map (some bm)], memo bm (KA rs)])) := by
 refine calls_enter Try.func66 rfl fun a0 hA0 => ?_
 replace hA0 : Fr 32 [] [(0, (Value.agg #[vr])), (1, vu)] a0 := hA0
 have hS0 : Sep NoB w w [(sl vr 2 R.length (pairs R)), (sl vu 3 rs.length (vtrips (runV lv rs))), (segsR false lv rs)] := sep_ro ⟨rfl, hm, rfl, hx.runs, rfl, ⟨hx.len, hx.segs⟩, trivial⟩
 refine c_seq ?_
 refine c_region ?_
 refine stw hA0 (op_box hS0 rfl (hA0.ev rfl) (cs := [vr]) rfl) rfl rfl (by decide) ?_
 rintro a1 _ w3 ⟨b4, rfl, hS5⟩ hA2; clear hA0 hS0 a0
 refine st hA2 (op_assign rfl (evc _ _)) rfl rfl (by decide) fun a6 hA7 => ?_; clear hA2 a1
 refine st hA7 (op_assign rfl (evc _ _)) rfl rfl (by decide) fun a8 hA9 => ?_; clear hA7 a6
 refine wl_nil ?_
 refine then_n ?_
 refine c_seq ?_
 refine c_seq ?_
 refine c_region ?_
 refine st hA9 (op_loadA rfl ty_33 (hA9.ev rfl) (hS5.bk 0 rfl) (l := [vr]) rfl rfl) rfl rfl (by decide) fun a10 hA11 => ?_; clear hA9 a8
 refine stw hA11 (op_call rfl en_37 (ev1 (hA11.ev rfl)) (check_ok R vr _ (hS5.sk 1 rfl) (by omega))) rfl rfl (by decide) ?_
 rintro a12 _ w14 ⟨rfl, hE15⟩ hA13; have hS16 := hS5.step hE15; clear hE15 hA11 hS5 a10
 refine st hA13 (op_assign rfl (hA13.ev rfl)) rfl rfl (by decide) fun a17 hA18 => ?_; clear hA13 a12
 refine wl_nil ?_
 refine then_n ?_
 refine c_seq ?_
 refine c_region ?_
 refine st hA18 (op_move rfl (hA18.ev rfl)) rfl rfl (by decide) fun a19 hA20 => ?_; clear hA18 a17
 refine st hA20 (op_neq rfl (hA20.ev rfl) (evc _ _)) rfl rfl (by decide) fun a21 hA22 => ?_; clear hA20 a19
 refine wl_nil ?_
 refine then_n ?_
 by_cases hb23 : (checkF R) = 0
 ·skip
  rw [decide_eq_true hb23] at hA22
  refine c_false hA22 rfl ?_
  refine c_skip ?_
  refine then_n ?_
  refine c_seq ?_
  refine c_block ?_
  refine c_seq ?_
  have hA24 := hA22.as [(2, (bptr b4 0)), (1, vu)] rfl; clear hA22
  refine c_region ?_
  refine st hA24 (op_move rfl (hA24.ev rfl)) rfl rfl (by decide) fun a25 hA26 => ?_; clear hA24 a21
  refine st hA26 (op_lenS rfl un_35 (hA26.ev rfl) (hS16.sk 2 rfl)) rfl rfl (by decide) fun a27 hA28 => ?_; clear hA26 a25
  refine st hA28 (op_gtr rfl (hA28.ev rfl) (evc _ _)) rfl rfl (by decide) fun a29 hA30 => ?_; clear hA28 a27
  refine st hA30 (op_move rfl (hA30.ev rfl)) rfl rfl (by decide) fun a31 hA32 => ?_; clear hA30 a29
  by_cases hb33 : 6 < (rs.length : Int)
  ·skip
   rw [decide_eq_true hb33] at hA32
   refine skp hA32 rfl rfl rfl rfl rfl (by decide) fun a34 hA35 => ?_; clear hA32 a31
   refine skp hA35 rfl rfl rfl rfl rfl (by decide) fun a36 hA37 => ?_; clear hA35 a34
   refine skp hA37 rfl rfl rfl rfl rfl (by decide) fun a38 hA39 => ?_; clear hA37 a36
   refine st hA39 (op_pick_t rfl (hA39.ev rfl) (evc _ _)) rfl rfl (by decide) fun a40 hA41 => ?_; clear hA39 a38
   refine st hA41 (op_assign rfl (hA41.ev rfl)) rfl rfl (by decide) fun a42 hA43 => ?_; clear hA41 a40
   refine wl_nil ?_
   refine then_n ?_
   refine c_true hA43 rfl ?_
   refine c_seq ?_
   have hA44 := hA43.as [] rfl; clear hA43
   refine c_region ?_
   refine st hA44 (op_assign rfl (evc _ _)) rfl rfl (by decide) fun a45 hA46 => ?_; clear hA44 a42
   refine st hA46 (op_assign rfl (evc _ _)) rfl rfl (by decide) fun a47 hA48 => ?_; clear hA46 a45
   refine wl_nil ?_
   refine then_n ?_
   refine c_ret ?_
   refine blk_ret ?_
   refine then_ret ?_
   refine fin_run hA48 (.inl rfl) (run_results2 hA48 rfl (.tmp rfl) (.tmp rfl)) ?_
   have hz := (show enterF R rs = 3 from by first | exact enter_3a (by assumption) (by omega) | exact enter_3b (by assumption) (by assumption))
   exact .inl ⟨(by rw [hz]; decide), by rw [hz], hS16.ext⟩
  ·skip
   rw [decide_eq_false hb33] at hA32
   refine stg hA32 (op_move rfl (hA32.ev rfl)) rfl rfl rfl rfl (by decide) fun a49 hA50 => ?_; clear hA32 a31
   refine stwg hA50 (op_call rfl en_89 (ev2 (hA50.ev rfl) (evf _ _)) (callsB (all_run rs lv hx.len _ 90 #[] #[] (fun i => decide (((rs.getD i run0).segs.length : Int) ≤ 8)) _ (hS16.sk 2 rfl) (by omega) ⟨en_90, fun i hi W hW => short_ok (rs.getD i run0) (lv.getD i nilS) W ((hx.step (hS16.ext.trans hW)).segs i hi)⟩ (fun i hi => SlAt.one (hx.segs i hi))) (shortB rs) rfl)) rfl rfl rfl rfl (by decide) ?_
   rintro a51 _ w53 ⟨rfl, hE54⟩ hA52; have hS55 := hS16.step hE54; clear hE54 hA50 hS16 a49
   refine stg hA52 (op_not rfl (hA52.ev rfl)) rfl rfl rfl rfl (by decide) fun a56 hA57 => ?_; clear hA52 a51
   refine st hA57 (op_pick_f rfl (hA57.ev rfl) (hA57.ev rfl)) rfl rfl (by decide) fun a58 hA59 => ?_; clear hA57 a56
   refine st hA59 (op_assign rfl (hA59.ev rfl)) rfl rfl (by decide) fun a60 hA61 => ?_; clear hA59 a58
   refine wl_nil ?_
   refine then_n ?_
   rcases Bool.eq_false_or_eq_true ((shortB rs)) with hb62 | hb62
   ·skip
    rw [hb62] at hA61
    have hshort : shortB rs = true := by assumption
    refine c_false hA61 rfl ?_
    refine c_seq ?_
    have hA63 := hA61.as [(2, (bptr b4 0)), (1, vu)] rfl; clear hA61
    refine c_region ?_
    refine st hA63 (op_move rfl (hA63.ev rfl)) rfl rfl (by decide) fun a64 hA65 => ?_; clear hA63 a60
    refine st hA65 (op_loadA rfl ty_33 (hA65.ev rfl) (hS55.bk 0 rfl) (l := [vr]) rfl rfl) rfl rfl (by decide) fun a66 hA67 => ?_; clear hA65 a64
    refine st hA67 (op_makeFunc rfl (ev1 (hA67.ev rfl)) ev0) rfl rfl (by decide) fun a68 hA69 => ?_; clear hA67 a66
    refine stw hA69 (op_call rfl en_89 (ev2 (hA69.ev rfl) (hA69.ev rfl)) (callsB (all_run rs lv hx.len _ 91 #[(Value.agg #[vr])] #[] (fun i => runB R.length (rs.getD i run0)) _ (hS55.sk 2 rfl) (by omega) ⟨en_91, fun i hi W hW => run_ok R vr (rs.getD i run0) (lv.getD i nilS) W (hm.step (hS55.ext.trans hW)) ((hx.step (hS55.ext.trans hW)).segs i hi) (by omega) (by have := short_at hshort hi; omega)⟩ (fun i hi => SlAt.one (hx.segs i hi))) (allRunB R rs) rfl)) rfl rfl (by decide) ?_
    rintro a70 _ w72 ⟨rfl, hE73⟩ hA71; have hS74 := hS55.step hE73; clear hE73 hA69 hS55 a68
    refine st hA71 (op_not rfl (hA71.ev rfl)) rfl rfl (by decide) fun a75 hA76 => ?_; clear hA71 a70
    refine st hA76 (op_assign rfl (hA76.ev rfl)) rfl rfl (by decide) fun a77 hA78 => ?_; clear hA76 a75
    refine wl_nil ?_
    refine then_n ?_
    rcases Bool.eq_false_or_eq_true ((allRunB R rs)) with hb79 | hb79
    ·skip
     rw [hb79] at hA78
     refine c_false hA78 rfl ?_
     refine c_skip ?_
     refine blk_n ?_
     refine then_n ?_
     refine c_seq ?_
     have hA80 := hA78.as [(2, (bptr b4 0)), (1, vu)] rfl; clear hA78
     refine c_region ?_
     refine st hA80 (op_loadA rfl ty_33 (hA80.ev rfl) (hS74.bk 0 rfl) (l := [vr]) rfl rfl) rfl rfl (by decide) fun a81 hA82 => ?_; clear hA80 a77
     refine st hA82 (op_move rfl (hA82.ev rfl)) rfl rfl (by decide) fun a83 hA84 => ?_; clear hA82 a81
     refine stw hA84 (op_makeMap hS74 (KA rs) rfl) rfl rfl (by decide) ?_
     rintro a85 _ w87 ⟨bm88, rfl, hS89⟩ hA86; clear hA84 hS74 a83
     refine st hA86 (op_build rfl (pv3 (hA86.ev rfl) (hA86.ev rfl) (hA86.ev rfl)) (bd_119_0va_1s_2m _ _ (SlAt.isSl (hS89.sk 3 rfl)) _)) rfl rfl (by decide) fun a90 hA91 => ?_; clear hA86 a85
     refine stw hA91 (op_box hS89 rfl (hA91.ev rfl) (cs := [vr, vu, (Value.map (some bm88))]) rfl) rfl rfl (by decide) ?_
     rintro a92 _ w94 ⟨b95, rfl, hS96⟩ hA93; clear hA91 hS89 a90
     refine st hA93 (op_assign rfl (hA93.ev rfl)) rfl rfl (by decide) fun a97 hA98 => ?_; clear hA93 a92
     refine st hA98 (op_assign rfl (evc _ _)) rfl rfl (by decide) fun a99 hA100 => ?_; clear hA98 a97
     refine wl_nil ?_
     refine then_n ?_
     refine c_ret ?_
     refine fin_run hA100 (.inl rfl) (run_results2 hA100 rfl (.tmp rfl) (.tmp rfl)) ?_
     exact .inr ⟨enter_0 (by assumption) (by omega) (by assumption) (by assumption), _, _, rfl, hS96.keep [0, 1] (by decide) _ rfl rfl⟩
    ·skip
     rw [hb79] at hA78
     refine c_true hA78 rfl ?_
     refine c_seq ?_
     have hA101 := hA78.as [] rfl; clear hA78
     refine c_region ?_
     refine st hA101 (op_assign rfl (evc _ _)) rfl rfl (by decide) fun a102 hA103 => ?_; clear hA101 a77
     refine st hA103 (op_assign rfl (evc _ _)) rfl rfl (by decide) fun a104 hA105 => ?_; clear hA103 a102
     refine wl_nil ?_
     refine then_n ?_
     refine c_ret ?_
     refine blk_ret ?_
     refine then_ret ?_
     refine fin_run hA105 (.inl rfl) (run_results2 hA105 rfl (.tmp rfl) (.tmp rfl)) ?_
     have hz := (enter_1 (R := R) (rs := rs) (by assumption) (by omega) (by assumption) (by assumption))
     exact .inl ⟨(by rw [hz]; decide), by rw [hz], hS74.ext⟩
   ·skip
    rw [hb62] at hA61
    refine c_true hA61 rfl ?_
    refine c_seq ?_
    have hA106 := hA61.as [] rfl; clear hA61
    refine c_region ?_
    refine st hA106 (op_assign rfl (evc _ _)) rfl rfl (by decide) fun a107 hA108 => ?_; clear hA106 a60
    refine st hA108 (op_assign rfl (evc _ _)) rfl rfl (by decide) fun a109 hA110 => ?_; clear hA108 a107
    refine wl_nil ?_
    refine then_n ?_
    refine c_ret ?_
    refine blk_ret ?_
    refine then_ret ?_
    refine fin_run hA110 (.inl rfl) (run_results2 hA110 rfl (.tmp rfl) (.tmp rfl)) ?_
    have hz := (show enterF R rs = 3 from by first | exact enter_3a (by assumption) (by omega) | exact enter_3b (by assumption) (by assumption))
    exact .inl ⟨(by rw [hz]; decide), by rw [hz], hS55.ext⟩
 ·skip
  rw [decide_eq_false hb23] at hA22
  refine c_true hA22 rfl ?_
  refine c_seq ?_
  have hA111 := hA22.as [(6, (Value.int .i64 (checkF R)))] rfl; clear hA22
  refine c_region ?_
  refine st hA111 (op_move rfl (hA111.ev rfl)) rfl rfl (by decide) fun a112 hA113 => ?_; clear hA111 a21
  refine st hA113 (op_assign rfl (evc _ _)) rfl rfl (by decide) fun a114 hA115 => ?_; clear hA113 a112
  refine st hA115 (op_assign rfl (hA115.ev rfl)) rfl rfl (by decide) fun a116 hA117 => ?_; clear hA115 a114
  refine wl_nil ?_
  refine then_n ?_
  refine c_ret ?_
  refine then_ret ?_
  refine fin_run hA117 (.inl rfl) (run_results2 hA117 rfl (.tmp rfl) (.tmp rfl)) ?_
  have hz := (enter_c (R := R) (rs := rs) (by assumption))
  exact .inl ⟨(by rw [hz]; assumption), by rw [hz], hS16.ext⟩

theorem enter_bad (R : List (Int × Int)) (rs : List RunD) (lv : List Value) (vr vu : Value) (w : World) (hm : SlAt w vr 2 R.length (pairs R)) (hx : RunsAt w vu lv rs) (hlen : R.length ≤ 1000000) (hrl : rs.length ≤ 1000000) (he : enterF R rs ≠ 0) : Calls Try.prog 66 #[.agg #[vr], vu] w (Ret fun v w' => v = .tuple #[.pointer none, .int .i64 (enterF R rs)] ∧ Ext NoB w w') :=
 (enter_any R rs lv vr vu w hm hx hlen hrl).mono (Ret.mono fun v w' h => by
  rcases h with ⟨_, h⟩ | ⟨h, _⟩
  ·exact h
  ·exact absurd h he)
theorem enter_ok (R : List (Int × Int)) (rs : List RunD) (lv : List Value) (vr vu : Value) (w : World) (hm : SlAt w vr 2 R.length (pairs R)) (hx : RunsAt w vu lv rs) (hlen : R.length ≤ 1000000) (hrl : rs.length ≤ 1000000) (he : enterF R rs = 0) : Calls Try.prog 66 #[.agg #[vr], vu] w (Ret fun v w' => ∃ bj bm, v = .tuple #[bptr bj 0, .int .i64 0] ∧ Sep NoB w w' [blk bj 119 [vr, vu, .map (some bm)], memo bm (KA rs)]) :=
 (enter_any R rs lv vr vu w hm hx hlen hrl).mono (Ret.mono fun v w' h => by
  rcases h with ⟨h, _⟩ | ⟨_, h⟩
  ·exact absurd he h
  ·exact h)

end Go.Proofs.Ytkkglkdnnfegkaa

namespace Go.Proofs.Ytkkglkdnnfegkaa
open Go.RowKit Go.Shelf Go.Eng
theorem ze_97 : (Try.prog.info? 97).bind (·.zero) = some (Value.pointer none) := by kernel_rfl
theorem en_66 : ∀ args w, (callFunc 66 args).run Try.prog w = .ok (.enter 66 args) w := enters_of Try.func66 (by kernel_rfl) rfl
theorem en_54 : ∀ args w, (callFunc 54 args).run Try.prog w = .ok (.enter 54 args) w := enters_of Try.func54 (by kernel_rfl) rfl
theorem en_78 : ∀ args w, (callFunc 78 args).run Try.prog w = .ok (.enter 78 args) w := enters_of Try.func78 (by kernel_rfl) rfl
theorem poss_e_ok (R : List (Int × Int)) (rs : List RunD) (lv : List Value) (vr vu : Value) (w : World) (hm : SlAt w vr 2 R.length (pairs R)) (hx : RunsAt w vu lv rs) (hlen : R.length ≤ 1000000) (hrl : rs.length ≤ 1000000) (he : enterF R rs ≠ 0) :
  Calls Try.prog 53 #[(Value.agg #[vr]), vu] w (Ret fun v w' => v = .tuple #[.pointer none, .int .i64 (enterF R rs)] ∧ Ext NoB w w') := by
 refine calls_enterM Try.func53 rfl fun a0 hA0 => ?_
 replace hA0 : Fr 21 (marks []) [(0, (Value.agg #[vr])), (1, vu)] a0 := hA0
 have hS0 : Sep NoB w w [(marksR []), (sl vr 2 R.length (pairs R)), (sl vu 3 rs.length (vtrips (runV lv rs))), (segsR false lv rs)] := sep_marks (sep_ro ⟨rfl, hm, rfl, hx.runs, rfl, ⟨hx.len, hx.segs⟩, trivial⟩)
 refine c_seq ?_
 refine c_region ?_
 refine stw hA0 (op_box hS0 rfl (hA0.ev rfl) (cs := [vr]) rfl) rfl rfl (by decide) ?_
 rintro a1 _ w3 ⟨b4, rfl, hS5⟩ hA2; clear hA0 hS0 a0
 refine stw hA2 (op_alloc hS5 rfl ze_97 (cs := [(Value.pointer none)]) rfl) rfl rfl (by decide) ?_
 rintro a6 _ w8 ⟨b9, rfl, hS10⟩ hA7; clear hA2 hS5 a1
 refine stw hA7 (op_alloc hS10 rfl ze_29 (cs := [(Value.int .i64 0)]) rfl) rfl rfl (by decide) ?_
 rintro a11 _ w13 ⟨b14, rfl, hS15⟩ hA12; clear hA7 hS10 a6
 refine wl_nil ?_
 refine then_n ?_
 refine c_seq ?_
 refine c_region ?_
 refine st hA12 (op_loadA rfl ty_33 (hA12.ev rfl) (hS15.bk 2 rfl) (l := [vr]) rfl rfl) rfl rfl (by decide) fun a16 hA17 => ?_; clear hA12 a11
 refine st hA17 (op_move rfl (hA17.ev rfl)) rfl rfl (by decide) fun a18 hA19 => ?_; clear hA17 a16
 refine stw hA19 (op_call rfl en_66 (ev2 (hA19.ev rfl) (hA19.ev rfl)) (enter_bad R rs lv vr vu _ (hm.step hS15.ext) (hx.step hS15.ext) (by omega) (by omega) he)) rfl rfl (by decide) ?_
 rintro a20 _ w22 ⟨rfl, hE23⟩ hA21; have hS24 := hS15.step hE23; clear hE23 hA19 hS15 a18
 refine st hA21 (op_move rfl (hA21.ev rfl)) rfl rfl (by decide) fun a25 hA26 => ?_; clear hA21 a20
 refine st hA26 (op_extract rfl (hA26.ev rfl) rfl) rfl rfl (by decide) fun a27 hA28 => ?_; clear hA26 a25
 refine st hA28 (op_extract rfl (hA28.ev rfl) rfl) rfl rfl (by decide) fun a29 hA30 => ?_; clear hA28 a27
 refine stw hA30 (op_alloc hS24 rfl ze_97 (cs := [(Value.pointer none)]) rfl) rfl rfl (by decide) ?_
 rintro a31 _ w33 ⟨b34, rfl, hS35⟩ hA32; clear hA30 hS24 a29
 refine sts hA32 (op_store hS35 rfl ty_97 (hA32.ev rfl) (hA32.ev rfl) (i := 0) rfl (vs := [(Value.pointer none)]) rfl rfl (all_c rfl all_n) (Nat.le_of_ble_eq_true rfl)) rfl rfl ?_
 intro _ w36 hS37 hA38; clear hA32
 have hS39 : Sep NoB w w36 [(blk b34 97 [(Value.pointer none)]), (blk b14 29 [(Value.int .i64 0)]), (blk b9 97 [(Value.pointer none)]), (blk b4 33 [vr]), (marksR []), (sl vr 2 R.length (pairs R)), (sl vu 3 rs.length (vtrips (runV lv rs))), (segsR false lv rs)] := hS37; clear hS37 hS35
 refine st hA38 (op_assign rfl (hA38.ev rfl)) rfl rfl (by decide) fun a40 hA41 => ?_; clear hA38 a31
 refine wl_nil ?_
 refine then_n ?_
 refine c_seq ?_
 refine c_seq ?_
 have hA42 := hA41.as [(7, (Value.int .i64 (enterF R rs))), (6, (bptr b34 0)), (5, (bptr b14 0)), (4, (bptr b9 0))] rfl; clear hA41
 refine c_region ?_
 refine st hA42 (op_move rfl (hA42.ev rfl)) rfl rfl (by decide) fun a43 hA44 => ?_; clear hA42 a40
 refine st hA44 (op_neq rfl (hA44.ev rfl) (evc _ _)) rfl rfl (by decide) fun a45 hA46 => ?_; clear hA44 a43
 have hd47 : ¬ ((enterF R rs) = 0) := he
 rw [decide_eq_false hd47] at hA46
 refine wl_nil ?_
 refine then_n ?_
 refine c_true hA46 rfl ?_
 refine c_seq ?_
 refine c_region ?_
 refine st hA46 (op_move rfl (hA46.ev rfl)) rfl rfl (by decide) fun a48 hA49 => ?_; clear hA46 a45
 refine sts hA49 (op_store hS39 rfl ty_97 (hA49.ev rfl) (evc _ _) (i := 2) rfl (vs := [(Value.pointer none)]) rfl rfl (all_c rfl all_n) (Nat.le_of_ble_eq_true rfl)) rfl rfl ?_
 intro _ w50 hS51 hA52; clear hA49
 have hS53 : Sep NoB w w50 [(blk b34 97 [(Value.pointer none)]), (blk b14 29 [(Value.int .i64 0)]), (blk b9 97 [(Value.pointer none)]), (blk b4 33 [vr]), (marksR []), (sl vr 2 R.length (pairs R)), (sl vu 3 rs.length (vtrips (runV lv rs))), (segsR false lv rs)] := hS51; clear hS51 hS39
 refine sts hA52 (op_store hS53 rfl ty_29 (hA52.ev rfl) (hA52.ev rfl) (i := 1) rfl (vs := [(Value.int .i64 (enterF R rs))]) rfl rfl rfl (Nat.le_of_ble_eq_true rfl)) rfl rfl ?_
 intro _ w54 hS55 hA56; clear hA52
 have hS57 : Sep NoB w w54 [(blk b34 97 [(Value.pointer none)]), (blk b14 29 [(Value.int .i64 (enterF R rs))]), (blk b9 97 [(Value.pointer none)]), (blk b4 33 [vr]), (marksR []), (sl vr 2 R.length (pairs R)), (sl vu 3 rs.length (vtrips (runV lv rs))), (segsR false lv rs)] := hS55; clear hS55 hS53
 refine wl_nil ?_
 refine then_n ?_
 refine c_ret ?_
 refine then_ret ?_
 have hS58 : Sep NoB w w54 [(marksR []), (blk b34 97 [(Value.pointer none)]), (blk b14 29 [(Value.int .i64 (enterF R rs))]), (blk b9 97 [(Value.pointer none)]), (blk b4 33 [vr]), (sl vr 2 R.length (pairs R)), (sl vu 3 rs.length (vtrips (runV lv rs))), (segsR false lv rs)] := hS57.keep [4, 0, 1, 2, 3, 5, 6, 7] (by decide) _ rfl rfl; clear hS57
 refine fin_runM hA56 (.inl rfl) hS58 ?_
 intro w59 hS60; clear hS58
 refine ⟨_, (run_results2 hA56 rfl (.cell1 rfl ty_97 (hS60.bk 2 rfl) rfl) (.cell1 rfl ty_29 (hS60.bk 1 rfl) rfl)), ?_⟩
 exact ⟨rfl, hS60.ext⟩

theorem poss_any (R : List (Int × Int)) (rs : List RunD) (lv : List Value) (vr vu : Value) (w : World) (hm : SlAt w vr 2 R.length (pairs R)) (hx : RunsAt w vu lv rs) (hlen : R.length ≤ 1000000) (hrl : rs.length ≤ 1000000) (he : enterF R rs = 0) :
  Calls Try.prog 53 #[(Value.agg #[vr]), vu] w (Ret fun v w' => (possF R rs = 9 ∧ v = .tuple #[.pointer none, .int .i64 9] ∧ Ext NoB w w') ∨ (possF R rs = 0 ∧ ∃ bj bm, v = .tuple #[bptr bj 0, .int .i64 0] ∧ Sep NoB w w' [blk bj 119 [vr, vu, .map (some bm)], memo bm (KA rs)])) := by
 refine calls_enterM Try.func53 rfl fun a0 hA0 => ?_
 replace hA0 : Fr 21 (marks []) [(0, (Value.agg #[vr])), (1, vu)] a0 := hA0
 have hR := (check_mat (enter_mat he)).1
 have hV := enter_runs he
 have hS0 : Sep NoB w w [(marksR []), (sl vr 2 R.length (pairs R)), (sl vu 3 rs.length (vtrips (runV lv rs))), (segsR false lv rs)] := sep_marks (sep_ro ⟨rfl, hm, rfl, hx.runs, rfl, ⟨hx.len, hx.segs⟩, trivial⟩)
 refine c_seq ?_
 refine c_region ?_
 refine stw hA0 (op_box hS0 rfl (hA0.ev rfl) (cs := [vr]) rfl) rfl rfl (by decide) ?_
 rintro a1 _ w3 ⟨b4, rfl, hS5⟩ hA2; clear hA0 hS0 a0
 refine stw hA2 (op_alloc hS5 rfl ze_97 (cs := [(Value.pointer none)]) rfl) rfl rfl (by decide) ?_
 rintro a6 _ w8 ⟨b9, rfl, hS10⟩ hA7; clear hA2 hS5 a1
 refine stw hA7 (op_alloc hS10 rfl ze_29 (cs := [(Value.int .i64 0)]) rfl) rfl rfl (by decide) ?_
 rintro a11 _ w13 ⟨b14, rfl, hS15⟩ hA12; clear hA7 hS10 a6
 refine wl_nil ?_
 refine then_n ?_
 refine c_seq ?_
 refine c_region ?_
 refine st hA12 (op_loadA rfl ty_33 (hA12.ev rfl) (hS15.bk 2 rfl) (l := [vr]) rfl rfl) rfl rfl (by decide) fun a16 hA17 => ?_; clear hA12 a11
 refine st hA17 (op_move rfl (hA17.ev rfl)) rfl rfl (by decide) fun a18 hA19 => ?_; clear hA17 a16
 refine stw hA19 (op_call rfl en_66 (ev2 (hA19.ev rfl) (hA19.ev rfl)) (enter_ok R rs lv vr vu _ (hm.step hS15.ext) (hx.step hS15.ext) (by omega) (by omega) he)) rfl rfl (by decide) ?_
 rintro a20 _ w22 ⟨bj25, bm26, rfl, hT23⟩ hA21; have hS24 := hS15.callS hT23 rfl; clear hT23 hA19 hS15 a18
 refine st hA21 (op_move rfl (hA21.ev rfl)) rfl rfl (by decide) fun a27 hA28 => ?_; clear hA21 a20
 refine st hA28 (op_extract rfl (hA28.ev rfl) rfl) rfl rfl (by decide) fun a29 hA30 => ?_; clear hA28 a27
 refine st hA30 (op_extract rfl (hA30.ev rfl) rfl) rfl rfl (by decide) fun a31 hA32 => ?_; clear hA30 a29
 refine stw hA32 (op_alloc hS24 rfl ze_97 (cs := [(Value.pointer none)]) rfl) rfl rfl (by decide) ?_
 rintro a33 _ w35 ⟨b36, rfl, hS37⟩ hA34; clear hA32 hS24 a31
 refine sts hA34 (op_store hS37 rfl ty_97 (hA34.ev rfl) (hA34.ev rfl) (i := 0) rfl (vs := [(bptr bj25 0)]) rfl rfl rfl (Nat.le_of_ble_eq_true rfl)) rfl rfl ?_
 intro _ w38 hS39 hA40; clear hA34
 have hS41 : Sep NoB w w38 [(blk b36 97 [(bptr bj25 0)]), (blk bj25 119 [vr, vu, (Value.map (some bm26))]), (memo bm26 (KA rs)), (blk b14 29 [(Value.int .i64 0)]), (blk b9 97 [(Value.pointer none)]), (blk b4 33 [vr]), (marksR []), (sl vr 2 R.length (pairs R)), (sl vu 3 rs.length (vtrips (runV lv rs))), (segsR false lv rs)] := hS39; clear hS39 hS37
 refine st hA40 (op_assign rfl (hA40.ev rfl)) rfl rfl (by decide) fun a42 hA43 => ?_; clear hA40 a33
 refine wl_nil ?_
 refine then_n ?_
 refine c_seq ?_
 refine c_seq ?_
 have hA44 := hA43.as [(7, (Value.int .i64 0)), (6, (bptr b36 0)), (5, (bptr b14 0)), (4, (bptr b9 0))] rfl; clear hA43
 refine c_region ?_
 refine st hA44 (op_move rfl (hA44.ev rfl)) rfl rfl (by decide) fun a45 hA46 => ?_; clear hA44 a42
 refine st hA46 (op_neq rfl (hA46.ev rfl) (evc _ _)) rfl rfl (by decide) fun a47 hA48 => ?_; clear hA46 a45
 refine wl_nil ?_
 refine then_n ?_
 refine c_false hA48 rfl ?_
 refine c_skip ?_
 refine then_n ?_
 refine c_seq ?_
 refine c_seq ?_
 refine c_region ?_
 refine st hA48 (op_load1 rfl ty_97 (hA48.ev rfl) (hS41.bk 0 rfl) rfl) rfl rfl (by decide) fun a49 hA50 => ?_; clear hA48 a47
 refine stw hA50 (op_call rfl en_54 (ev1 (hA50.ev rfl)) (every_ok _ _)) rfl rfl (by decide) ?_
 rintro a51 _ w53 ⟨bx56, rfl, hT54⟩ hA52; have hS55 := hS41.callS hT54 rfl; clear hT54 hA50 hS41 a49
 refine wl_nil ?_
 refine then_n ?_
 refine c_block ?_
 have hA57 := hA52.as [(18, (Value.func (.func 78) #[] #[(bptr bx56 0)])), (6, (bptr b36 0)), (5, (bptr b14 0)), (4, (bptr b9 0))] rfl; clear hA52
 have hS58 : Sep NoB w w53 [(marksR []), (memo bm26 (KA rs)), (blk bx56 97 [(bptr bj25 0)]), (blk b36 97 [(bptr bj25 0)]), (blk bj25 119 [vr, vu, (Value.map (some bm26))]), (blk b14 29 [(Value.int .i64 0)]), (blk b9 97 [(Value.pointer none)]), (blk b4 33 [vr]), (sl vr 2 R.length (pairs R)), (sl vu 3 rs.length (vtrips (runV lv rs))), (segsR false lv rs)] := hS55.keep [7, 3, 0, 1, 2, 4, 5, 6, 8, 9, 10] (by decide) _ rfl rfl; clear hS55
 refine c_rangeG hA57 (memo bm26 (KA rs)) rfl hS58 (hA57.ev rfl) en_78 ((allowedF R rs).length) (fun k => #[.agg (ints ((allowedF R rs).getD k [])).toArray]) (fun _ => rfl) [rob bx56 97 [bptr bj25 0], rob bj25 119 [vr, vu, .map (some bm26)], sl vr 2 R.length (pairs R), sl vu 3 rs.length (vtrips (runV lv rs)), segsR false lv rs] (fun r hr => by simp only [List.mem_cons, List.not_mem_nil, or_false] at hr; rcases hr with rfl | rfl | rfl | rfl | rfl <;> rfl) (every_it bx56 bj25 bm26 R rs lv vr vu R.length hR.1 hR hV hx.len) (fun q L_ => L_ = [(blk bx56 97 [(bptr bj25 0)]), (blk b36 97 [(bptr bj25 0)]), (blk bj25 119 [vr, vu, (Value.map (some bm26))]), (blk b14 29 [(Value.int .i64 0)]), (blk b9 97 [(Value.pointer none)]), (blk b4 33 [vr]), (sl vr 2 R.length (pairs R)), (sl vu 3 rs.length (vtrips (runV lv rs))), (segsR false lv rs)] ∧ (q = 0)) (fun L_ => L_ = [(blk bx56 97 [(bptr bj25 0)]), (blk b36 97 [(bptr bj25 0)]), (blk bj25 119 [vr, vu, (Value.map (some bm26))]), (blk b14 29 [(Value.int .i64 0)]), (blk b9 97 [(bptr bj25 0)]), (blk b4 33 [vr]), (sl vr 2 R.length (pairs R)), (sl vu 3 rs.length (vtrips (runV lv rs))), (segsR false lv rs)] ∧ (0 < (allowedF R rs).length)) (some .ret) ⟨rfl, rfl⟩ (fun q L_ hI_ G_ W_ r1_ r2_ hW_ => by obtain ⟨rfl, hz⟩ := hI_; exact (Sep.keep ((hW_.to_ro (i := 3) rfl).to_ro (i := 5) rfl) [2, 3, 5, 9, 10, 11] (by decide) _ rfl rfl)) (fun L_ hI_ G_ W_ r1_ r2_ hW_ => by obtain ⟨rfl, hn⟩ := hI_; exact (Sep.keep ((hW_.to_ro (i := 3) rfl).to_ro (i := 5) rfl) [2, 3, 5, 9, 10, 11] (by decide) _ rfl rfl)) ?_ ?_ ?_
 ·skip
  intro q hq L_ hL_ G67 hG68 l64 D65 rc66 a59 w60 ha63 hS61; obtain ⟨rfl, hz⟩ := hL_
  have hA62 : Fr 21 [] [(19, (Value.agg (ints ((allowedF R rs).getD q [])).toArray)), (18, (Value.func (.func 78) #[] #[(bptr bx56 0)])), (6, (bptr b36 0)), (5, (bptr b14 0)), (4, (bptr b9 0))] a59 := by rw [ha63]; exact Fr.round1 hA57 (by decide)
  clear ha63 hS58
  refine c_skip ?_
  refine ⟨rfl, _, hS61, ?_⟩; intro w69 hS70; clear hS61
  refine c_block ?_
  refine c_seq ?_
  refine c_region ?_
  refine st hA62 (op_load1 rfl ty_97 (hA62.ev rfl) (hS70.bk 4 rfl) rfl) rfl rfl (by decide) fun a71 hA72 => ?_; clear hA62 a59
  refine sts hA72 (op_store hS70 rfl ty_97 (hA72.ev rfl) (hA72.ev rfl) (i := 7) rfl (vs := [(bptr bj25 0)]) rfl rfl rfl (Nat.le_of_ble_eq_true rfl)) rfl rfl ?_
  intro _ w73 hS74 hA75; clear hA72
  have hS76 : Sep NoB w w73 [(obR l64 (.loop (rc66 .busy none))), (marksR (D65 :: [])), G67, (blk bx56 97 [(bptr bj25 0)]), (blk b36 97 [(bptr bj25 0)]), (blk bj25 119 [vr, vu, (Value.map (some bm26))]), (blk b14 29 [(Value.int .i64 0)]), (blk b9 97 [(bptr bj25 0)]), (blk b4 33 [vr]), (sl vr 2 R.length (pairs R)), (sl vu 3 rs.length (vtrips (runV lv rs))), (segsR false lv rs)] := hS74; clear hS74 hS70
  refine sts hA75 (op_store hS76 rfl ty_29 (hA75.ev rfl) (evc _ _) (i := 6) rfl (vs := [(Value.int .i64 0)]) rfl rfl rfl (Nat.le_of_ble_eq_true rfl)) rfl rfl ?_
  intro _ w77 hS78 hA79; clear hA75
  have hS80 : Sep NoB w w77 [(obR l64 (.loop (rc66 .busy none))), (marksR (D65 :: [])), G67, (blk bx56 97 [(bptr bj25 0)]), (blk b36 97 [(bptr bj25 0)]), (blk bj25 119 [vr, vu, (Value.map (some bm26))]), (blk b14 29 [(Value.int .i64 0)]), (blk b9 97 [(bptr bj25 0)]), (blk b4 33 [vr]), (sl vr 2 R.length (pairs R)), (sl vu 3 rs.length (vtrips (runV lv rs))), (segsR false lv rs)] := hS78; clear hS78 hS76
  refine wl_nil ?_
  refine then_n ?_
  refine c_ret ?_
  refine blk_ret ?_
  exact re_ret rfl ⟨_, rfl, ⟨rfl, (Nat.lt_of_le_of_lt (Nat.zero_le _) hq)⟩⟩ hS80
 ·skip
  intro L_ hL_ D85 a81 w82 hA84 hS83; obtain ⟨rfl, hz⟩ := hL_; clear hA57 hS58
  refine blk_n ?_
  refine then_n ?_
  refine c_seq ?_
  refine c_region ?_
  refine sts hA84 (op_store hS83 rfl ty_97 (hA84.ev rfl) (evc _ _) (i := 6) rfl (vs := [(Value.pointer none)]) rfl rfl (all_c rfl all_n) (Nat.le_of_ble_eq_true rfl)) rfl rfl ?_
  intro _ w86 hS87 hA88; clear hA84
  have hS89 : Sep NoB w w86 [(marksR (D85 :: [])), (memo bm26 (KA rs)), (blk bx56 97 [(bptr bj25 0)]), (blk b36 97 [(bptr bj25 0)]), (blk bj25 119 [vr, vu, (Value.map (some bm26))]), (blk b14 29 [(Value.int .i64 0)]), (blk b9 97 [(Value.pointer none)]), (blk b4 33 [vr]), (sl vr 2 R.length (pairs R)), (sl vu 3 rs.length (vtrips (runV lv rs))), (segsR false lv rs)] := hS87; clear hS87 hS83
  refine sts hA88 (op_store hS89 rfl ty_29 (hA88.ev rfl) (evc _ _) (i := 5) rfl (vs := [(Value.int .i64 9)]) rfl rfl rfl (Nat.le_of_ble_eq_true rfl)) rfl rfl ?_
  intro _ w90 hS91 hA92; clear hA88
  have hS93 : Sep NoB w w90 [(marksR (D85 :: [])), (memo bm26 (KA rs)), (blk bx56 97 [(bptr bj25 0)]), (blk b36 97 [(bptr bj25 0)]), (blk bj25 119 [vr, vu, (Value.map (some bm26))]), (blk b14 29 [(Value.int .i64 9)]), (blk b9 97 [(Value.pointer none)]), (blk b4 33 [vr]), (sl vr 2 R.length (pairs R)), (sl vu 3 rs.length (vtrips (runV lv rs))), (segsR false lv rs)] := hS91; clear hS91 hS89
  refine wl_nil ?_
  refine then_n ?_
  refine c_ret ?_
  refine fin_runM hA92 (.inl rfl) hS93 ?_
  intro w94 hS95; clear hS93
  refine ⟨_, (run_results2 hA92 rfl (.cell1 rfl ty_97 (hS95.bk 5 rfl) rfl) (.cell1 rfl ty_29 (hS95.bk 4 rfl) rfl)), ?_⟩
  exact .inl ⟨poss_9 he hz, rfl, hS95.ext⟩
 ·skip
  intro c_ hc_; cases hc_
  intro L_ hL_ D100 a96 w97 hA99 hS98; obtain ⟨rfl, hn⟩ := hL_; clear hA57 hS58
  refine c_ret ?_
  refine blk_ret ?_
  refine then_ret ?_
  refine fin_runM hA99 (.inl rfl) hS98 ?_
  intro w101 hS102; clear hS98
  refine ⟨_, (run_results2 hA99 rfl (.cell1 rfl ty_97 (hS102.bk 5 rfl) rfl) (.cell1 rfl ty_29 (hS102.bk 4 rfl) rfl)), ?_⟩
  exact .inr ⟨poss_0 he hn, _, _, rfl, hS102.keep [3, 0] (by decide) _ rfl rfl⟩

theorem poss_bad (R : List (Int × Int)) (rs : List RunD) (lv : List Value) (vr vu : Value) (w : World) (hm : SlAt w vr 2 R.length (pairs R)) (hx : RunsAt w vu lv rs) (hlen : R.length ≤ 1000000) (hrl : rs.length ≤ 1000000) (he : possF R rs ≠ 0) : Calls Try.prog 53 #[.agg #[vr], vu] w (Ret fun v w' => v = .tuple #[.pointer none, .int .i64 (possF R rs)] ∧ Ext NoB w w') := by
 by_cases h0 : enterF R rs = 0
 ·exact (poss_any R rs lv vr vu w hm hx hlen hrl h0).mono (Ret.mono fun v w' h => by
   rcases h with ⟨h1, h⟩ | ⟨h, _⟩
   ·rw [h1]; exact h
   ·exact absurd h he)
 ·have := poss_e_ok R rs lv vr vu w hm hx hlen hrl h0
  rw [poss_e h0]; exact this
theorem poss_ok (R : List (Int × Int)) (rs : List RunD) (lv : List Value) (vr vu : Value) (w : World) (hm : SlAt w vr 2 R.length (pairs R)) (hx : RunsAt w vu lv rs) (hlen : R.length ≤ 1000000) (hrl : rs.length ≤ 1000000) (he : possF R rs = 0) : Calls Try.prog 53 #[.agg #[vr], vu] w (Ret fun v w' => ∃ bj bm, v = .tuple #[bptr bj 0, .int .i64 0] ∧ Sep NoB w w' [blk bj 119 [vr, vu, .map (some bm)], memo bm (KA rs)]) :=
 (poss_any R rs lv vr vu w hm hx hlen hrl (poss_is he).1).mono (Ret.mono fun v w' h => by
  rcases h with ⟨h, _⟩ | ⟨_, h⟩
  ·rw [he] at h; exact absurd h (by decide)
  ·exact h)

end Go.Proofs.Ytkkglkdnnfegkaa

namespace Go.Proofs.Ytkkglkdnnfegkaa
open Go.RowKit Go.Shelf Go.Eng
theorem ze_28 : (Try.prog.info? 28).bind (·.zero) = some (Value.slice none 0 0) := by kernel_rfl
theorem en_53 : ∀ args w, (callFunc 53 args).run Try.prog w = .ok (.enter 53 args) w := enters_of Try.func53 (by kernel_rfl) rfl
theorem el_42 : elK Try.prog 42 = some ((Value.agg #[(Value.int .i64 0), (Value.int .i64 0)]), 2, 16) := by kernel_rfl
theorem en_55 : ∀ args w, (callFunc 55 args).run Try.prog w = .ok (.enter 55 args) w := enters_of Try.func55 (by kernel_rfl) rfl
theorem rates_bad (R : List (Int × Int)) (rs : List RunD) (lv : List Value) (vr vu : Value) (w : World) (hm : SlAt w vr 2 R.length (pairs R)) (hx : RunsAt w vu lv rs) (hlen : R.length ≤ 1000000) (hrl : rs.length ≤ 1000000) (he : possF R rs ≠ 0) :
  Calls Try.prog 18 #[(Value.agg #[vr]), vu] w (Ret fun v w' => v = .tuple #[.slice none 0 0, .int .i64 0, .int .i64 (possF R rs)] ∧ Ext NoB w w') := by
 refine calls_enterM Try.func18 rfl fun a0 hA0 => ?_
 replace hA0 : Fr 49 (marks []) [(0, (Value.agg #[vr])), (1, vu)] a0 := hA0
 have hS0 : Sep NoB w w [(marksR []), (sl vr 2 R.length (pairs R)), (sl vu 3 rs.length (vtrips (runV lv rs))), (segsR false lv rs)] := sep_marks (sep_ro ⟨rfl, hm, rfl, hx.runs, rfl, ⟨hx.len, hx.segs⟩, trivial⟩)
 refine c_seq ?_
 refine c_region ?_
 refine stw hA0 (op_box hS0 rfl (hA0.ev rfl) (cs := [vr]) rfl) rfl rfl (by decide) ?_
 rintro a1 _ w3 ⟨b4, rfl, hS5⟩ hA2; clear hA0 hS0 a0
 refine stw hA2 (op_alloc hS5 rfl ze_28 (cs := [(Value.slice none 0 0)]) rfl) rfl rfl (by decide) ?_
 rintro a6 _ w8 ⟨b9, rfl, hS10⟩ hA7; clear hA2 hS5 a1
 refine stw hA7 (op_alloc hS10 rfl ze_3 (cs := [(Value.int .i64 0)]) rfl) rfl rfl (by decide) ?_
 rintro a11 _ w13 ⟨b14, rfl, hS15⟩ hA12; clear hA7 hS10 a6
 refine st hA12 (op_assign rfl (evc _ _)) rfl rfl (by decide) fun a16 hA17 => ?_; clear hA12 a11
 refine wl_nil ?_
 refine then_n ?_
 refine c_seq ?_
 refine c_region ?_
 refine st hA17 (op_loadA rfl ty_33 (hA17.ev rfl) (hS15.bk 2 rfl) (l := [vr]) rfl rfl) rfl rfl (by decide) fun a18 hA19 => ?_; clear hA17 a16
 refine st hA19 (op_move rfl (hA19.ev rfl)) rfl rfl (by decide) fun a20 hA21 => ?_; clear hA19 a18
 refine stw hA21 (op_call rfl en_53 (ev2 (hA21.ev rfl) (hA21.ev rfl)) (poss_bad R rs lv vr vu _ (hm.step hS15.ext) (hx.step hS15.ext) (by omega) (by omega) he)) rfl rfl (by decide) ?_
 rintro a22 _ w24 ⟨rfl, hE25⟩ hA23; have hS26 := hS15.step hE25; clear hE25 hA21 hS15 a20
 refine st hA23 (op_move rfl (hA23.ev rfl)) rfl rfl (by decide) fun a27 hA28 => ?_; clear hA23 a22
 refine st hA28 (op_extract rfl (hA28.ev rfl) rfl) rfl rfl (by decide) fun a29 hA30 => ?_; clear hA28 a27
 refine st hA30 (op_extract rfl (hA30.ev rfl) rfl) rfl rfl (by decide) fun a31 hA32 => ?_; clear hA30 a29
 refine st hA32 (op_assign rfl (hA32.ev rfl)) rfl rfl (by decide) fun a33 hA34 => ?_; clear hA32 a31
 refine st hA34 (op_assign rfl (hA34.ev rfl)) rfl rfl (by decide) fun a35 hA36 => ?_; clear hA34 a33
 refine wl_nil ?_
 refine then_n ?_
 refine c_seq ?_
 refine c_seq ?_
 have hA37 := hA36.as [(6, (Value.int .i64 (possF R rs))), (7, (Value.pointer none)), (5, (bptr b14 0)), (4, (bptr b9 0)), (2, (bptr b4 0))] rfl; clear hA36
 refine c_region ?_
 refine st hA37 (op_move rfl (hA37.ev rfl)) rfl rfl (by decide) fun a38 hA39 => ?_; clear hA37 a35
 refine st hA39 (op_neq rfl (hA39.ev rfl) (evc _ _)) rfl rfl (by decide) fun a40 hA41 => ?_; clear hA39 a38
 have hd42 : ¬ ((possF R rs) = 0) := he
 rw [decide_eq_false hd42] at hA41
 refine wl_nil ?_
 refine then_n ?_
 refine c_true hA41 rfl ?_
 refine c_seq ?_
 refine c_region ?_
 refine st hA41 (op_move rfl (hA41.ev rfl)) rfl rfl (by decide) fun a43 hA44 => ?_; clear hA41 a40
 refine sts hA44 (op_store hS26 rfl ty_28 (hA44.ev rfl) (evc _ _) (i := 1) rfl (vs := [(Value.slice none 0 0)]) rfl rfl (all_c rfl all_n) (Nat.le_of_ble_eq_true rfl)) rfl rfl ?_
 intro _ w45 hS46 hA47; clear hA44
 have hS48 : Sep NoB w w45 [(blk b14 3 [(Value.int .i64 0)]), (blk b9 28 [(Value.slice none 0 0)]), (blk b4 33 [vr]), (marksR []), (sl vr 2 R.length (pairs R)), (sl vu 3 rs.length (vtrips (runV lv rs))), (segsR false lv rs)] := hS46; clear hS46 hS26
 refine sts hA47 (op_store hS48 rfl ty_3 (hA47.ev rfl) (evc _ _) (i := 0) rfl (vs := [(Value.int .i64 0)]) rfl rfl rfl (Nat.le_of_ble_eq_true rfl)) rfl rfl ?_
 intro _ w49 hS50 hA51; clear hA47
 have hS52 : Sep NoB w w49 [(blk b14 3 [(Value.int .i64 0)]), (blk b9 28 [(Value.slice none 0 0)]), (blk b4 33 [vr]), (marksR []), (sl vr 2 R.length (pairs R)), (sl vu 3 rs.length (vtrips (runV lv rs))), (segsR false lv rs)] := hS50; clear hS50 hS48
 refine st hA51 (op_assign rfl (hA51.ev rfl)) rfl rfl (by decide) fun a53 hA54 => ?_; clear hA51 a43
 refine wl_nil ?_
 refine then_n ?_
 refine c_ret ?_
 refine then_ret ?_
 have hS55 : Sep NoB w w49 [(marksR []), (blk b14 3 [(Value.int .i64 0)]), (blk b9 28 [(Value.slice none 0 0)]), (blk b4 33 [vr]), (sl vr 2 R.length (pairs R)), (sl vu 3 rs.length (vtrips (runV lv rs))), (segsR false lv rs)] := hS52.keep [3, 0, 1, 2, 4, 5, 6] (by decide) _ rfl rfl; clear hS52
 refine fin_runM hA54 (.inl rfl) hS55 ?_
 intro w56 hS57; clear hS55
 refine ⟨_, (run_results3 hA54 rfl (.cell1 rfl ty_28 (hS57.bk 1 rfl) rfl) (.cell1 rfl ty_3 (hS57.bk 0 rfl) rfl) (.tmp rfl)), ?_⟩
 exact ⟨rfl, hS57.ext⟩

theorem made_rng {n : Nat} (h : n = 1 ∨ n = 2 ∨ n = 3) : (madeCells (Value.agg #[.int .i64 0, .int .i64 0]).cells (n * 2)).toList = pairs (List.replicate n (0, 0)) := by rcases h with rfl | rfl | rfl <;> kernel_rfl
theorem rates_ok (R : List (Int × Int)) (rs : List RunD) (lv : List Value) (vr vu : Value) (w : World) (hm : SlAt w vr 2 R.length (pairs R)) (hx : RunsAt w vu lv rs) (hlen : R.length ≤ 1000000) (hrl : rs.length ≤ 1000000) (he : possF R rs = 0) :
  Calls Try.prog 18 #[(Value.agg #[vr]), vu] w (Ret fun v w' => ∃ u, v = .tuple #[u, .int .i64 ((allowedF R rs).length : Int), .int .i64 0] ∧ Sep NoB w w' [row u 42 2 R.length (pairs (ratesF R rs))]) := by
 refine calls_enterM Try.func18 rfl fun a0 hA0 => ?_
 replace hA0 : Fr 49 (marks []) [(0, (Value.agg #[vr])), (1, vu)] a0 := hA0
 have hR := (check_mat (enter_mat (poss_is he).1)).1
 have hR1 := (check_mat (enter_mat (poss_is he).1)).2.1
 have hR3 := hR.1
 have hal_ := allowed_le (rs := rs) hR
 have hV := enter_runs (poss_is he).1
 have hS0 : Sep NoB w w [(marksR []), (sl vr 2 R.length (pairs R)), (sl vu 3 rs.length (vtrips (runV lv rs))), (segsR false lv rs)] := sep_marks (sep_ro ⟨rfl, hm, rfl, hx.runs, rfl, ⟨hx.len, hx.segs⟩, trivial⟩)
 refine c_seq ?_
 refine c_region ?_
 refine stw hA0 (op_box hS0 rfl (hA0.ev rfl) (cs := [vr]) rfl) rfl rfl (by decide) ?_
 rintro a1 _ w3 ⟨b4, rfl, hS5⟩ hA2; clear hA0 hS0 a0
 refine stw hA2 (op_alloc hS5 rfl ze_28 (cs := [(Value.slice none 0 0)]) rfl) rfl rfl (by decide) ?_
 rintro a6 _ w8 ⟨b9, rfl, hS10⟩ hA7; clear hA2 hS5 a1
 refine stw hA7 (op_alloc hS10 rfl ze_3 (cs := [(Value.int .i64 0)]) rfl) rfl rfl (by decide) ?_
 rintro a11 _ w13 ⟨b14, rfl, hS15⟩ hA12; clear hA7 hS10 a6
 refine st hA12 (op_assign rfl (evc _ _)) rfl rfl (by decide) fun a16 hA17 => ?_; clear hA12 a11
 refine wl_nil ?_
 refine then_n ?_
 refine c_seq ?_
 refine c_region ?_
 refine st hA17 (op_loadA rfl ty_33 (hA17.ev rfl) (hS15.bk 2 rfl) (l := [vr]) rfl rfl) rfl rfl (by decide) fun a18 hA19 => ?_; clear hA17 a16
 refine st hA19 (op_move rfl (hA19.ev rfl)) rfl rfl (by decide) fun a20 hA21 => ?_; clear hA19 a18
 refine stw hA21 (op_call rfl en_53 (ev2 (hA21.ev rfl) (hA21.ev rfl)) (poss_ok R rs lv vr vu _ (hm.step hS15.ext) (hx.step hS15.ext) (by omega) (by omega) he)) rfl rfl (by decide) ?_
 rintro a22 _ w24 ⟨bj27, bm28, rfl, hT25⟩ hA23; have hS26 := hS15.callS hT25 rfl; clear hT25 hA21 hS15 a20
 refine st hA23 (op_move rfl (hA23.ev rfl)) rfl rfl (by decide) fun a29 hA30 => ?_; clear hA23 a22
 refine st hA30 (op_extract rfl (hA30.ev rfl) rfl) rfl rfl (by decide) fun a31 hA32 => ?_; clear hA30 a29
 refine st hA32 (op_extract rfl (hA32.ev rfl) rfl) rfl rfl (by decide) fun a33 hA34 => ?_; clear hA32 a31
 refine st hA34 (op_assign rfl (hA34.ev rfl)) rfl rfl (by decide) fun a35 hA36 => ?_; clear hA34 a33
 refine st hA36 (op_assign rfl (hA36.ev rfl)) rfl rfl (by decide) fun a37 hA38 => ?_; clear hA36 a35
 refine wl_nil ?_
 refine then_n ?_
 refine c_seq ?_
 refine c_seq ?_
 have hA39 := hA38.as [(6, (Value.int .i64 0)), (7, (bptr bj27 0)), (5, (bptr b14 0)), (4, (bptr b9 0)), (2, (bptr b4 0))] rfl; clear hA38
 refine c_region ?_
 refine st hA39 (op_move rfl (hA39.ev rfl)) rfl rfl (by decide) fun a40 hA41 => ?_; clear hA39 a37
 refine st hA41 (op_neq rfl (hA41.ev rfl) (evc _ _)) rfl rfl (by decide) fun a42 hA43 => ?_; clear hA41 a40
 refine wl_nil ?_
 refine then_n ?_
 refine c_false hA43 rfl ?_
 refine c_skip ?_
 refine then_n ?_
 refine c_seq ?_
 refine c_region ?_
 refine st hA43 (op_field rfl fd_33_0 (hA43.ev rfl)) rfl rfl (by decide) fun a44 hA45 => ?_; clear hA43 a42
 refine st hA45 (op_load1 rfl ty_28 (hA45.ev rfl) (hS26.bk 4 rfl) rfl) rfl rfl (by decide) fun a46 hA47 => ?_; clear hA45 a44
 refine st hA47 (op_lenS rfl un_28 (hA47.ev rfl) (hS26.sk 6 rfl)) rfl rfl (by decide) fun a48 hA49 => ?_; clear hA47 a46
 refine stw hA49 (op_makeFull hS26 rfl un_28 el_42 (hA49.ev rfl) (hA49.ev rfl) (n := R.length) (cs := (pairs (List.replicate R.length (0, 0)))) (made_rng (by omega)) (by omega) (by omega) (by simp only [maxLen]; omega)) rfl rfl (by decide) ?_
 intro a50 v53 w52 hS54 hA51; clear hA49 hS26 a48
 refine sts hA51 (op_store hS54 rfl ty_28 (hA51.ev rfl) (hA51.ev rfl) (i := 4) rfl (vs := [v53]) (isSl_cells (SlAt.isSl (SlAt.of_row (hS54.ok_row 0 rfl)))) rfl (all_c (SlAt.one (SlAt.of_row (hS54.ok_row 0 rfl))) all_n) (Nat.le_of_ble_eq_true rfl)) rfl rfl ?_
 intro _ w55 hS56 hA57; clear hA51
 have hS58 : Sep NoB w w55 [(row v53 42 2 R.length (pairs (List.replicate R.length (0, 0)))), (blk bj27 119 [vr, vu, (Value.map (some bm28))]), (memo bm28 (KA rs)), (blk b14 3 [(Value.int .i64 0)]), (blk b9 28 [v53]), (blk b4 33 [vr]), (marksR []), (sl vr 2 R.length (pairs R)), (sl vu 3 rs.length (vtrips (runV lv rs))), (segsR false lv rs)] := hS56; clear hS56 hS54
 refine wl_nil ?_
 refine then_n ?_
 refine c_seq ?_
 refine c_seq ?_
 have hA59 := hA57.as [(7, (bptr bj27 0)), (5, (bptr b14 0)), (4, (bptr b9 0))] rfl; clear hA57
 refine c_region ?_
 refine st hA59 (op_move rfl (hA59.ev rfl)) rfl rfl (by decide) fun a60 hA61 => ?_; clear hA59 a50
 refine stw hA61 (op_call rfl en_54 (ev1 (hA61.ev rfl)) (every_ok _ _)) rfl rfl (by decide) ?_
 rintro a62 _ w64 ⟨bx67, rfl, hT65⟩ hA63; have hS66 := hS58.callS hT65 rfl; clear hT65 hA61 hS58 a60
 refine wl_nil ?_
 refine then_n ?_
 refine c_block ?_
 have hA68 := hA63.as [(24, (Value.func (.func 78) #[] #[(bptr bx67 0)])), (5, (bptr b14 0)), (4, (bptr b9 0))] rfl; clear hA63
 have hS69 : Sep NoB w w64 [(marksR []), (memo bm28 (KA rs)), (blk bx67 97 [(bptr bj27 0)]), (row v53 42 2 R.length (pairs (List.replicate R.length (0, 0)))), (blk bj27 119 [vr, vu, (Value.map (some bm28))]), (blk b14 3 [(Value.int .i64 0)]), (blk b9 28 [v53]), (blk b4 33 [vr]), (sl vr 2 R.length (pairs R)), (sl vu 3 rs.length (vtrips (runV lv rs))), (segsR false lv rs)] := hS66.keep [7, 3, 0, 1, 2, 4, 5, 6, 8, 9, 10] (by decide) _ rfl rfl; clear hS66
 refine c_rangeG hA68 (memo bm28 (KA rs)) rfl hS69 (hA68.ev rfl) en_78 ((allowedF R rs).length) (fun k => #[.agg (ints ((allowedF R rs).getD k [])).toArray]) (fun _ => rfl) [rob bx67 97 [bptr bj27 0], rob bj27 119 [vr, vu, .map (some bm28)], sl vr 2 R.length (pairs R), sl vu 3 rs.length (vtrips (runV lv rs)), segsR false lv rs] (fun r hr => by simp only [List.mem_cons, List.not_mem_nil, or_false] at hr; rcases hr with rfl | rfl | rfl | rfl | rfl <;> rfl) (every_it bx67 bj27 bm28 R rs lv vr vu R.length hR.1 hR hV hx.len) (fun q L_ => L_ = [(blk bx67 97 [(bptr bj27 0)]), (row v53 42 2 R.length (pairs (outF (allowedF R rs) R.length q))), (blk bj27 119 [vr, vu, (Value.map (some bm28))]), (blk b14 3 [(Value.int .i64 (q : Int))]), (blk b9 28 [v53]), (blk b4 33 [vr]), (sl vr 2 R.length (pairs R)), (sl vu 3 rs.length (vtrips (runV lv rs))), (segsR false lv rs)]) (fun _ => False) none rfl (fun q L_ hI_ G_ W_ r1_ r2_ hW_ => by obtain ⟨rfl⟩ := hI_; exact (Sep.keep ((hW_.to_ro (i := 3) rfl).to_ro (i := 5) rfl) [2, 3, 5, 9, 10, 11] (by decide) _ rfl rfl)) (fun L_ hI_ => hI_.elim) ?_ ?_ (fun _ hc_ => by cases hc_)
 ·skip
  intro q hq L_ hL_ G78 hG79 l75 D76 rc77 a70 w71 ha74 hS72; obtain ⟨rfl⟩ := hL_
  have hA73 : Fr 49 [] [(25, (Value.agg (ints ((allowedF R rs).getD q [])).toArray)), (24, (Value.func (.func 78) #[] #[(bptr bx67 0)])), (5, (bptr b14 0)), (4, (bptr b9 0))] a70 := by rw [ha74]; exact Fr.round1 hA68 (by decide)
  clear ha74 hS69
  have hl3 := (allowed_rates hR hq).1.1
  refine c_region ?_
  refine stw hA73 (op_alloc hS72 rfl ze_104 (cs := [(Value.int .i64 0), (Value.int .i64 0), (Value.int .i64 0)]) rfl) rfl rfl (by decide) ?_
  rintro a80 _ w82 ⟨b83, rfl, hS84⟩ hA81; clear hA73 hS72 a70
  refine sts hA81 (op_store hS84 rfl ty_104 (hA81.ev rfl) (hA81.ev rfl) (i := 0) rfl (vs := (ints ((allowedF R rs).getD q []))) rfl (allowed_len3 hR hq).symm (ints_one _) (by decide)) rfl rfl ?_
  intro _ w85 hS86 hA88; have hS87 := hS86.blk_say (i := 0) rfl (cs' := (ints ((allowedF R rs).getD q []))) (setFrom_all _ _ (Eq.symm (allowed_len3 hR hq).symm)); clear hS86 hA81 hS84
  refine wl_nil ?_
  have hS89 : Sep NoB w w85 [(obR l75 (.loop (rc77 .ready none))), (marksR (D76 :: [])), G78, (blk b83 104 (ints ((allowedF R rs).getD q []))), (blk bx67 97 [(bptr bj27 0)]), (row v53 42 2 R.length (pairs (outF (allowedF R rs) R.length q))), (blk bj27 119 [vr, vu, (Value.map (some bm28))]), (blk b14 3 [(Value.int .i64 (q : Int))]), (blk b9 28 [v53]), (blk b4 33 [vr]), (sl vr 2 R.length (pairs R)), (sl vu 3 rs.length (vtrips (runV lv rs))), (segsR false lv rs)] := hS87.keep [1, 2, 3, 0, 4, 5, 6, 7, 8, 9, 10, 11, 12] (by decide) _ rfl rfl; clear hS87
  refine ⟨rfl, _, hS89, ?_⟩; intro w90 hS91; clear hS89
  refine c_block ?_
  refine c_seq ?_
  refine c_seq ?_
  refine c_region ?_
  refine st hA88 (op_load1 rfl ty_28 (hA88.ev rfl) (hS91.bk 8 rfl) rfl) rfl rfl (by decide) fun a92 hA93 => ?_; clear hA88 a80
  refine st hA93 (op_lenS rfl un_28 (hA93.ev rfl) (SlAt.of_row (hS91.ok_row 5 rfl))) rfl rfl (by decide) fun a94 hA95 => ?_; clear hA93 a92
  refine st hA95 (op_move rfl (evc _ _)) rfl rfl (by decide) fun a96 hA97 => ?_; clear hA95 a94
  refine wl_nil ?_
  refine then_n ?_
  refine c_block ?_
  have hA98 := hA97.as [(28, (Value.int .i64 0)), (27, (Value.int .i64 (R.length : Int))), (8, (bptr b83 0)), (5, (bptr b14 0)), (4, (bptr b9 0))] rfl; clear hA97
  refine c_loop (G := Nat) (fun (k : Nat) a_ w_ => Fr 49 [] [(28, (Value.int .i64 (k : Int))), (27, (Value.int .i64 (R.length : Int))), (8, (bptr b83 0)), (5, (bptr b14 0)), (4, (bptr b9 0))] a_ ∧ Sep NoB w w_ [(obR l75 (.loop (rc77 .busy none))), (marksR (D76 :: [])), G78, (blk b83 104 (ints ((allowedF R rs).getD q []))), (blk bx67 97 [(bptr bj27 0)]), (row v53 42 2 R.length (pairs (midW (outF (allowedF R rs) R.length q) ((allowedF R rs).getD q []) (decide ((q : Int) = 0)) k))), (blk bj27 119 [vr, vu, (Value.map (some bm28))]), (blk b14 3 [(Value.int .i64 (q : Int))]), (blk b9 28 [v53]), (blk b4 33 [vr]), (sl vr 2 R.length (pairs R)), (sl vu 3 rs.length (vtrips (runV lv rs))), (segsR false lv rs)] ∧ (k ≤ R.length)) (fun k => R.length - k) 0 ⟨hA98.as _ rfl, (hS91.row_say (i := 5) rfl rfl (by rw [midW_zero])), by omega⟩ ?_
  clear hA98 hS91 a96
  rintro k a99 w101 ⟨hA100, hS102, hk⟩
  refine c_seq ?_
  refine c_region ?_
  refine st hA100 (op_lss rfl (hA100.ev rfl) (hA100.ev rfl)) rfl rfl (by decide) fun a103 hA104 => ?_; clear hA100 a99
  refine wl_nil ?_
  refine then_n ?_
  refine c_seq ?_
  by_cases hb105 : (k : Int) < (R.length : Int)
  ·skip
   rw [decide_eq_true hb105] at hA104
   refine c_true hA104 rfl ?_
   refine c_skip ?_
   refine then_n ?_
   refine c_seq ?_
   refine c_block ?_
   refine c_seq ?_
   refine c_region ?_
   refine st hA104 (op_move rfl (hA104.ev rfl)) rfl rfl (by decide) fun a106 hA107 => ?_; clear hA104 a103
   refine st hA107 (op_assign rfl (hA107.ev rfl)) rfl rfl (by decide) fun a108 hA109 => ?_; clear hA107 a106
   refine wl_nil ?_
   refine then_n ?_
   have hA110 := hA109.as [(9, (Value.int .i64 (k : Int))), (28, (Value.int .i64 (k : Int))), (27, (Value.int .i64 (R.length : Int))), (8, (bptr b83 0)), (5, (bptr b14 0)), (4, (bptr b9 0))] rfl; clear hA109
   refine c_drawV mixed hA110 hS102 12 [[], [], [], [], [2, 3], [4], [], [6], [7], [], [9], [5, 8, 10]] [(fun (vs111 : Nat → Value) (v_ : Value) (rs_ : List Res) => v_ = v53 ∧ rs_ = []), (fun (vs111 : Nat → Value) (v_ : Value) (rs_ : List Res) => v_ = (Value.int .i64 (k : Int)) ∧ rs_ = []), (fun (vs111 : Nat → Value) (v_ : Value) (rs_ : List Res) => v_ = v53 ∧ rs_ = []), (fun (vs111 : Nat → Value) (v_ : Value) (rs_ : List Res) => v_ = (Value.int .i64 (k : Int)) ∧ rs_ = []), (fun (vs111 : Nat → Value) (v_ : Value) (rs_ : List Res) => v_ = (eptr v53 (k * 2)) ∧ rs_ = []), (fun (vs111 : Nat → Value) (v_ : Value) (rs_ : List Res) => v_ = (Value.agg #[(Value.int .i64 (((midW (outF (allowedF R rs) R.length q) ((allowedF R rs).getD q []) (decide ((q : Int) = 0)) k).getD k (0, 0)).1)), (Value.int .i64 (((midW (outF (allowedF R rs) R.length q) ((allowedF R rs).getD q []) (decide ((q : Int) = 0)) k).getD k (0, 0)).2))]) ∧ rs_ = []), (fun (vs111 : Nat → Value) (v_ : Value) (rs_ : List Res) => v_ = (Value.int .i64 (k : Int)) ∧ rs_ = []), (fun (vs111 : Nat → Value) (v_ : Value) (rs_ : List Res) => v_ = (bptr b83 (0 + k * 1)) ∧ rs_ = []), (fun (vs111 : Nat → Value) (v_ : Value) (rs_ : List Res) => v_ = (Value.int .i64 (((allowedF R rs).getD q []).getD k 0)) ∧ rs_ = []), (fun (vs111 : Nat → Value) (v_ : Value) (rs_ : List Res) => v_ = (Value.int .i64 (q : Int)) ∧ rs_ = []), (fun (vs111 : Nat → Value) (v_ : Value) (rs_ : List Res) => v_ = (Value.bool (decide ((q : Int) = 0))) ∧ rs_ = []), (fun (vs111 : Nat → Value) (v_ : Value) (rs_ : List Res) => v_ = (Value.agg #[(Value.int .i64 (if (decide ((q : Int) = 0)) = true then (((allowedF R rs).getD q []).getD k 0) else min (((midW (outF (allowedF R rs) R.length q) ((allowedF R rs).getD q []) (decide ((q : Int) = 0)) k).getD k (0, 0)).1) (((allowedF R rs).getD q []).getD k 0))), (Value.int .i64 (if (decide ((q : Int) = 0)) = true then (((allowedF R rs).getD q []).getD k 0) else max (((midW (outF (allowedF R rs) R.length q) ((allowedF R rs).getD q []) (decide ((q : Int) = 0)) k).getD k (0, 0)).2) (((allowedF R rs).getD q []).getD k 0)))]) ∧ rs_ = [])] (by decide +kernel) (by decide +kernel) rfl rfl ⟨(fun _ _ _ _ _ h_ => h_), (fun _ _ _ _ _ h_ => h_), (fun _ _ _ _ _ h_ => h_), (fun _ _ _ _ _ h_ => h_), (fun _ _ _ _ _ h_ => h_), (fun _ _ _ _ _ h_ => h_), (fun _ _ _ _ _ h_ => h_), (fun _ _ _ _ _ h_ => h_), (fun _ _ _ _ _ h_ => h_), (fun _ _ _ _ _ h_ => h_), (fun _ _ _ _ _ h_ => h_), (fun _ _ _ _ _ h_ => h_), trivial⟩ ?_ ?_
   ·skip
    refine ⟨fun a w vs111 hA hS hd => ?_, ?_⟩
    ·skip
     exact opG_of rfl (vv (op_load1 rfl ty_28 (hA.ev rfl) (hS.bk 8 rfl) rfl) (And.intro rfl rfl))
    refine ⟨fun a w vs111 hA hS hd => ?_, ?_⟩
    ·skip
     exact opG_of rfl (vv (op_move rfl (hA.ev rfl)) (And.intro rfl rfl))
    refine ⟨fun a w vs111 hA hS hd => ?_, ?_⟩
    ·skip
     exact opG_of rfl (vv (op_load1 rfl ty_28 (hA.ev rfl) (hS.bk 8 rfl) rfl) (And.intro rfl rfl))
    refine ⟨fun a w vs111 hA hS hd => ?_, ?_⟩
    ·skip
     exact opG_of rfl (vv (op_move rfl (hA.ev rfl)) (And.intro rfl rfl))
    refine ⟨fun a w vs111 hA hS hd => ?_, ?_⟩
    ·skip
     obtain ⟨e2, rs2, hy2, hp2⟩ := hd 2 (by decide)
     obtain ⟨hv2, hr2⟩ := hy2; subst hr2
     rw [hv2] at e2
     obtain ⟨e3, rs3, hy3, hp3⟩ := hd 3 (by decide)
     obtain ⟨hv3, hr3⟩ := hy3; subst hr3
     rw [hv3] at e3
     exact opG_of rfl (vv (op_indexS rfl un_28 ty_42 (tmp_ev (slot_ev e2 rfl)) (i := k) (tmp_ev (slot_ev e3 rfl)) (SlAt.of_row (hS.ok_row 5 rfl)) (by decide) (by first | omega | (simp only [midW_len, outF_len]; omega))) (And.intro rfl rfl))
    refine ⟨fun a w vs111 hA hS hd => ?_, ?_⟩
    ·skip
     obtain ⟨e4, rs4, hy4, hp4⟩ := hd 4 (by decide)
     obtain ⟨hv4, hr4⟩ := hy4; subst hr4
     rw [hv4] at e4
     exact opG_of rfl (vv (op_loadAE rfl ty_42 (tmp_ev (slot_ev e4 rfl)) (SlAt.of_row (hS.ok_row 5 rfl)) (pairs_all (by first | omega | (simp only [midW_len, outF_len]; omega))) rfl (by decide)) (And.intro rfl rfl))
    refine ⟨fun a w vs111 hA hS hd => ?_, ?_⟩
    ·skip
     exact opG_of rfl (vv (op_move rfl (hA.ev rfl)) (And.intro rfl rfl))
    refine ⟨fun a w vs111 hA hS hd => ?_, ?_⟩
    ·skip
     obtain ⟨e6, rs6, hy6, hp6⟩ := hd 6 (by decide)
     obtain ⟨hv6, hr6⟩ := hy6; subst hr6
     rw [hv6] at e6
     exact opG_of rfl (vv (op_indexA rfl un_104 ty_3 (hA.ev rfl) (i := k) (tmp_ev (slot_ev e6 rfl)) (by first | omega | (simp only [midW_len, outF_len]; omega))) (And.intro rfl rfl))
    refine ⟨fun a w vs111 hA hS hd => ?_, ?_⟩
    ·skip
     obtain ⟨e7, rs7, hy7, hp7⟩ := hd 7 (by decide)
     obtain ⟨hv7, hr7⟩ := hy7; subst hr7
     rw [hv7] at e7
     exact opG_of rfl (vv (op_load1 rfl ty_3 (tmp_ev (slot_ev e7 rfl)) (hS.bk 3 rfl) (ints_at' (by first | (simp only [List.length_set]; omega) | omega))) (And.intro rfl rfl))
    refine ⟨fun a w vs111 hA hS hd => ?_, ?_⟩
    ·skip
     exact opG_of rfl (vv (op_load1 rfl ty_3 (hA.ev rfl) (hS.bk 7 rfl) rfl) (And.intro rfl rfl))
    refine ⟨fun a w vs111 hA hS hd => ?_, ?_⟩
    ·skip
     obtain ⟨e9, rs9, hy9, hp9⟩ := hd 9 (by decide)
     obtain ⟨hv9, hr9⟩ := hy9; subst hr9
     rw [hv9] at e9
     exact opG_of rfl (vv (op_eql rfl (tmp_ev (slot_ev e9 rfl)) (evc _ _)) (And.intro rfl rfl))
    refine ⟨fun a w vs111 hA hS hd => ?_, ?_⟩
    ·skip
     obtain ⟨e5, rs5, hy5, hp5⟩ := hd 5 (by decide)
     obtain ⟨hv5, hr5⟩ := hy5; subst hr5
     rw [hv5] at e5
     obtain ⟨e8, rs8, hy8, hp8⟩ := hd 8 (by decide)
     obtain ⟨hv8, hr8⟩ := hy8; subst hr8
     rw [hv8] at e8
     obtain ⟨e10, rs10, hy10, hp10⟩ := hd 10 (by decide)
     obtain ⟨hv10, hr10⟩ := hy10; subst hr10
     rw [hv10] at e10
     exact opG_of rfl (vx (op_call rfl en_55 (ev3 (tmp_ev (slot_ev e5 rfl)) (tmp_ev (slot_ev e8 rfl)) (tmp_ev (slot_ev e10 rfl))) (with_ok _ _ _ (decide ((q : Int) = 0)) _)) (And.intro rfl rfl))
    trivial
   intro a112 w113 vs111 rsf117 hA114 hH116 hS115; clear hA110 hS102
   obtain ⟨hs_0, hy_0⟩ := hH116 0 (by decide)
   obtain ⟨hv_0, hr_0⟩ := hy_0
   obtain ⟨hs_1, hy_1⟩ := hH116 1 (by decide)
   obtain ⟨hv_1, hr_1⟩ := hy_1
   obtain ⟨hs_2, hy_2⟩ := hH116 2 (by decide)
   obtain ⟨hv_2, hr_2⟩ := hy_2
   obtain ⟨hs_3, hy_3⟩ := hH116 3 (by decide)
   obtain ⟨hv_3, hr_3⟩ := hy_3
   obtain ⟨hs_4, hy_4⟩ := hH116 4 (by decide)
   obtain ⟨hv_4, hr_4⟩ := hy_4
   obtain ⟨hs_5, hy_5⟩ := hH116 5 (by decide)
   obtain ⟨hv_5, hr_5⟩ := hy_5
   obtain ⟨hs_6, hy_6⟩ := hH116 6 (by decide)
   obtain ⟨hv_6, hr_6⟩ := hy_6
   obtain ⟨hs_7, hy_7⟩ := hH116 7 (by decide)
   obtain ⟨hv_7, hr_7⟩ := hy_7
   obtain ⟨hs_8, hy_8⟩ := hH116 8 (by decide)
   obtain ⟨hv_8, hr_8⟩ := hy_8
   obtain ⟨hs_9, hy_9⟩ := hH116 9 (by decide)
   obtain ⟨hv_9, hr_9⟩ := hy_9
   obtain ⟨hs_10, hy_10⟩ := hH116 10 (by decide)
   obtain ⟨hv_10, hr_10⟩ := hy_10
   obtain ⟨hs_11, hy_11⟩ := hH116 11 (by decide)
   obtain ⟨hv_11, hr_11⟩ := hy_11
   have hS118 : Sep NoB w w113 [(obR l75 (.loop (rc77 .busy none))), (marksR (D76 :: [])), G78, (blk b83 104 (ints ((allowedF R rs).getD q []))), (blk bx67 97 [(bptr bj27 0)]), (row v53 42 2 R.length (pairs (midW (outF (allowedF R rs) R.length q) ((allowedF R rs).getD q []) (decide ((q : Int) = 0)) k))), (blk bj27 119 [vr, vu, (Value.map (some bm28))]), (blk b14 3 [(Value.int .i64 (q : Int))]), (blk b9 28 [v53]), (blk b4 33 [vr]), (sl vr 2 R.length (pairs R)), (sl vu 3 rs.length (vtrips (runV lv rs))), (segsR false lv rs)] := by rw [show catR rsf117 0 12 = ([] : List Res) by (try simp only [catR, hr_0, hr_1, hr_2, hr_3, hr_4, hr_5, hr_6, hr_7, hr_8, hr_9, hr_10, hr_11]); (try rfl)] at hS115; exact hS115
   rw [hv_0] at hs_0
   have hA119 : Fr 49 [] [(31, v53), (9, (Value.int .i64 (k : Int))), (28, (Value.int .i64 (k : Int))), (27, (Value.int .i64 (R.length : Int))), (8, (bptr b83 0)), (5, (bptr b14 0)), (4, (bptr b9 0))] a112 := hA114.add (slot_ev hs_0 rfl); clear hA114
   rw [hv_1] at hs_1
   have hA120 : Fr 49 [] [(32, (Value.int .i64 (k : Int))), (31, v53), (9, (Value.int .i64 (k : Int))), (28, (Value.int .i64 (k : Int))), (27, (Value.int .i64 (R.length : Int))), (8, (bptr b83 0)), (5, (bptr b14 0)), (4, (bptr b9 0))] a112 := hA119.add (slot_ev hs_1 rfl); clear hA119
   rw [hv_11] at hs_11
   have hA121 : Fr 49 [] [(42, (Value.agg #[(Value.int .i64 (if (decide ((q : Int) = 0)) = true then (((allowedF R rs).getD q []).getD k 0) else min (((midW (outF (allowedF R rs) R.length q) ((allowedF R rs).getD q []) (decide ((q : Int) = 0)) k).getD k (0, 0)).1) (((allowedF R rs).getD q []).getD k 0))), (Value.int .i64 (if (decide ((q : Int) = 0)) = true then (((allowedF R rs).getD q []).getD k 0) else max (((midW (outF (allowedF R rs) R.length q) ((allowedF R rs).getD q []) (decide ((q : Int) = 0)) k).getD k (0, 0)).2) (((allowedF R rs).getD q []).getD k 0)))])), (32, (Value.int .i64 (k : Int))), (31, v53), (9, (Value.int .i64 (k : Int))), (28, (Value.int .i64 (k : Int))), (27, (Value.int .i64 (R.length : Int))), (8, (bptr b83 0)), (5, (bptr b14 0)), (4, (bptr b9 0))] a112 := hA120.add (slot_ev hs_11 rfl); clear hA120
   clear hH116 hS115 hs_0 hs_1 hs_2 hs_3 hs_4 hs_5 hs_6 hs_7 hs_8 hs_9 hs_10 hs_11
   clear hr_0
   clear hv_0
   clear hr_1
   clear hv_1
   clear hr_2
   clear hv_2
   clear hr_3
   clear hv_3
   clear hr_4
   clear hv_4
   clear hr_5
   clear hv_5
   clear hr_6
   clear hv_6
   clear hr_7
   clear hv_7
   clear hr_8
   clear hv_8
   clear hr_9
   clear hv_9
   clear hr_10
   clear hv_10
   clear hr_11
   clear hv_11
   refine st hA121 (op_indexS rfl un_28 ty_42 (hA121.ev rfl) (i := k) (hA121.ev rfl) (SlAt.of_row (hS118.ok_row 5 rfl)) (by decide) (by first | omega | (simp only [midW_len, outF_len]; omega))) rfl rfl (by decide) fun a122 hA123 => ?_; clear hA121 a112
   refine sts hA123 (op_storeE hS118 rfl ty_42 (hA123.ev rfl) (hA123.ev rfl) (i := 5) rfl (vs := [(Value.int .i64 (if (decide ((q : Int) = 0)) = true then (((allowedF R rs).getD q []).getD k 0) else min (((midW (outF (allowedF R rs) R.length q) ((allowedF R rs).getD q []) (decide ((q : Int) = 0)) k).getD k (0, 0)).1) (((allowedF R rs).getD q []).getD k 0))), (Value.int .i64 (if (decide ((q : Int) = 0)) = true then (((allowedF R rs).getD q []).getD k 0) else max (((midW (outF (allowedF R rs) R.length q) ((allowedF R rs).getD q []) (decide ((q : Int) = 0)) k).getD k (0, 0)).2) (((allowedF R rs).getD q []).getD k 0)))]) rfl rfl rfl (by simp only [pairs_length, midW_len, outF_len]; omega) (by decide)) rfl rfl ?_
   intro _ w124 hS125 hA127; have hS126 := hS125.row_say (i := 5) rfl (n' := R.length) (xs' := (pairs ((midW (outF (allowedF R rs) R.length q) ((allowedF R rs).getD q []) (decide ((q : Int) = 0)) k).set k (if (decide ((q : Int) = 0)) = true then (((allowedF R rs).getD q []).getD k 0) else min (((midW (outF (allowedF R rs) R.length q) ((allowedF R rs).getD q []) (decide ((q : Int) = 0)) k).getD k (0, 0)).1) (((allowedF R rs).getD q []).getD k 0), if (decide ((q : Int) = 0)) = true then (((allowedF R rs).getD q []).getD k 0) else max (((midW (outF (allowedF R rs) R.length q) ((allowedF R rs).getD q []) (decide ((q : Int) = 0)) k).getD k (0, 0)).2) (((allowedF R rs).getD q []).getD k 0))))) rfl (pairs_set _ _ (_, _)); clear hS125 hA123 hS118
   refine wl_nil ?_
   refine blk_n ?_
   refine then_n ?_
   refine c_region ?_
   refine st hA127 (op_add rfl (hA127.ev rfl) (evc _ _) (by omega) (by omega)) rfl rfl (by decide) fun a128 hA129 => ?_; clear hA127 a122
   refine st hA129 (op_move rfl (hA129.ev rfl)) rfl rfl (by decide) fun a130 hA131 => ?_; clear hA129 a128
   refine wl_nil ?_
   exact then_n ⟨k + 1, ⟨hA131.as _ rfl, (hS126.row_say (i := 5) rfl rfl (congrArg pairs (midW_set (old := (outF (allowedF R rs) R.length q)) (l := (allowedF R rs).getD q []) (first := decide ((q : Int) = 0)) (b := k) (by rw [outF_len]; omega)))), by omega⟩, by omega⟩
  ·skip
   rw [decide_eq_false hb105] at hA104
   refine c_false hA104 rfl ?_
   refine c_exit ?_
   refine then_exit ?_
   refine then_exit ?_
   refine blk_hit ?_
   refine then_n ?_
   refine c_region ?_
   refine st hA104 (op_load1 rfl ty_3 (hA104.ev rfl) (hS102.bk 7 rfl) rfl) rfl rfl (by decide) fun a132 hA133 => ?_; clear hA104 a103
   refine st hA133 (op_add rfl (hA133.ev rfl) (evc _ _) (by omega) (by omega)) rfl rfl (by decide) fun a134 hA135 => ?_; clear hA133 a132
   refine sts hA135 (op_store hS102 rfl ty_3 (hA135.ev rfl) (hA135.ev rfl) (i := 7) rfl (vs := [(Value.int .i64 ((q : Int) + 1))]) rfl rfl rfl (Nat.le_of_ble_eq_true rfl)) rfl rfl ?_
   intro _ w136 hS137 hA138; clear hA135
   have hS139 : Sep NoB w w136 [(obR l75 (.loop (rc77 .busy none))), (marksR (D76 :: [])), G78, (blk b83 104 (ints ((allowedF R rs).getD q []))), (blk bx67 97 [(bptr bj27 0)]), (row v53 42 2 R.length (pairs (midW (outF (allowedF R rs) R.length q) ((allowedF R rs).getD q []) (decide ((q : Int) = 0)) k))), (blk bj27 119 [vr, vu, (Value.map (some bm28))]), (blk b14 3 [(Value.int .i64 ((q : Int) + 1))]), (blk b9 28 [v53]), (blk b4 33 [vr]), (sl vr 2 R.length (pairs R)), (sl vu 3 rs.length (vtrips (runV lv rs))), (segsR false lv rs)] := hS137; clear hS137 hS102
   refine wl_nil ?_
   refine blk_n ?_
   have hS140 : Sep NoB w w136 [(obR l75 (.loop (rc77 .busy none))), (marksR (D76 :: [])), G78, (blk bx67 97 [(bptr bj27 0)]), (row v53 42 2 R.length (pairs (midW (outF (allowedF R rs) R.length q) ((allowedF R rs).getD q []) (decide ((q : Int) = 0)) k))), (blk bj27 119 [vr, vu, (Value.map (some bm28))]), (blk b14 3 [(Value.int .i64 ((q : Int) + 1))]), (blk b9 28 [v53]), (blk b4 33 [vr]), (sl vr 2 R.length (pairs R)), (sl vu 3 rs.length (vtrips (runV lv rs))), (segsR false lv rs)] := hS139.keep [0, 1, 2, 4, 5, 6, 7, 8, 9, 10, 11, 12] (by decide) _ rfl rfl; clear hS139
   exact re_n ⟨_, rfl, rfl⟩ (hS140.row_say (i := 4) rfl rfl (by rw [outF_succ _ _ _ (by omega)]))
 intro L_ hL_ D145 a141 w142 hA144 hS143; obtain ⟨rfl⟩ := hL_; clear hA68 hS69
 refine blk_n ?_
 refine then_n ?_
 refine c_seq ?_
 have hA146 := hA144.as [(5, (bptr b14 0)), (4, (bptr b9 0))] rfl; clear hA144
 refine c_drawF mixed hA146 hS143 2 1 rfl rfl [[], []] [(fun (vs147 : Nat → Value) (v_ : Value) (rs_ : List Res) => v_ = v53 ∧ rs_ = []), (fun (vs147 : Nat → Value) (v_ : Value) (rs_ : List Res) => v_ = (Value.int .i64 ((allowedF R rs).length : Int)) ∧ rs_ = [])] (by decide +kernel) (by decide +kernel) (by decide +kernel) rfl rfl ⟨(fun _ _ _ _ _ h_ => h_), (fun _ _ _ _ _ h_ => h_), trivial⟩ ?_ ?_ ?_
 ·skip
  refine ⟨fun a w vs147 hA hS hd => ?_, ?_⟩
  ·skip
   exact opG_of rfl (vv (op_load1 rfl ty_28 (hA.ev rfl) (hS.bk 6 rfl) rfl) (And.intro rfl rfl))
  refine ⟨fun a w vs147 hA hS hd => ?_, ?_⟩
  ·skip
   exact opG_of rfl (vv (op_load1 rfl ty_3 (hA.ev rfl) (hS.bk 5 rfl) rfl) (And.intro rfl rfl))
  trivial
 ·skip
  intro a148 w149 vs147 rsf153 hA150 hH152 hS151; clear hA146 hS143
  obtain ⟨hs_0, hy_0⟩ := hH152 0 (by decide)
  obtain ⟨hv_0, hr_0⟩ := hy_0
  obtain ⟨hs_1, hy_1⟩ := hH152 1 (by decide)
  obtain ⟨hv_1, hr_1⟩ := hy_1
  have hS154 : Sep NoB w w149 [(marksR (D145 :: [])), (memo bm28 (KA rs)), (blk bx67 97 [(bptr bj27 0)]), (row v53 42 2 R.length (pairs (outF (allowedF R rs) R.length (allowedF R rs).length))), (blk bj27 119 [vr, vu, (Value.map (some bm28))]), (blk b14 3 [(Value.int .i64 ((allowedF R rs).length : Int))]), (blk b9 28 [v53]), (blk b4 33 [vr]), (sl vr 2 R.length (pairs R)), (sl vu 3 rs.length (vtrips (runV lv rs))), (segsR false lv rs)] := by rw [show catR rsf153 0 2 = ([] : List Res) by (try simp only [catR, hr_0, hr_1]); (try rfl)] at hS151; exact hS151
  rw [hv_0] at hs_0
  have hA155 : Fr 49 (marks (D145 :: [])) [(47, v53), (5, (bptr b14 0)), (4, (bptr b9 0))] a148 := hA150.add (slot_ev hs_0 rfl); clear hA150
  rw [hv_1] at hs_1
  have hA156 : Fr 49 (marks (D145 :: [])) [(48, (Value.int .i64 ((allowedF R rs).length : Int))), (47, v53), (5, (bptr b14 0)), (4, (bptr b9 0))] a148 := hA155.add (slot_ev hs_1 rfl); clear hA155
  clear hH152 hS151 hs_0 hs_1
  clear hr_0
  clear hv_0
  clear hr_1
  clear hv_1
  refine sts hA156 (op_store hS154 rfl ty_28 (hA156.ev rfl) (hA156.ev rfl) (i := 6) rfl (vs := [v53]) (isSl_cells (SlAt.isSl (SlAt.of_row (hS154.ok_row 3 rfl)))) rfl (all_c (SlAt.one (SlAt.of_row (hS154.ok_row 3 rfl))) all_n) (Nat.le_of_ble_eq_true rfl)) rfl rfl ?_
  intro _ w157 hS158 hA159; clear hA156
  have hS160 : Sep NoB w w157 [(marksR (D145 :: [])), (memo bm28 (KA rs)), (blk bx67 97 [(bptr bj27 0)]), (row v53 42 2 R.length (pairs (outF (allowedF R rs) R.length (allowedF R rs).length))), (blk bj27 119 [vr, vu, (Value.map (some bm28))]), (blk b14 3 [(Value.int .i64 ((allowedF R rs).length : Int))]), (blk b9 28 [v53]), (blk b4 33 [vr]), (sl vr 2 R.length (pairs R)), (sl vu 3 rs.length (vtrips (runV lv rs))), (segsR false lv rs)] := hS158; clear hS158 hS154
  refine sts hA159 (op_store hS160 rfl ty_3 (hA159.ev rfl) (hA159.ev rfl) (i := 5) rfl (vs := [(Value.int .i64 ((allowedF R rs).length : Int))]) rfl rfl rfl (Nat.le_of_ble_eq_true rfl)) rfl rfl ?_
  intro _ w161 hS162 hA163; clear hA159
  have hS164 : Sep NoB w w161 [(marksR (D145 :: [])), (memo bm28 (KA rs)), (blk bx67 97 [(bptr bj27 0)]), (row v53 42 2 R.length (pairs (outF (allowedF R rs) R.length (allowedF R rs).length))), (blk bj27 119 [vr, vu, (Value.map (some bm28))]), (blk b14 3 [(Value.int .i64 ((allowedF R rs).length : Int))]), (blk b9 28 [v53]), (blk b4 33 [vr]), (sl vr 2 R.length (pairs R)), (sl vu 3 rs.length (vtrips (runV lv rs))), (segsR false lv rs)] := hS162; clear hS162 hS160
  refine st hA163 (op_assign rfl (evc _ _)) rfl rfl (by decide) fun a165 hA166 => ?_; clear hA163 a148
  refine wl_nil ?_
  refine then_n ?_
  refine c_ret ?_
  refine fin_runM hA166 (.inl rfl) hS164 ?_
  intro w167 hS168; clear hS164
  refine ⟨_, (run_results3 hA166 rfl (.cell1 rfl ty_28 (hS168.bk 5 rfl) rfl) (.cell1 rfl ty_3 (hS168.bk 4 rfl) rfl) (.tmp rfl)), ?_⟩
  exact ⟨_, rfl, hS168.keep [2] (by decide) _ rfl rfl⟩
 ·skip
  intro a169 w170 vs147 rsf174 hA171 hH173 hrq hS172; clear hA146 hS143
  obtain ⟨hs_0, hy_0⟩ := hH173 0 (by decide) (by decide)
  obtain ⟨hv_0, hr_0⟩ := hy_0
  have hS175 : Sep NoB w w170 [(marksR (D145 :: [])), (memo bm28 (KA rs)), (blk bx67 97 [(bptr bj27 0)]), (row v53 42 2 R.length (pairs (outF (allowedF R rs) R.length (allowedF R rs).length))), (blk bj27 119 [vr, vu, (Value.map (some bm28))]), (blk b14 3 [(Value.int .i64 ((allowedF R rs).length : Int))]), (blk b9 28 [v53]), (blk b4 33 [vr]), (sl vr 2 R.length (pairs R)), (sl vu 3 rs.length (vtrips (runV lv rs))), (segsR false lv rs)] := by rw [show catR rsf174 0 2 = ([] : List Res) by (try simp only [catR, hr_0, hrq]); (try rfl)] at hS172; exact hS172
  rw [hv_0] at hs_0
  have hA176 : Fr 49 (marks (D145 :: [])) [(47, v53), (5, (bptr b14 0)), (4, (bptr b9 0))] a169 := hA171.add (slot_ev hs_0 rfl); clear hA171
  clear hH173 hS172 hs_0 hrq
  clear hr_0
  clear hv_0
  refine sts hA176 (op_store hS175 rfl ty_28 (hA176.ev rfl) (hA176.ev rfl) (i := 6) rfl (vs := [v53]) (isSl_cells (SlAt.isSl (SlAt.of_row (hS175.ok_row 3 rfl)))) rfl (all_c (SlAt.one (SlAt.of_row (hS175.ok_row 3 rfl))) all_n) (Nat.le_of_ble_eq_true rfl)) rfl rfl ?_
  intro _ w177 hS178 hA179; clear hA176
  have hS180 : Sep NoB w w177 [(marksR (D145 :: [])), (memo bm28 (KA rs)), (blk bx67 97 [(bptr bj27 0)]), (row v53 42 2 R.length (pairs (outF (allowedF R rs) R.length (allowedF R rs).length))), (blk bj27 119 [vr, vu, (Value.map (some bm28))]), (blk b14 3 [(Value.int .i64 ((allowedF R rs).length : Int))]), (blk b9 28 [v53]), (blk b4 33 [vr]), (sl vr 2 R.length (pairs R)), (sl vu 3 rs.length (vtrips (runV lv rs))), (segsR false lv rs)] := hS178; clear hS178 hS175
  refine st hA179 (op_load1 rfl ty_3 (hA179.ev rfl) (hS180.bk 5 rfl) rfl) rfl rfl (by decide) fun a181 hA182 => ?_; clear hA179 a169
  refine sts hA182 (op_store hS180 rfl ty_3 (hA182.ev rfl) (hA182.ev rfl) (i := 5) rfl (vs := [(Value.int .i64 ((allowedF R rs).length : Int))]) rfl rfl rfl (Nat.le_of_ble_eq_true rfl)) rfl rfl ?_
  intro _ w183 hS184 hA185; clear hA182
  have hS186 : Sep NoB w w183 [(marksR (D145 :: [])), (memo bm28 (KA rs)), (blk bx67 97 [(bptr bj27 0)]), (row v53 42 2 R.length (pairs (outF (allowedF R rs) R.length (allowedF R rs).length))), (blk bj27 119 [vr, vu, (Value.map (some bm28))]), (blk b14 3 [(Value.int .i64 ((allowedF R rs).length : Int))]), (blk b9 28 [v53]), (blk b4 33 [vr]), (sl vr 2 R.length (pairs R)), (sl vu 3 rs.length (vtrips (runV lv rs))), (segsR false lv rs)] := hS184; clear hS184 hS180
  refine st hA185 (op_assign rfl (evc _ _)) rfl rfl (by decide) fun a187 hA188 => ?_; clear hA185 a181
  refine wl_nil ?_
  refine then_n ?_
  refine c_ret ?_
  refine fin_runM hA188 (.inl rfl) hS186 ?_
  intro w189 hS190; clear hS186
  refine ⟨_, (run_results3 hA188 rfl (.cell1 rfl ty_28 (hS190.bk 5 rfl) rfl) (.cell1 rfl ty_3 (hS190.bk 4 rfl) rfl) (.tmp rfl)), ?_⟩
  exact ⟨_, rfl, hS190.keep [2] (by decide) _ rfl rfl⟩

end Go.Proofs.Ytkkglkdnnfegkaa
