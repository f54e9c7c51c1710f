/-
  Walks through the functions of the seat, printed by a program of ours (gowalk), a theorem a function: what the call returns and what it leaves in memory.
-/
import Derived.Test.YtfhmigoddaaljaaFb
import Derived.Test.YtfhmigoddaaljaaPlain
set_option linter.unusedSimpArgs false
set_option linter.unusedVariables false
namespace Go.Proofs.Ytfhmigoddaaljaa
open Go.RowKit Go.Shelf Go.Eng
theorem from_zero (be bout bt bs bj bm : Nat) (vl vs vb : Value) (lv : List Value) (d : RD) (hVd : Valid d) (hlvl : lv.length = d.tols.length) (hrdl : d.rds.length = d.tols.length) (l : List Int) (off : List Bool) (next : Nat) (xl vo : Value) (ov : List Value) (ol : List (List Int)) (w : World) (X : Nat → Prop) (hoff : off.length = 6) (hl : l.length + 0 ≤ 1000) (hbd : ol.length + (fromL d 0 l off next).length ≤ 1000000) (hJ : Sep X w w [(row xl 3 1 l.length (ints l)), (blk bout 51 [vo]), (row vo 23 1 ov.length ov), (lstR ov ol), (memo bm (KR d)), (rob be 88 [(Value.func (.func 52) #[(bptr bj 0)] #[])]), (rob bs 114 [(Value.func (.func 78) #[] #[(bptr be 0), (bptr bout 0), (bptr bt 0), (bptr bs 0)])]), (rob bt 83 [(bptr bj 0)]), (rob bj 107 [vl, vs, (Value.int .i64 d.spread), vb, (Value.map (some bm))]), (sl vl 2 d.lots.length (pairs d.lots)), (sl vs 1 d.samples.length (ints d.samples)), (sl vb 2 d.tols.length (vpairs (d.tols.zip lv))), (rdsR lv d.rds)]) :
  Calls Try.prog 78 #[xl, (Value.agg (bools off).toArray), (Value.int .i64 (next : Int)), (Value.int .i64 0), (bptr be 0), (bptr bout 0), (bptr bt 0), (bptr bs 0)] w (Ret fun v w' => v = .tuple #[] ∧ ∃ vo' ov', Sep X w w' [(row xl 3 1 l.length (ints l)), (blk bout 51 [vo']), (row vo' 23 1 ov'.length ov'), (lstR ov' (ol ++ fromL d 0 l off next)), (memo bm (KR d)), (rob be 88 [(Value.func (.func 52) #[(bptr bj 0)] #[])]), (rob bs 114 [(Value.func (.func 78) #[] #[(bptr be 0), (bptr bout 0), (bptr bt 0), (bptr bs 0)])]), (rob bt 83 [(bptr bj 0)]), (rob bj 107 [vl, vs, (Value.int .i64 d.spread), vb, (Value.map (some bm))]), (sl vl 2 d.lots.length (pairs d.lots)), (sl vs 1 d.samples.length (ints d.samples)), (sl vb 2 d.tols.length (vpairs (d.tols.zip lv))), (rdsR lv d.rds)]) := by
 refine calls_enter Try.func78 rfl fun a0 hA0 => ?_
 replace hA0 : Fr 49 [] [(0, xl), (1, (Value.agg (bools off).toArray)), (2, (Value.int .i64 (next : Int))), (3, (Value.int .i64 0)), (4, (bptr be 0)), (5, (bptr bout 0)), (6, (bptr bt 0)), (7, (bptr bs 0))] a0 := hA0
 have hol := hJ.lst_len 3 rfl; have hnb := hVd.nb
 have hS0 : Sep X w w [(row xl 3 1 l.length (ints l)), (blk bout 51 [vo]), (row vo 23 1 ov.length ov), (lstR ov ol), (memo bm (KR d)), (rob be 88 [(Value.func (.func 52) #[(bptr bj 0)] #[])]), (rob bs 114 [(Value.func (.func 78) #[] #[(bptr be 0), (bptr bout 0), (bptr bt 0), (bptr bs 0)])]), (rob bt 83 [(bptr bj 0)]), (rob bj 107 [vl, vs, (Value.int .i64 d.spread), vb, (Value.map (some bm))]), (sl vl 2 d.lots.length (pairs d.lots)), (sl vs 1 d.samples.length (ints d.samples)), (sl vb 2 d.tols.length (vpairs (d.tols.zip lv))), (rdsR lv d.rds)] := hJ
 refine c_seq ?_
 refine c_region ?_
 refine stw hA0 (op_box hS0 rfl (hA0.ev rfl) (cs := (bools off)) rfl) rfl rfl (by decide) ?_
 rintro a1 _ w3 ⟨b4, rfl, hS5⟩ hA2; clear hA0 hS0 a0
 refine wl_nil ?_
 refine then_n ?_
 refine c_seq ?_
 refine c_seq ?_
 refine c_region ?_
 refine st hA2 (op_move rfl (hA2.ev rfl)) rfl rfl (by decide) fun a6 hA7 => ?_; clear hA2 a1
 refine st hA7 (op_eql rfl (hA7.ev rfl) (evc _ _)) rfl rfl (by decide) fun a8 hA9 => ?_; clear hA7 a6
 refine wl_nil ?_
 refine then_n ?_
 refine c_true hA9 rfl ?_
 refine c_seq ?_
 refine c_seq ?_
 have hA10 := hA9.as [(9, (bptr b4 0)), (0, xl), (4, (bptr be 0)), (5, (bptr bout 0))] rfl; clear hA9
 refine c_region ?_
 refine st hA10 (op_load1 rfl ty_88 (hA10.ev rfl) (hS5.rk 6 rfl) rfl) rfl rfl (by decide) fun a11 hA12 => ?_; clear hA10 a8
 refine st hA12 (op_loadA rfl ty_85 (hA12.ev rfl) (hS5.bk 0 rfl) (l := (bools off)) (drop_take_all _ _ (by simp [bools_length, offUpto_length, hoff])) (by simp [bools_length, offUpto_length, hoff])) rfl rfl (by decide) fun a13 hA14 => ?_; clear hA12 a11
 refine stw hA14 (op_callv rfl (hA14.ev rfl) en_52 (ev1 (hA14.ev rfl)) (explain_ok _ _ off vl vs vb lv d _ (by simp [offUpto_length, hoff]) hVd hlvl hrdl (hS5.lendM (i := 5) rfl [9, 10, 11, 12, 13] ⟨rfl, by decide, hS5.rk 9 rfl, ⟨_, rfl, fun _ hz => hz⟩, rfl, by decide, hS5.sk 10 rfl, ⟨_, rfl, fun _ hz => hz⟩, rfl, by decide, hS5.sk 11 rfl, ⟨_, rfl, fun _ hz => hz⟩, rfl, by decide, hS5.sk 12 rfl, ⟨_, rfl, fun _ hz => hz⟩, rfl, by decide, hS5.ok 13 _ rfl, ⟨_, rfl, fun _ hz => hz⟩, trivial⟩))) rfl rfl (by decide) ?_
 rintro a15 _ w17 ⟨rfl, hE18, hM19⟩ hA16; have hS20 := hS5.updM (i := 5) rfl hE18 hM19; clear hE18 hM19 hA14 hS5 a13
 refine wl_nil ?_
 refine then_n ?_
 rcases Bool.eq_false_or_eq_true ((explB d off)) with hb21 | hb21
 ·skip
  rw [hb21] at hA16
  refine c_true hA16 rfl ?_
  have hA22 := hA16.as [(0, xl), (5, (bptr bout 0))] rfl; clear hA16
  have hB23 := hS20.below
  refine c_drawnZ mixed hA22 hS20 4 [[], [], [1], [2]] [(Yd.val vo), (Yd.val xl), (Yd.exr w17.heap.size 3 1 l.length (ints l) (fun u_ => u_)), (Yd.exb w17.heap.size 23 3 1 l.length (ints l))] (by decide +kernel) rfl rfl ?_ ?_
  ·skip
   refine ⟨fun a w hA hS hz hd => ?_, ?_⟩
   ·skip
    exact opG_of rfl (dv (op_load1 rfl ty_51 (hA.ev rfl) (hS.bk 2 rfl) rfl) hS rfl)
   refine ⟨fun a w hA hS hz hd => ?_, ?_⟩
   ·skip
    exact opG_of rfl (dv (op_move rfl (hA.ev rfl)) hS rfl)
   refine ⟨fun a w hA hS hz hd => ?_, ?_⟩
   ·skip
    have e1 := has_ev (hd 1 (by decide)) rfl (fun _ h => h)
    exact opG_of rfl (dxe (op_call rfl en_79 (ev1 (tmp_ev e1)) (clone_int l _ _ (SlAt.of_row (hS.ok_row 1 rfl)) (by omega))) hS (fun v w' h => ⟨h.1, v, rfl, row_of_owns hz h.2⟩))
   refine ⟨fun a w hA hS hz hd => ?_, ?_⟩
   ·skip
    obtain ⟨_, e2, u_, rfl, hro, hbo⟩ := has_get (hd 2 (by decide)) rfl
    exact opG_of rfl (dexb hS hz rfl (pv1 (tmp_ev e2)) un_51 ty_23 ze_23 (fill_one_23 _ (SlAt.isSl (SlAt.of_row hro))) hro hbo (fun _ _ h => h))
   trivial
  intro a24 w25 hA26 hS27 hH28; clear hA22 hS20
  have hA30 := hA26.add (has_ev (hH28 0 (by decide)) rfl (fun _ h => h)); clear hA26
  obtain ⟨_, ht36, u37, b32, rfl, hb33, hB34, hr38, hn39⟩ := has_get (hH28 3 (by decide)) rfl
  have hA31 := hA30.add ht36; have hS35 := hS27.addNew2 hB23 (r := blk b32 23 [u37]) (s := row u37 3 1 l.length (ints l)) hb33 hr38 (fun x hx => by cases hx; exact hB34) (fun x hx => (hn39 x hx).1) (fun x hx hx2 => (hn39 x hx2).2 hx); clear hA30 hS27 ht36 hb33 hB34 hr38 hn39
  clear hH28
  refine stw hA31 (op_append hS35 rfl un_51 el_23 (hA31.ev rfl) (hA31.ev rfl) (i := 5) rfl (SlAt.of_blk (hS35.bk 0 rfl) rfl (Nat.le_of_ble_eq_true rfl)) (all_c (SlAt.one (SlAt.of_row (hS35.ok_row 1 rfl))) all_n) (by simp only [maxLen]; omega) (by omega)) rfl rfl (by decide) ?_
  intro a40 v43 w42 hS44 hA41
  have hS45 := hS44.row_say (i := 5) rfl (n' := (ov ++ [u37]).length) (xs' := (ov ++ [u37])) (by simp) rfl; clear hS44 hA31 hS35 a24
  refine sts hA41 (op_store hS45 rfl ty_51 (hA41.ev rfl) (hA41.ev rfl) (i := 4) rfl (vs := [v43]) (isSl_cells (SlAt.isSl (SlAt.of_row (hS45.ok_row 5 rfl)))) rfl (all_c (SlAt.one (SlAt.of_row (hS45.ok_row 5 rfl))) all_n) (Nat.le_of_ble_eq_true rfl)) rfl rfl ?_
  intro _ w46 hS47 hA48; clear hA41
  have hS49 : Sep X w w46 [(blk b32 23 [u37]), (row u37 3 1 l.length (ints l)), (blk b4 85 (bools off)), (row xl 3 1 l.length (ints l)), (blk bout 51 [v43]), (row v43 23 1 ((ov ++ [u37]).length) (ov ++ [u37])), (lstR ov ol), (memo bm (KR d)), (rob be 88 [(Value.func (.func 52) #[(bptr bj 0)] #[])]), (rob bs 114 [(Value.func (.func 78) #[] #[(bptr be 0), (bptr bout 0), (bptr bt 0), (bptr bs 0)])]), (rob bt 83 [(bptr bj 0)]), (rob bj 107 [vl, vs, (Value.int .i64 d.spread), vb, (Value.map (some bm))]), (sl vl 2 d.lots.length (pairs d.lots)), (sl vs 1 d.samples.length (ints d.samples)), (sl vb 2 d.tols.length (vpairs (d.tols.zip lv))), (rdsR lv d.rds)] := hS47; clear hS47 hS45
  refine wl_nil ?_
  refine then_n ?_
  refine c_ret ?_
  refine then_ret ?_
  refine fin_run hA48 (.inl rfl) (run_results0 rfl _) ?_
  have hS50 : Sep X w w46 [(row u37 3 1 l.length (ints l)), (lstR ov ol), (row xl 3 1 l.length (ints l)), (blk bout 51 [v43]), (row v43 23 1 ((ov ++ [u37]).length) (ov ++ [u37])), (memo bm (KR d)), (rob be 88 [(Value.func (.func 52) #[(bptr bj 0)] #[])]), (rob bs 114 [(Value.func (.func 78) #[] #[(bptr be 0), (bptr bout 0), (bptr bt 0), (bptr bs 0)])]), (rob bt 83 [(bptr bj 0)]), (rob bj 107 [vl, vs, (Value.int .i64 d.spread), vb, (Value.map (some bm))]), (sl vl 2 d.lots.length (pairs d.lots)), (sl vs 1 d.samples.length (ints d.samples)), (sl vb 2 d.tols.length (vpairs (d.tols.zip lv))), (rdsR lv d.rds)] := hS49.keep [1, 6, 3, 4, 5, 7, 8, 9, 10, 11, 12, 13, 14, 15] (by decide) _ rfl rfl; clear hS49
  have hS51 := hS50.lst_snoc
  rw [show fromL d 0 l off next = [l] by rw [fromL, if_pos (by assumption)]]
  exact ⟨rfl, _, _, hS51.keep [1, 2, 3, 0, 4, 5, 6, 7, 8, 9, 10, 11, 12] (by decide) _ rfl rfl⟩
 ·skip
  rw [hb21] at hA16
  refine c_false hA16 rfl ?_
  refine c_skip ?_
  refine then_n ?_
  refine c_ret ?_
  refine then_ret ?_
  refine fin_run hA16 (.inl rfl) (run_results0 rfl _) ?_
  have hS52 : Sep X w w17 [(row xl 3 1 l.length (ints l)), (blk bout 51 [vo]), (row vo 23 1 ov.length ov), (lstR ov ol), (memo bm (KR d)), (rob be 88 [(Value.func (.func 52) #[(bptr bj 0)] #[])]), (rob bs 114 [(Value.func (.func 78) #[] #[(bptr be 0), (bptr bout 0), (bptr bt 0), (bptr bs 0)])]), (rob bt 83 [(bptr bj 0)]), (rob bj 107 [vl, vs, (Value.int .i64 d.spread), vb, (Value.map (some bm))]), (sl vl 2 d.lots.length (pairs d.lots)), (sl vs 1 d.samples.length (ints d.samples)), (sl vb 2 d.tols.length (vpairs (d.tols.zip lv))), (rdsR lv d.rds)] := hS20.keep [1, 2, 3, 4, 5, 6, 7, 8, 9, 10, 11, 12, 13] (by decide) _ rfl rfl; clear hS20
  rw [show fromL d 0 l off next = [] by rw [fromL, if_neg (by simp [*])], List.append_nil]
  exact ⟨rfl, _, _, hS52⟩

theorem from_succ (be bout bt bs bj bm : Nat) (vl vs vb : Value) (lv : List Value) (d : RD) (hVd : Valid d) (hlvl : lv.length = d.tols.length) (hrdl : d.rds.length = d.tols.length) (m : Nat) (ih : ∀ (l : List Int) (off : List Bool) (next : Nat) (xl vo : Value) (ov : List Value) (ol : List (List Int)) (w : World) (X : Nat → Prop) (hoff : off.length = 6) (hl : l.length + m ≤ 1000) (hbd : ol.length + (fromL d m l off next).length ≤ 1000000) (_ : Sep X w w [(row xl 3 1 l.length (ints l)), (blk bout 51 [vo]), (row vo 23 1 ov.length ov), (lstR ov ol), (memo bm (KR d)), (rob be 88 [(Value.func (.func 52) #[(bptr bj 0)] #[])]), (rob bs 114 [(Value.func (.func 78) #[] #[(bptr be 0), (bptr bout 0), (bptr bt 0), (bptr bs 0)])]), (rob bt 83 [(bptr bj 0)]), (rob bj 107 [vl, vs, (Value.int .i64 d.spread), vb, (Value.map (some bm))]), (sl vl 2 d.lots.length (pairs d.lots)), (sl vs 1 d.samples.length (ints d.samples)), (sl vb 2 d.tols.length (vpairs (d.tols.zip lv))), (rdsR lv d.rds)]), Calls Try.prog 78 #[xl, .agg (bools off).toArray, .int .i64 (next : Int), .int .i64 (m : Int), bptr be 0, bptr bout 0, bptr bt 0, bptr bs 0] w (Ret fun v w' => v = .tuple #[] ∧ ∃ vo' ov', Sep X w w' [(row xl 3 1 l.length (ints l)), (blk bout 51 [vo']), (row vo' 23 1 ov'.length ov'), (lstR ov' (ol ++ fromL d m l off next)), (memo bm (KR d)), (rob be 88 [(Value.func (.func 52) #[(bptr bj 0)] #[])]), (rob bs 114 [(Value.func (.func 78) #[] #[(bptr be 0), (bptr bout 0), (bptr bt 0), (bptr bs 0)])]), (rob bt 83 [(bptr bj 0)]), (rob bj 107 [vl, vs, (Value.int .i64 d.spread), vb, (Value.map (some bm))]), (sl vl 2 d.lots.length (pairs d.lots)), (sl vs 1 d.samples.length (ints d.samples)), (sl vb 2 d.tols.length (vpairs (d.tols.zip lv))), (rdsR lv d.rds)])) (l : List Int) (off : List Bool) (next : Nat) (xl vo : Value) (ov : List Value) (ol : List (List Int)) (w : World) (X : Nat → Prop) (hoff : off.length = 6) (hl : l.length + (m + 1) ≤ 1000) (hbd : ol.length + (fromL d (m + 1) l off next).length ≤ 1000000) (hJ : Sep X w w [(row xl 3 1 l.length (ints l)), (blk bout 51 [vo]), (row vo 23 1 ov.length ov), (lstR ov ol), (memo bm (KR d)), (rob be 88 [(Value.func (.func 52) #[(bptr bj 0)] #[])]), (rob bs 114 [(Value.func (.func 78) #[] #[(bptr be 0), (bptr bout 0), (bptr bt 0), (bptr bs 0)])]), (rob bt 83 [(bptr bj 0)]), (rob bj 107 [vl, vs, (Value.int .i64 d.spread), vb, (Value.map (some bm))]), (sl vl 2 d.lots.length (pairs d.lots)), (sl vs 1 d.samples.length (ints d.samples)), (sl vb 2 d.tols.length (vpairs (d.tols.zip lv))), (rdsR lv d.rds)]) :
  Calls Try.prog 78 #[xl, (Value.agg (bools off).toArray), (Value.int .i64 (next : Int)), (Value.int .i64 ((m : Int) + 1)), (bptr be 0), (bptr bout 0), (bptr bt 0), (bptr bs 0)] w (Ret fun v w' => v = .tuple #[] ∧ ∃ vo' ov', Sep X w w' [(row xl 3 1 l.length (ints l)), (blk bout 51 [vo']), (row vo' 23 1 ov'.length ov'), (lstR ov' (ol ++ fromL d (m + 1) l off next)), (memo bm (KR d)), (rob be 88 [(Value.func (.func 52) #[(bptr bj 0)] #[])]), (rob bs 114 [(Value.func (.func 78) #[] #[(bptr be 0), (bptr bout 0), (bptr bt 0), (bptr bs 0)])]), (rob bt 83 [(bptr bj 0)]), (rob bj 107 [vl, vs, (Value.int .i64 d.spread), vb, (Value.map (some bm))]), (sl vl 2 d.lots.length (pairs d.lots)), (sl vs 1 d.samples.length (ints d.samples)), (sl vb 2 d.tols.length (vpairs (d.tols.zip lv))), (rdsR lv d.rds)]) := by
 refine calls_enter Try.func78 rfl fun a0 hA0 => ?_
 replace hA0 : Fr 49 [] [(0, xl), (1, (Value.agg (bools off).toArray)), (2, (Value.int .i64 (next : Int))), (3, (Value.int .i64 ((m : Int) + 1))), (4, (bptr be 0)), (5, (bptr bout 0)), (6, (bptr bt 0)), (7, (bptr bs 0))] a0 := hA0
 have hnb := hVd.nb
 have hS0 : Sep X w w [(row xl 3 1 l.length (ints l)), (blk bout 51 [vo]), (row vo 23 1 ov.length ov), (lstR ov ol), (memo bm (KR d)), (rob be 88 [(Value.func (.func 52) #[(bptr bj 0)] #[])]), (rob bs 114 [(Value.func (.func 78) #[] #[(bptr be 0), (bptr bout 0), (bptr bt 0), (bptr bs 0)])]), (rob bt 83 [(bptr bj 0)]), (rob bj 107 [vl, vs, (Value.int .i64 d.spread), vb, (Value.map (some bm))]), (sl vl 2 d.lots.length (pairs d.lots)), (sl vs 1 d.samples.length (ints d.samples)), (sl vb 2 d.tols.length (vpairs (d.tols.zip lv))), (rdsR lv d.rds)] := hJ
 refine c_seq ?_
 refine c_region ?_
 refine stw hA0 (op_box hS0 rfl (hA0.ev rfl) (cs := (bools off)) rfl) rfl rfl (by decide) ?_
 rintro a1 _ w3 ⟨b4, rfl, hS5⟩ hA2; clear hA0 hS0 a0
 refine wl_nil ?_
 refine then_n ?_
 refine c_seq ?_
 refine c_seq ?_
 refine c_region ?_
 refine st hA2 (op_move rfl (hA2.ev rfl)) rfl rfl (by decide) fun a6 hA7 => ?_; clear hA2 a1
 refine st hA7 (op_eql rfl (hA7.ev rfl) (evc _ _)) rfl rfl (by decide) fun a8 hA9 => ?_; clear hA7 a6
 have hd10 : ¬ (((m : Int) + 1) = 0) := (by omega)
 rw [decide_eq_false hd10] at hA9
 refine wl_nil ?_
 refine then_n ?_
 refine c_false hA9 rfl ?_
 refine c_skip ?_
 refine then_n ?_
 refine c_seq ?_
 refine c_region ?_
 refine st hA9 (op_move rfl (hA9.ev rfl)) rfl rfl (by decide) fun a11 hA12 => ?_; clear hA9 a8
 refine st hA12 (op_assign rfl (hA12.ev rfl)) rfl rfl (by decide) fun a13 hA14 => ?_; clear hA12 a11
 refine wl_nil ?_
 refine then_n ?_
 refine c_block ?_
 have hA15 := hA14.as [(12, (Value.int .i64 (next : Int))), (9, (bptr b4 0)), (0, xl), (3, (Value.int .i64 ((m : Int) + 1))), (6, (bptr bt 0)), (7, (bptr bs 0))] rfl; clear hA14
 refine c_loop (G := Nat) (fun (k : Nat) a_ w_ => ∃ vo_ : Value, ∃ ov_ : List Value, Fr 49 [] [(12, (Value.int .i64 (k : Int))), (9, (bptr b4 0)), (0, xl), (3, (Value.int .i64 ((m : Int) + 1))), (6, (bptr bt 0)), (7, (bptr bs 0))] a_ ∧ Sep X w w_ [(blk b4 85 (bools off)), (row xl 3 1 l.length (ints l)), (blk bout 51 [vo_]), (row vo_ 23 1 ov_.length ov_), (lstR ov_ (ol ++ (fromUpto d m l off next k))), (memo bm (KR d)), (rob be 88 [(Value.func (.func 52) #[(bptr bj 0)] #[])]), (rob bs 114 [(Value.func (.func 78) #[] #[(bptr be 0), (bptr bout 0), (bptr bt 0), (bptr bs 0)])]), (rob bt 83 [(bptr bj 0)]), (rob bj 107 [vl, vs, (Value.int .i64 d.spread), vb, (Value.map (some bm))]), (sl vl 2 d.lots.length (pairs d.lots)), (sl vs 1 d.samples.length (ints d.samples)), (sl vb 2 d.tols.length (vpairs (d.tols.zip lv))), (rdsR lv d.rds)] ∧ (next ≤ k) ∧ (k = next ∨ k ≤ d.tols.length)) (fun k => d.tols.length - k) next ⟨vo, ov, hA15.as _ rfl, (hS5.lst_say (i := 4) rfl (by rw [fromUpto_self, List.append_nil])), Nat.le_refl _, .inl rfl⟩ ?_
 clear hA15 hS5 a13
 rintro k a16 w18 ⟨vo_, ov_, hA17, hS19, hk1, hk2⟩
 refine c_seq ?_
 refine c_seq ?_
 refine c_region ?_
 refine st hA17 (op_move rfl (hA17.ev rfl)) rfl rfl (by decide) fun a20 hA21 => ?_; clear hA17 a16
 refine st hA21 (op_load1 rfl ty_83 (hA21.ev rfl) (hS19.rk 8 rfl) rfl) rfl rfl (by decide) fun a22 hA23 => ?_; clear hA21 a20
 refine st hA23 (op_nilCheck rfl (hA23.ev rfl)) rfl rfl (by decide) fun a24 hA25 => ?_; clear hA23 a22
 refine st hA25 (op_field rfl fd_107_0 (hA25.ev rfl)) rfl rfl (by decide) fun a26 hA27 => ?_; clear hA25 a24
 refine st hA27 (op_field rfl fd_34_3 (hA27.ev rfl)) rfl rfl (by decide) fun a28 hA29 => ?_; clear hA27 a26
 refine st hA29 (op_load1 rfl ty_32 (hA29.ev rfl) (hS19.rk 9 rfl) rfl) rfl rfl (by decide) fun a30 hA31 => ?_; clear hA29 a28
 refine st hA31 (op_lenS rfl un_32 (hA31.ev rfl) (hS19.sk 12 rfl)) rfl rfl (by decide) fun a32 hA33 => ?_; clear hA31 a30
 refine st hA33 (op_lss rfl (hA33.ev rfl) (hA33.ev rfl)) rfl rfl (by decide) fun a34 hA35 => ?_; clear hA33 a32
 refine wl_nil ?_
 refine then_n ?_
 by_cases hb36 : (k : Int) < (d.tols.length : Int)
 ·skip
  rw [decide_eq_true hb36] at hA35
  refine c_true hA35 rfl ?_
  refine c_skip ?_
  refine then_n ?_
  refine c_seq ?_
  refine c_block ?_
  refine c_seq ?_
  have hA37 := hA35.as [(12, (Value.int .i64 (k : Int))), (9, (bptr b4 0)), (0, xl), (3, (Value.int .i64 ((m : Int) + 1))), (6, (bptr bt 0)), (7, (bptr bs 0))] rfl; clear hA35
  refine c_region ?_
  refine st hA37 (op_loadA rfl ty_85 (hA37.ev rfl) (hS19.bk 0 rfl) (l := (bools off)) (drop_take_all _ _ (by simp [bools_length, offUpto_length, hoff])) (by simp [bools_length, offUpto_length, hoff])) rfl rfl (by decide) fun a38 hA39 => ?_; clear hA37 a34
  refine stw hA39 (op_alloc hS19 rfl ze_85 (cs := [(Value.bool false), (Value.bool false), (Value.bool false), (Value.bool false), (Value.bool false), (Value.bool false)]) rfl) rfl rfl (by decide) ?_
  rintro a40 _ w42 ⟨b43, rfl, hS44⟩ hA41; clear hA39 hS19 a38
  refine sts hA41 (op_store hS44 rfl ty_85 (hA41.ev rfl) (hA41.ev rfl) (i := 0) rfl (vs := (bools off)) rfl (by simp [bools_length, offUpto_length, hoff]) (bools_one _) (by decide)) rfl rfl ?_
  intro _ w45 hS46 hA48; have hS47 := hS46.blk_say (i := 0) rfl (cs' := (bools off)) (setFrom_all _ _ (Eq.symm (by simp [bools_length, offUpto_length, hoff]))); clear hS46 hA41 hS44
  refine wl_nil ?_
  refine then_n ?_
  refine c_seq ?_
  refine c_region ?_
  refine st hA48 (op_move rfl (hA48.ev rfl)) rfl rfl (by decide) fun a49 hA50 => ?_; clear hA48 a40
  refine st hA50 (op_indexA rfl un_85 ty_4 (hA50.ev rfl) (i := k) (hA50.ev rfl) (by omega)) rfl rfl (by decide) fun a51 hA52 => ?_; clear hA50 a49
  refine sts hA52 (op_store hS47 rfl ty_4 (hA52.ev rfl) (evc _ _) (i := 0) rfl (vs := [(Value.bool true)]) rfl rfl rfl (by simp only [bools_length, hoff]; omega)) rfl rfl ?_
  intro _ w53 hS54 hA56; have hS55 := hS54.blk_say (i := 0) rfl (cs' := (bools (off.set k true))) (by rw [setFrom_one, Nat.mul_one, Nat.zero_add, bools_set]); clear hS54 hA52 hS47
  refine wl_nil ?_
  refine then_n ?_
  have hA57 := hA56.as [(13, (bptr b43 0)), (12, (Value.int .i64 (k : Int))), (9, (bptr b4 0)), (0, xl), (3, (Value.int .i64 ((m : Int) + 1))), (6, (bptr bt 0)), (7, (bptr bs 0))] rfl; clear hA56
  have hB58 := hS55.below
  refine c_drawnA mixed hA57 hS55 10 [[], [], [], [2], [1, 3], [], [], [6], [], [8]] [(Yd.val (Value.func (.func 78) #[] #[(bptr be 0), (bptr bout 0), (bptr bt 0), (bptr bs 0)])), (Yd.val xl), (Yd.val (Value.int .i64 (k : Int))), (Yd.blt w53.heap.size 3 1 [(Value.int .i64 (k : Int))]), Yd.any, (Yd.val (Value.agg (bools (off.set k true)).toArray)), (Yd.val (Value.int .i64 (k : Int))), (Yd.val (Value.int .i64 ((k : Int) + 1))), (Yd.val (Value.int .i64 ((m : Int) + 1))), (Yd.val (Value.int .i64 (((m : Int) + 1) - 1)))] (by decide +kernel) rfl rfl 4 2 (by decide) rfl 1 ((ints l) ++ [(Value.int .i64 (k : Int))]) rfl ⟨ydb_val _ _, ydb_val _ _, ydb_val _ _, ydb_blt _ _ _ _, ydb_any _, ydb_val _ _, ydb_val _ _, ydb_val _ _, ydb_val _ _, ydb_val _ _, trivial⟩ ?_ ?_
  ·skip
   refine ⟨⟨fun _ a w hA hS hz hd => ?_, fun e_ => absurd e_ (by decide)⟩, ?_⟩
   ·skip
    exact opG_of rfl (dv (op_load1 rfl ty_114 (hA.ev rfl) (hS.rk 8 rfl) rfl) hS rfl)
   refine ⟨⟨fun _ a w hA hS hz hd => ?_, fun e_ => absurd e_ (by decide)⟩, ?_⟩
   ·skip
    exact opG_of rfl (dv (op_move rfl (hA.ev rfl)) hS rfl)
   refine ⟨⟨fun _ a w hA hS hz hd => ?_, fun e_ => absurd e_ (by decide)⟩, ?_⟩
   ·skip
    exact opG_of rfl (dv (op_move rfl (hA.ev rfl)) hS rfl)
   refine ⟨⟨fun _ a w hA hS hz hd => ?_, fun e_ => absurd e_ (by decide)⟩, ?_⟩
   ·skip
    have e2 := has_ev (hd 2 (by decide)) rfl (fun _ h => h)
    exact opG_of rfl (dbltZ hS hz rfl (pv1 (tmp_ev e2)) un_23 ty_3 ze_3 (by decide) (cs := [(Value.int .i64 (k : Int))]) (bs_3_1_0i _) (fun _ _ h => h))
   refine ⟨⟨fun e_ => absurd rfl e_, fun _ a w hA hS hz hd => ?_⟩, ?_⟩
   ·skip
    have e1 := has_ev (hd 1 (by decide)) rfl (fun _ h => h)
    obtain ⟨_, e3, b3, rfl, hp3, _⟩ := has_get (hd 3 (by decide)) rfl
    exact opG_of rfl (op_appendL hS hz rfl un_23 el_3 (tmp_ev e1) (tmp_ev e3) (i := 2) rfl (SlAt.of_blk hp3 rfl (by decide)) (by decide) rfl (by simp only [maxLen]; omega) (by omega))
   refine ⟨⟨fun _ a w hA hS hz hd => ?_, fun e_ => absurd e_ (by decide)⟩, ?_⟩
   ·skip
    exact opG_of rfl (dv (op_loadA rfl ty_85 (hA.ev rfl) (hS.bk 0 rfl) (l := (bools (off.set k true))) (drop_take_all _ _ (by simp [bools_length, offUpto_length, hoff])) (by simp [bools_length, offUpto_length, hoff])) hS rfl)
   refine ⟨⟨fun _ a w hA hS hz hd => ?_, fun e_ => absurd e_ (by decide)⟩, ?_⟩
   ·skip
    exact opG_of rfl (dv (op_move rfl (hA.ev rfl)) hS rfl)
   refine ⟨⟨fun _ a w hA hS hz hd => ?_, fun e_ => absurd e_ (by decide)⟩, ?_⟩
   ·skip
    have e6 := has_ev (hd 6 (by decide)) rfl (fun _ h => h)
    exact opG_of rfl (dv (op_add rfl (tmp_ev e6) (evc _ _) (by omega) (by omega)) hS rfl)
   refine ⟨⟨fun _ a w hA hS hz hd => ?_, fun e_ => absurd e_ (by decide)⟩, ?_⟩
   ·skip
    exact opG_of rfl (dv (op_move rfl (hA.ev rfl)) hS rfl)
   refine ⟨⟨fun _ a w hA hS hz hd => ?_, fun e_ => absurd e_ (by decide)⟩, ?_⟩
   ·skip
    have e8 := has_ev (hd 8 (by decide)) rfl (fun _ h => h)
    exact opG_of rfl (dv (op_sub rfl (tmp_ev e8) (evc _ _) (by omega) (by omega)) hS rfl)
   trivial
  intro a59 w60 hA61 hS62 hH63 hAp64; clear hA57 hS55
  have hA65 := hA61.add (has_ev (hH63 0 (by decide) (by decide)) rfl (fun _ h => h)); clear hA61
  obtain ⟨u67, ht68, hap69⟩ := has_get hAp64 rfl
  have hA66 := hA65.add ht68; clear hA65 ht68 hAp64
  have hA70 := hA66.add (has_ev (hH63 5 (by decide) (by decide)) rfl (fun _ h => h)); clear hA66
  have hA71 := hA70.add (has_ev (hH63 7 (by decide) (by decide)) rfl (fun _ h => h)); clear hA70
  have hA72 := hA71.add (has_ev (hH63 9 (by decide) (by decide)) rfl (fun _ h => h)); clear hA71
  clear hH63
  rcases appL_row hS62 hB58 (i0 := 2) rfl hap69 with ⟨hS73, hbk74⟩ | hS73
  ·skip
   clear hS62
   have hS79 := hS73.row_say (i := 2) rfl (n' := (l ++ [(k : Int)]).length) (xs' := ints (l ++ [(k : Int)])) (by simp) (by simp [ints]); clear hS73
   have hS80 : Sep X w w60 [(row u67 3 1 ((l ++ [(k : Int)]).length) (ints (l ++ [(k : Int)]))), (blk bout 51 [vo_]), (row vo_ 23 1 ov_.length ov_), (lstR ov_ (ol ++ (fromUpto d m l off next k))), (memo bm (KR d)), (rob be 88 [(Value.func (.func 52) #[(bptr bj 0)] #[])]), (rob bs 114 [(Value.func (.func 78) #[] #[(bptr be 0), (bptr bout 0), (bptr bt 0), (bptr bs 0)])]), (rob bt 83 [(bptr bj 0)]), (rob bj 107 [vl, vs, (Value.int .i64 d.spread), vb, (Value.map (some bm))]), (sl vl 2 d.lots.length (pairs d.lots)), (sl vs 1 d.samples.length (ints d.samples)), (sl vb 2 d.tols.length (vpairs (d.tols.zip lv))), (rdsR lv d.rds), (blk b43 85 (bools (off.set k true))), (blk b4 85 (bools off))] := hS79.keep [2, 3, 4, 5, 6, 7, 8, 9, 10, 11, 12, 13, 14, 0, 1] (by decide) _ rfl rfl; clear hS79
   refine stw hA72 (op_callv rfl (hA72.ev rfl) en_78 (ev4 (hA72.ev rfl) (hA72.ev rfl) (hA72.ev rfl) (hA72.ev rfl)) (by have hz := ih (l ++ [(k : Int)]) (off.set k true) (k + 1) _ _ _ _ _ (ownX [(row u67 3 1 ((l ++ [(k : Int)]).length) (ints (l ++ [(k : Int)]))), (blk bout 51 [vo_]), (row vo_ 23 1 ov_.length ov_), (lstR ov_ (ol ++ (fromUpto d m l off next k))), (memo bm (KR d)), (rob be 88 [(Value.func (.func 52) #[(bptr bj 0)] #[])]), (rob bs 114 [(Value.func (.func 78) #[] #[(bptr be 0), (bptr bout 0), (bptr bt 0), (bptr bs 0)])]), (rob bt 83 [(bptr bj 0)]), (rob bj 107 [vl, vs, (Value.int .i64 d.spread), vb, (Value.map (some bm))]), (sl vl 2 d.lots.length (pairs d.lots)), (sl vs 1 d.samples.length (ints d.samples)), (sl vb 2 d.tols.length (vpairs (d.tols.zip lv))), (rdsR lv d.rds)]) (by simp [hoff]) (by simp; omega) (by have hp := fromUpto_pre d m l off next k hk1 (by omega); rw [List.length_append]; omega) (Sep.enterG (A := [(row u67 3 1 ((l ++ [(k : Int)]).length) (ints (l ++ [(k : Int)]))), (blk bout 51 [vo_]), (row vo_ 23 1 ov_.length ov_), (lstR ov_ (ol ++ (fromUpto d m l off next k))), (memo bm (KR d)), (rob be 88 [(Value.func (.func 52) #[(bptr bj 0)] #[])]), (rob bs 114 [(Value.func (.func 78) #[] #[(bptr be 0), (bptr bout 0), (bptr bt 0), (bptr bs 0)])]), (rob bt 83 [(bptr bj 0)]), (rob bj 107 [vl, vs, (Value.int .i64 d.spread), vb, (Value.map (some bm))]), (sl vl 2 d.lots.length (pairs d.lots)), (sl vs 1 d.samples.length (ints d.samples)), (sl vb 2 d.tols.length (vpairs (d.tols.zip lv))), (rdsR lv d.rds)]) (B := [(blk b43 85 (bools (off.set k true))), (blk b4 85 (bools off))]) hS80); rw [show ((m : Int) + 1) - 1 = (m : Int) by omega]; exact hz)) rfl rfl (by decide) ?_
   rintro a76 _ w78 ⟨rfl, vo82, ov83, hT81⟩ hA77; clear hA72 a59
   have hS84 : Sep X w w78 [(row u67 3 1 ((l ++ [(k : Int)]).length) (ints (l ++ [(k : Int)]))), (blk bout 51 [vo82]), (row vo82 23 1 ov83.length ov83), (lstR ov83 ((ol ++ (fromUpto d m l off next k)) ++ fromL d m (l ++ [(k : Int)]) (off.set k true) (k + 1))), (memo bm (KR d)), (rob be 88 [(Value.func (.func 52) #[(bptr bj 0)] #[])]), (rob bs 114 [(Value.func (.func 78) #[] #[(bptr be 0), (bptr bout 0), (bptr bt 0), (bptr bs 0)])]), (rob bt 83 [(bptr bj 0)]), (rob bj 107 [vl, vs, (Value.int .i64 d.spread), vb, (Value.map (some bm))]), (sl vl 2 d.lots.length (pairs d.lots)), (sl vs 1 d.samples.length (ints d.samples)), (sl vb 2 d.tols.length (vpairs (d.tols.zip lv))), (rdsR lv d.rds), (blk b43 85 (bools (off.set k true))), (blk b4 85 (bools off))] := Sep.callG (A := [(row u67 3 1 ((l ++ [(k : Int)]).length) (ints (l ++ [(k : Int)]))), (blk bout 51 [vo_]), (row vo_ 23 1 ov_.length ov_), (lstR ov_ (ol ++ (fromUpto d m l off next k))), (memo bm (KR d)), (rob be 88 [(Value.func (.func 52) #[(bptr bj 0)] #[])]), (rob bs 114 [(Value.func (.func 78) #[] #[(bptr be 0), (bptr bout 0), (bptr bt 0), (bptr bs 0)])]), (rob bt 83 [(bptr bj 0)]), (rob bj 107 [vl, vs, (Value.int .i64 d.spread), vb, (Value.map (some bm))]), (sl vl 2 d.lots.length (pairs d.lots)), (sl vs 1 d.samples.length (ints d.samples)), (sl vb 2 d.tols.length (vpairs (d.tols.zip lv))), (rdsR lv d.rds)]) (B := [(blk b43 85 (bools (off.set k true))), (blk b4 85 (bools off))]) hS80 hT81 (lentOk_at ⟨.inl rfl, .inl rfl, .inl rfl, .inl rfl, .inl rfl, .inr ⟨5, rfl⟩, .inr ⟨6, rfl⟩, .inr ⟨7, rfl⟩, .inr ⟨8, rfl⟩, .inr ⟨9, rfl⟩, .inr ⟨10, rfl⟩, .inr ⟨11, rfl⟩, .inr ⟨12, rfl⟩, trivial⟩); clear hT81 hS80
   have hS85 := hbk74 _ _ _ _ (hS84.row_say (i := 0) rfl (n' := l.length + 1) (xs' := ints l ++ [Value.int .i64 (k : Int)]) (by simp) (by simp [ints])) 0 rfl (by simp [ints]); clear hS84
   refine wl_nil ?_
   refine blk_n ?_
   refine then_n ?_
   have hA86 := hA77.as [(12, (Value.int .i64 (k : Int))), (9, (bptr b4 0)), (0, xl), (3, (Value.int .i64 ((m : Int) + 1))), (6, (bptr bt 0)), (7, (bptr bs 0))] rfl; clear hA77
   refine c_region ?_
   refine st hA86 (op_move rfl (hA86.ev rfl)) rfl rfl (by decide) fun a87 hA88 => ?_; clear hA86 a76
   refine st hA88 (op_add rfl (hA88.ev rfl) (evc _ _) (by omega) (by omega)) rfl rfl (by decide) fun a89 hA90 => ?_; clear hA88 a87
   refine st hA90 (op_assign rfl (hA90.ev rfl)) rfl rfl (by decide) fun a91 hA92 => ?_; clear hA90 a89
   refine wl_nil ?_
   have hS93 : Sep X w w78 [(blk b4 85 (bools off)), (row xl 3 1 l.length (ints l)), (blk bout 51 [vo82]), (row vo82 23 1 ov83.length ov83), (lstR ov83 ((ol ++ (fromUpto d m l off next k)) ++ fromL d m (l ++ [(k : Int)]) (off.set k true) (k + 1))), (memo bm (KR d)), (rob be 88 [(Value.func (.func 52) #[(bptr bj 0)] #[])]), (rob bs 114 [(Value.func (.func 78) #[] #[(bptr be 0), (bptr bout 0), (bptr bt 0), (bptr bs 0)])]), (rob bt 83 [(bptr bj 0)]), (rob bj 107 [vl, vs, (Value.int .i64 d.spread), vb, (Value.map (some bm))]), (sl vl 2 d.lots.length (pairs d.lots)), (sl vs 1 d.samples.length (ints d.samples)), (sl vb 2 d.tols.length (vpairs (d.tols.zip lv))), (rdsR lv d.rds)] := hS85.keep [14, 0, 1, 2, 3, 4, 5, 6, 7, 8, 9, 10, 11, 12] (by decide) _ rfl rfl; clear hS85
   exact then_n ⟨k + 1, ⟨vo82, ov83, hA92.as _ rfl, (hS93.lst_say (i := 4) rfl (by rw [fromUpto_succ _ _ _ _ _ _ hk1, List.append_assoc])), by omega, by omega⟩, by omega⟩
  ·skip
   clear hS62
   have hS98 := hS73.row_say (i := 0) rfl (n' := (l ++ [(k : Int)]).length) (xs' := ints (l ++ [(k : Int)])) (by simp) (by simp [ints]); clear hS73
   have hS99 : Sep X w w60 [(row u67 3 1 ((l ++ [(k : Int)]).length) (ints (l ++ [(k : Int)]))), (blk bout 51 [vo_]), (row vo_ 23 1 ov_.length ov_), (lstR ov_ (ol ++ (fromUpto d m l off next k))), (memo bm (KR d)), (rob be 88 [(Value.func (.func 52) #[(bptr bj 0)] #[])]), (rob bs 114 [(Value.func (.func 78) #[] #[(bptr be 0), (bptr bout 0), (bptr bt 0), (bptr bs 0)])]), (rob bt 83 [(bptr bj 0)]), (rob bj 107 [vl, vs, (Value.int .i64 d.spread), vb, (Value.map (some bm))]), (sl vl 2 d.lots.length (pairs d.lots)), (sl vs 1 d.samples.length (ints d.samples)), (sl vb 2 d.tols.length (vpairs (d.tols.zip lv))), (rdsR lv d.rds), (blk b43 85 (bools (off.set k true))), (blk b4 85 (bools off)), (row xl 3 1 l.length (ints l))] := hS98.keep [0, 4, 5, 6, 7, 8, 9, 10, 11, 12, 13, 14, 15, 1, 2, 3] (by decide) _ rfl rfl; clear hS98
   refine stw hA72 (op_callv rfl (hA72.ev rfl) en_78 (ev4 (hA72.ev rfl) (hA72.ev rfl) (hA72.ev rfl) (hA72.ev rfl)) (by have hz := ih (l ++ [(k : Int)]) (off.set k true) (k + 1) _ _ _ _ _ (ownX [(row u67 3 1 ((l ++ [(k : Int)]).length) (ints (l ++ [(k : Int)]))), (blk bout 51 [vo_]), (row vo_ 23 1 ov_.length ov_), (lstR ov_ (ol ++ (fromUpto d m l off next k))), (memo bm (KR d)), (rob be 88 [(Value.func (.func 52) #[(bptr bj 0)] #[])]), (rob bs 114 [(Value.func (.func 78) #[] #[(bptr be 0), (bptr bout 0), (bptr bt 0), (bptr bs 0)])]), (rob bt 83 [(bptr bj 0)]), (rob bj 107 [vl, vs, (Value.int .i64 d.spread), vb, (Value.map (some bm))]), (sl vl 2 d.lots.length (pairs d.lots)), (sl vs 1 d.samples.length (ints d.samples)), (sl vb 2 d.tols.length (vpairs (d.tols.zip lv))), (rdsR lv d.rds)]) (by simp [hoff]) (by simp; omega) (by have hp := fromUpto_pre d m l off next k hk1 (by omega); rw [List.length_append]; omega) (Sep.enterG (A := [(row u67 3 1 ((l ++ [(k : Int)]).length) (ints (l ++ [(k : Int)]))), (blk bout 51 [vo_]), (row vo_ 23 1 ov_.length ov_), (lstR ov_ (ol ++ (fromUpto d m l off next k))), (memo bm (KR d)), (rob be 88 [(Value.func (.func 52) #[(bptr bj 0)] #[])]), (rob bs 114 [(Value.func (.func 78) #[] #[(bptr be 0), (bptr bout 0), (bptr bt 0), (bptr bs 0)])]), (rob bt 83 [(bptr bj 0)]), (rob bj 107 [vl, vs, (Value.int .i64 d.spread), vb, (Value.map (some bm))]), (sl vl 2 d.lots.length (pairs d.lots)), (sl vs 1 d.samples.length (ints d.samples)), (sl vb 2 d.tols.length (vpairs (d.tols.zip lv))), (rdsR lv d.rds)]) (B := [(blk b43 85 (bools (off.set k true))), (blk b4 85 (bools off)), (row xl 3 1 l.length (ints l))]) hS99); rw [show ((m : Int) + 1) - 1 = (m : Int) by omega]; exact hz)) rfl rfl (by decide) ?_
   rintro a95 _ w97 ⟨rfl, vo101, ov102, hT100⟩ hA96; clear hA72 a59
   have hS103 : Sep X w w97 [(row u67 3 1 ((l ++ [(k : Int)]).length) (ints (l ++ [(k : Int)]))), (blk bout 51 [vo101]), (row vo101 23 1 ov102.length ov102), (lstR ov102 ((ol ++ (fromUpto d m l off next k)) ++ fromL d m (l ++ [(k : Int)]) (off.set k true) (k + 1))), (memo bm (KR d)), (rob be 88 [(Value.func (.func 52) #[(bptr bj 0)] #[])]), (rob bs 114 [(Value.func (.func 78) #[] #[(bptr be 0), (bptr bout 0), (bptr bt 0), (bptr bs 0)])]), (rob bt 83 [(bptr bj 0)]), (rob bj 107 [vl, vs, (Value.int .i64 d.spread), vb, (Value.map (some bm))]), (sl vl 2 d.lots.length (pairs d.lots)), (sl vs 1 d.samples.length (ints d.samples)), (sl vb 2 d.tols.length (vpairs (d.tols.zip lv))), (rdsR lv d.rds), (blk b43 85 (bools (off.set k true))), (blk b4 85 (bools off)), (row xl 3 1 l.length (ints l))] := Sep.callG (A := [(row u67 3 1 ((l ++ [(k : Int)]).length) (ints (l ++ [(k : Int)]))), (blk bout 51 [vo_]), (row vo_ 23 1 ov_.length ov_), (lstR ov_ (ol ++ (fromUpto d m l off next k))), (memo bm (KR d)), (rob be 88 [(Value.func (.func 52) #[(bptr bj 0)] #[])]), (rob bs 114 [(Value.func (.func 78) #[] #[(bptr be 0), (bptr bout 0), (bptr bt 0), (bptr bs 0)])]), (rob bt 83 [(bptr bj 0)]), (rob bj 107 [vl, vs, (Value.int .i64 d.spread), vb, (Value.map (some bm))]), (sl vl 2 d.lots.length (pairs d.lots)), (sl vs 1 d.samples.length (ints d.samples)), (sl vb 2 d.tols.length (vpairs (d.tols.zip lv))), (rdsR lv d.rds)]) (B := [(blk b43 85 (bools (off.set k true))), (blk b4 85 (bools off)), (row xl 3 1 l.length (ints l))]) hS99 hT100 (lentOk_at ⟨.inl rfl, .inl rfl, .inl rfl, .inl rfl, .inl rfl, .inr ⟨5, rfl⟩, .inr ⟨6, rfl⟩, .inr ⟨7, rfl⟩, .inr ⟨8, rfl⟩, .inr ⟨9, rfl⟩, .inr ⟨10, rfl⟩, .inr ⟨11, rfl⟩, .inr ⟨12, rfl⟩, trivial⟩); clear hT100 hS99
   refine wl_nil ?_
   refine blk_n ?_
   refine then_n ?_
   have hA104 := hA96.as [(12, (Value.int .i64 (k : Int))), (9, (bptr b4 0)), (0, xl), (3, (Value.int .i64 ((m : Int) + 1))), (6, (bptr bt 0)), (7, (bptr bs 0))] rfl; clear hA96
   refine c_region ?_
   refine st hA104 (op_move rfl (hA104.ev rfl)) rfl rfl (by decide) fun a105 hA106 => ?_; clear hA104 a95
   refine st hA106 (op_add rfl (hA106.ev rfl) (evc _ _) (by omega) (by omega)) rfl rfl (by decide) fun a107 hA108 => ?_; clear hA106 a105
   refine st hA108 (op_assign rfl (hA108.ev rfl)) rfl rfl (by decide) fun a109 hA110 => ?_; clear hA108 a107
   refine wl_nil ?_
   have hS111 : Sep X w w97 [(blk b4 85 (bools off)), (row xl 3 1 l.length (ints l)), (blk bout 51 [vo101]), (row vo101 23 1 ov102.length ov102), (lstR ov102 ((ol ++ (fromUpto d m l off next k)) ++ fromL d m (l ++ [(k : Int)]) (off.set k true) (k + 1))), (memo bm (KR d)), (rob be 88 [(Value.func (.func 52) #[(bptr bj 0)] #[])]), (rob bs 114 [(Value.func (.func 78) #[] #[(bptr be 0), (bptr bout 0), (bptr bt 0), (bptr bs 0)])]), (rob bt 83 [(bptr bj 0)]), (rob bj 107 [vl, vs, (Value.int .i64 d.spread), vb, (Value.map (some bm))]), (sl vl 2 d.lots.length (pairs d.lots)), (sl vs 1 d.samples.length (ints d.samples)), (sl vb 2 d.tols.length (vpairs (d.tols.zip lv))), (rdsR lv d.rds)] := hS103.keep [14, 15, 1, 2, 3, 4, 5, 6, 7, 8, 9, 10, 11, 12] (by decide) _ rfl rfl; clear hS103
   exact then_n ⟨k + 1, ⟨vo101, ov102, hA110.as _ rfl, (hS111.lst_say (i := 4) rfl (by rw [fromUpto_succ _ _ _ _ _ _ hk1, List.append_assoc])), by omega, by omega⟩, by omega⟩
 ·skip
  rw [decide_eq_false hb36] at hA35
  refine c_false hA35 rfl ?_
  refine c_exit ?_
  refine then_exit ?_
  refine then_exit ?_
  refine blk_hit ?_
  refine fin_run hA35 (.inr rfl) (run_results0 rfl _) ?_
  have hS112 : Sep X w w18 [(row xl 3 1 l.length (ints l)), (blk bout 51 [vo_]), (row vo_ 23 1 ov_.length ov_), (lstR ov_ (ol ++ (fromUpto d m l off next k))), (memo bm (KR d)), (rob be 88 [(Value.func (.func 52) #[(bptr bj 0)] #[])]), (rob bs 114 [(Value.func (.func 78) #[] #[(bptr be 0), (bptr bout 0), (bptr bt 0), (bptr bs 0)])]), (rob bt 83 [(bptr bj 0)]), (rob bj 107 [vl, vs, (Value.int .i64 d.spread), vb, (Value.map (some bm))]), (sl vl 2 d.lots.length (pairs d.lots)), (sl vs 1 d.samples.length (ints d.samples)), (sl vb 2 d.tols.length (vpairs (d.tols.zip lv))), (rdsR lv d.rds)] := hS19.keep [1, 2, 3, 4, 5, 6, 7, 8, 9, 10, 11, 12, 13] (by decide) _ rfl rfl; clear hS19
  rw [← fromUpto_all d m l off next k hk1 hk2 (by omega)]
  exact ⟨rfl, _, _, hS112⟩

theorem from_ok (be bout bt bs bj bm : Nat) (vl vs vb : Value) (lv : List Value) (d : RD) (hVd : Valid d) (hlvl : lv.length = d.tols.length) (hrdl : d.rds.length = d.tols.length) : ∀ (m : Nat) (l : List Int) (off : List Bool) (next : Nat) (xl vo : Value) (ov : List Value) (ol : List (List Int)) (w : World) (X : Nat → Prop) (hoff : off.length = 6) (hl : l.length + m ≤ 1000) (hbd : ol.length + (fromL d m l off next).length ≤ 1000000) (_ : Sep X w w [(row xl 3 1 l.length (ints l)), (blk bout 51 [vo]), (row vo 23 1 ov.length ov), (lstR ov ol), (memo bm (KR d)), (rob be 88 [(Value.func (.func 52) #[(bptr bj 0)] #[])]), (rob bs 114 [(Value.func (.func 78) #[] #[(bptr be 0), (bptr bout 0), (bptr bt 0), (bptr bs 0)])]), (rob bt 83 [(bptr bj 0)]), (rob bj 107 [vl, vs, (Value.int .i64 d.spread), vb, (Value.map (some bm))]), (sl vl 2 d.lots.length (pairs d.lots)), (sl vs 1 d.samples.length (ints d.samples)), (sl vb 2 d.tols.length (vpairs (d.tols.zip lv))), (rdsR lv d.rds)]), Calls Try.prog 78 #[xl, .agg (bools off).toArray, .int .i64 (next : Int), .int .i64 (m : Int), bptr be 0, bptr bout 0, bptr bt 0, bptr bs 0] w (Ret fun v w' => v = .tuple #[] ∧ ∃ vo' ov', Sep X w w' [(row xl 3 1 l.length (ints l)), (blk bout 51 [vo']), (row vo' 23 1 ov'.length ov'), (lstR ov' (ol ++ fromL d m l off next)), (memo bm (KR d)), (rob be 88 [(Value.func (.func 52) #[(bptr bj 0)] #[])]), (rob bs 114 [(Value.func (.func 78) #[] #[(bptr be 0), (bptr bout 0), (bptr bt 0), (bptr bs 0)])]), (rob bt 83 [(bptr bj 0)]), (rob bj 107 [vl, vs, (Value.int .i64 d.spread), vb, (Value.map (some bm))]), (sl vl 2 d.lots.length (pairs d.lots)), (sl vs 1 d.samples.length (ints d.samples)), (sl vb 2 d.tols.length (vpairs (d.tols.zip lv))), (rdsR lv d.rds)]) := by
 intro m
 induction m with
 | zero => intro l off next xl vo ov ol w X hoff hl hbd hJ; exact from_zero be bout bt bs bj bm vl vs vb lv d hVd hlvl hrdl l off next xl vo ov ol w X hoff hl hbd hJ
 | succ m ih => intro l off next xl vo ov ol w X hoff hl hbd hJ; exact from_succ be bout bt bs bj bm vl vs vb lv d hVd hlvl hrdl m ih l off next xl vo ov ol w X hoff hl hbd hJ

end Go.Proofs.Ytfhmigoddaaljaa

namespace Go.Proofs.Ytfhmigoddaaljaa
open Go.RowKit Go.Shelf Go.Eng
theorem fewest_ok (bj bm : Nat) (vl vs vb : Value) (lv : List Value) (d : RD) (w : World) (X : Nat → Prop) (hVd : Valid d) (hlvl : lv.length = d.tols.length) (hrdl : d.rds.length = d.tols.length) (hJ : Sep X w w [(memo bm (KR d)), (rob bj 107 [vl, vs, (Value.int .i64 d.spread), vb, (Value.map (some bm))]), (sl vl 2 d.lots.length (pairs d.lots)), (sl vs 1 d.samples.length (ints d.samples)), (sl vb 2 d.tols.length (vpairs (d.tols.zip lv))), (rdsR lv d.rds)]) :
  Calls Try.prog 58 #[(bptr bj 0)] w (Ret fun v w' => ∃ ov, Sep X w w' [row v 23 1 ov.length ov, lstR ov (fewestF d), (memo bm (KR d)), (rob bj 107 [vl, vs, (Value.int .i64 d.spread), vb, (Value.map (some bm))]), (sl vl 2 d.lots.length (pairs d.lots)), (sl vs 1 d.samples.length (ints d.samples)), (sl vb 2 d.tols.length (vpairs (d.tols.zip lv))), (rdsR lv d.rds)]) := by
 refine calls_enter Try.func58 rfl fun a0 hA0 => ?_
 replace hA0 : Fr 29 [] [(0, (bptr bj 0))] a0 := hA0
 have hnb := hVd.nb
 have hS0 : Sep X w w [(memo bm (KR d)), (rob bj 107 [vl, vs, (Value.int .i64 d.spread), vb, (Value.map (some bm))]), (sl vl 2 d.lots.length (pairs d.lots)), (sl vs 1 d.samples.length (ints d.samples)), (sl vb 2 d.tols.length (vpairs (d.tols.zip lv))), (rdsR lv d.rds)] := hJ
 refine c_seq ?_
 refine c_region ?_
 refine stw hA0 (op_box hS0 rfl (hA0.ev rfl) (cs := [(bptr bj 0)]) rfl) rfl rfl (by decide) ?_
 rintro a1 _ w3 ⟨b4, rfl, hS5⟩ hA2; clear hA0 hS0 a0
 refine stw hA2 (op_alloc hS5 rfl ze_51 (cs := [(Value.slice none 0 0)]) rfl) rfl rfl (by decide) ?_
 rintro a6 _ w8 ⟨b9, rfl, hS10⟩ hA7; clear hA2 hS5 a1
 refine wl_nil ?_
 refine then_n ?_
 refine c_seq ?_
 refine c_region ?_
 refine st hA7 (op_load1 rfl ty_83 (hA7.ev rfl) (hS10.bk 1 rfl) rfl) rfl rfl (by decide) fun a11 hA12 => ?_; clear hA7 a6
 refine st hA12 (op_makeFunc rfl (ev1 (hA12.ev rfl)) ev0) rfl rfl (by decide) fun a13 hA14 => ?_; clear hA12 a11
 refine stw hA14 (op_alloc hS10 rfl ze_88 (cs := [Value.nilFunc]) rfl) rfl rfl (by decide) ?_
 rintro a15 _ w17 ⟨b18, rfl, hS19⟩ hA16; clear hA14 hS10 a13
 refine sts hA16 (op_store hS19 rfl ty_88 (hA16.ev rfl) (hA16.ev rfl) (i := 0) rfl (vs := [(Value.func (.func 52) #[(bptr bj 0)] #[])]) rfl rfl rfl (Nat.le_of_ble_eq_true rfl)) rfl rfl ?_
 intro _ w20 hS21 hA22; clear hA16
 have hS23 : Sep X w w20 [(blk b18 88 [(Value.func (.func 52) #[(bptr bj 0)] #[])]), (blk b9 51 [(Value.slice none 0 0)]), (blk b4 83 [(bptr bj 0)]), (memo bm (KR d)), (rob bj 107 [vl, vs, (Value.int .i64 d.spread), vb, (Value.map (some bm))]), (sl vl 2 d.lots.length (pairs d.lots)), (sl vs 1 d.samples.length (ints d.samples)), (sl vb 2 d.tols.length (vpairs (d.tols.zip lv))), (rdsR lv d.rds)] := hS21; clear hS21 hS19
 refine wl_nil ?_
 refine then_n ?_
 refine c_seq ?_
 refine c_region ?_
 refine stw hA22 (op_alloc hS23 rfl ze_114 (cs := [Value.nilFunc]) rfl) rfl rfl (by decide) ?_
 rintro a24 _ w26 ⟨b27, rfl, hS28⟩ hA25; clear hA22 hS23 a15
 refine wl_nil ?_
 refine then_n ?_
 refine c_seq ?_
 refine c_region ?_
 refine st hA25 (op_makeFunc rfl ev0 (ev4 (hA25.ev rfl) (hA25.ev rfl) (hA25.ev rfl) (hA25.ev rfl))) rfl rfl (by decide) fun a29 hA30 => ?_; clear hA25 a24
 refine sts hA30 (op_store hS28 rfl ty_114 (hA30.ev rfl) (hA30.ev rfl) (i := 0) rfl (vs := [(Value.func (.func 78) #[] #[(bptr b18 0), (bptr b9 0), (bptr b4 0), (bptr b27 0)])]) rfl rfl rfl (Nat.le_of_ble_eq_true rfl)) rfl rfl ?_
 intro _ w31 hS32 hA33; clear hA30
 have hS34 : Sep X w w31 [(blk b27 114 [(Value.func (.func 78) #[] #[(bptr b18 0), (bptr b9 0), (bptr b4 0), (bptr b27 0)])]), (blk b18 88 [(Value.func (.func 52) #[(bptr bj 0)] #[])]), (blk b9 51 [(Value.slice none 0 0)]), (blk b4 83 [(bptr bj 0)]), (memo bm (KR d)), (rob bj 107 [vl, vs, (Value.int .i64 d.spread), vb, (Value.map (some bm))]), (sl vl 2 d.lots.length (pairs d.lots)), (sl vs 1 d.samples.length (ints d.samples)), (sl vb 2 d.tols.length (vpairs (d.tols.zip lv))), (rdsR lv d.rds)] := hS32; clear hS32 hS28
 refine wl_nil ?_
 refine then_n ?_
 refine c_seq ?_
 refine c_seq ?_
 refine c_region ?_
 refine st hA33 (op_assign rfl (evc _ _)) rfl rfl (by decide) fun a35 hA36 => ?_; clear hA33 a29
 refine wl_nil ?_
 refine then_n ?_
 refine c_block ?_
 have hS37 := hS34.to_ro (i := 1) rfl; clear hS34
 have hS38 := hS37.to_ro (i := 3) rfl; clear hS37
 have hS39 := hS38.to_ro (i := 0) rfl; clear hS38
 have hS40 := (hS39.nil_row 23 1).lst_nil; clear hS39
 have hA41 := hA36.as [(5, (Value.int .i64 0)), (4, (bptr b27 0)), (2, (bptr b9 0)), (1, (bptr b4 0))] rfl; clear hA36
 refine c_loop (G := Nat) (fun (k : Nat) a_ w_ => ∃ vo_ : Value, ∃ ov_ : List Value, Fr 29 [] [(5, (Value.int .i64 (k : Int))), (4, (bptr b27 0)), (2, (bptr b9 0)), (1, (bptr b4 0))] a_ ∧ Sep X w w_ [(lstR ov_ (fewUpto d k)), (row vo_ 23 1 ov_.length ov_), (rob b27 114 [(Value.func (.func 78) #[] #[(bptr b18 0), (bptr b9 0), (bptr b4 0), (bptr b27 0)])]), (rob b18 88 [(Value.func (.func 52) #[(bptr bj 0)] #[])]), (blk b9 51 [vo_]), (rob b4 83 [(bptr bj 0)]), (memo bm (KR d)), (rob bj 107 [vl, vs, (Value.int .i64 d.spread), vb, (Value.map (some bm))]), (sl vl 2 d.lots.length (pairs d.lots)), (sl vs 1 d.samples.length (ints d.samples)), (sl vb 2 d.tols.length (vpairs (d.tols.zip lv))), (rdsR lv d.rds)] ∧ (k ≤ d.tols.length + 1)) (fun k => d.tols.length + 1 - k) 0 ⟨(Value.slice none 0 0), [], hA41.as _ rfl, hS40, by omega⟩ ?_
 clear hA41 hS40 a35
 rintro k a42 w44 ⟨vo_, ov_, hA43, hS45, hk1⟩
 have hol := hS45.lst_len 0 rfl
 refine c_seq ?_
 refine c_seq ?_
 refine c_region ?_
 refine st hA43 (op_move rfl (hA43.ev rfl)) rfl rfl (by decide) fun a46 hA47 => ?_; clear hA43 a42
 refine st hA47 (op_load1 rfl ty_83 (hA47.ev rfl) (hS45.rk 5 rfl) rfl) rfl rfl (by decide) fun a48 hA49 => ?_; clear hA47 a46
 refine st hA49 (op_nilCheck rfl (hA49.ev rfl)) rfl rfl (by decide) fun a50 hA51 => ?_; clear hA49 a48
 refine st hA51 (op_field rfl fd_107_0 (hA51.ev rfl)) rfl rfl (by decide) fun a52 hA53 => ?_; clear hA51 a50
 refine st hA53 (op_field rfl fd_34_3 (hA53.ev rfl)) rfl rfl (by decide) fun a54 hA55 => ?_; clear hA53 a52
 refine st hA55 (op_load1 rfl ty_32 (hA55.ev rfl) (hS45.rk 7 rfl) rfl) rfl rfl (by decide) fun a56 hA57 => ?_; clear hA55 a54
 refine st hA57 (op_lenS rfl un_32 (hA57.ev rfl) (hS45.sk 10 rfl)) rfl rfl (by decide) fun a58 hA59 => ?_; clear hA57 a56
 refine st hA59 (op_leq rfl (hA59.ev rfl) (hA59.ev rfl)) rfl rfl (by decide) fun a60 hA61 => ?_; clear hA59 a58
 refine st hA61 (op_move rfl (hA61.ev rfl)) rfl rfl (by decide) fun a62 hA63 => ?_; clear hA61 a60
 by_cases hb64 : (k : Int) ≤ (d.tols.length : Int)
 ·skip
  rw [decide_eq_true hb64] at hA63
  refine stg hA63 (op_load1 rfl ty_51 (hA63.ev rfl) (hS45.bk 4 rfl) rfl) rfl rfl rfl rfl (by decide) fun a65 hA66 => ?_; clear hA63 a62
  refine stg hA66 (op_lenS rfl un_51 (hA66.ev rfl) (SlAt.of_row (hS45.ok_row 1 rfl))) rfl rfl rfl rfl (by decide) fun a67 hA68 => ?_; clear hA66 a65
  refine stg hA68 (op_eql rfl (hA68.ev rfl) (evc _ _)) rfl rfl rfl rfl (by decide) fun a69 hA70 => ?_; clear hA68 a67
  refine st hA70 (op_pick_t rfl (hA70.ev rfl) (hA70.ev rfl)) rfl rfl (by decide) fun a71 hA72 => ?_; clear hA70 a69
  refine wl_nil ?_
  refine then_n ?_
  by_cases hb73 : (ov_.length : Int) = 0
  ·skip
   rw [decide_eq_true hb73] at hA72
   refine c_true hA72 rfl ?_
   refine c_skip ?_
   refine then_n ?_
   refine c_seq ?_
   refine c_block ?_
   have hA74 := hA72.as [(5, (Value.int .i64 (k : Int))), (4, (bptr b27 0)), (2, (bptr b9 0)), (1, (bptr b4 0))] rfl; clear hA72
   refine c_region ?_
   refine st hA74 (op_load1 rfl ty_114 (hA74.ev rfl) (hS45.rk 2 rfl) rfl) rfl rfl (by decide) fun a75 hA76 => ?_; clear hA74 a71
   refine st hA76 (op_build rfl pv0 bd_85_) rfl rfl (by decide) fun a77 hA78 => ?_; clear hA76 a75
   refine st hA78 (op_move rfl (hA78.ev rfl)) rfl rfl (by decide) fun a79 hA80 => ?_; clear hA78 a77
   have hemp : fewUpto d k = [] := List.eq_nil_of_length_eq_zero (by omega)
   have hS84 := hS45.nil_row 3 1; clear hS45
   have hS85 : Sep X w w44 [(row (Value.slice none 0 0) 3 1 0 []), (blk b9 51 [vo_]), (row vo_ 23 1 ov_.length ov_), (lstR ov_ (fewUpto d k)), (memo bm (KR d)), (rob b18 88 [(Value.func (.func 52) #[(bptr bj 0)] #[])]), (rob b27 114 [(Value.func (.func 78) #[] #[(bptr b18 0), (bptr b9 0), (bptr b4 0), (bptr b27 0)])]), (rob b4 83 [(bptr bj 0)]), (rob bj 107 [vl, vs, (Value.int .i64 d.spread), vb, (Value.map (some bm))]), (sl vl 2 d.lots.length (pairs d.lots)), (sl vs 1 d.samples.length (ints d.samples)), (sl vb 2 d.tols.length (vpairs (d.tols.zip lv))), (rdsR lv d.rds)] := hS84.keep [0, 5, 2, 1, 7, 4, 3, 6, 8, 9, 10, 11, 12] (by decide) _ rfl rfl; clear hS84
   refine stw hA80 (op_callv rfl (hA80.ev rfl) en_78 (ev4 (evc _ _) (hA80.ev rfl) (evc _ _) (hA80.ev rfl)) (from_ok b18 b9 b4 b27 bj bm vl vs vb lv d hVd hlvl hrdl k [] off0 0 _ _ _ _ _ (ownX [(row (Value.slice none 0 0) 3 1 0 []), (blk b9 51 [vo_]), (row vo_ 23 1 ov_.length ov_), (lstR ov_ (fewUpto d k)), (memo bm (KR d)), (rob b18 88 [(Value.func (.func 52) #[(bptr bj 0)] #[])]), (rob b27 114 [(Value.func (.func 78) #[] #[(bptr b18 0), (bptr b9 0), (bptr b4 0), (bptr b27 0)])]), (rob b4 83 [(bptr bj 0)]), (rob bj 107 [vl, vs, (Value.int .i64 d.spread), vb, (Value.map (some bm))]), (sl vl 2 d.lots.length (pairs d.lots)), (sl vs 1 d.samples.length (ints d.samples)), (sl vb 2 d.tols.length (vpairs (d.tols.zip lv))), (rdsR lv d.rds)]) rfl (by simp only [List.length_nil]; omega) (by have hp := fromL_small d hVd.nb k (by have := hVd.nb; omega) [] off0 0; rw [hemp]; simp only [List.length_nil]; omega) (Sep.enterG (A := [(row (Value.slice none 0 0) 3 1 0 []), (blk b9 51 [vo_]), (row vo_ 23 1 ov_.length ov_), (lstR ov_ (fewUpto d k)), (memo bm (KR d)), (rob b18 88 [(Value.func (.func 52) #[(bptr bj 0)] #[])]), (rob b27 114 [(Value.func (.func 78) #[] #[(bptr b18 0), (bptr b9 0), (bptr b4 0), (bptr b27 0)])]), (rob b4 83 [(bptr bj 0)]), (rob bj 107 [vl, vs, (Value.int .i64 d.spread), vb, (Value.map (some bm))]), (sl vl 2 d.lots.length (pairs d.lots)), (sl vs 1 d.samples.length (ints d.samples)), (sl vb 2 d.tols.length (vpairs (d.tols.zip lv))), (rdsR lv d.rds)]) (B := []) hS85))) rfl rfl (by decide) ?_
   rintro a81 _ w83 ⟨rfl, vo87, ov88, hT86⟩ hA82; clear hA80 a79
   have hS89 : Sep X w w83 [(row (Value.slice none 0 0) 3 1 0 []), (blk b9 51 [vo87]), (row vo87 23 1 ov88.length ov88), (lstR ov88 (fewUpto d k ++ fromL d k [] off0 0)), (memo bm (KR d)), (rob b18 88 [(Value.func (.func 52) #[(bptr bj 0)] #[])]), (rob b27 114 [(Value.func (.func 78) #[] #[(bptr b18 0), (bptr b9 0), (bptr b4 0), (bptr b27 0)])]), (rob b4 83 [(bptr bj 0)]), (rob bj 107 [vl, vs, (Value.int .i64 d.spread), vb, (Value.map (some bm))]), (sl vl 2 d.lots.length (pairs d.lots)), (sl vs 1 d.samples.length (ints d.samples)), (sl vb 2 d.tols.length (vpairs (d.tols.zip lv))), (rdsR lv d.rds)] := Sep.callG (A := [(row (Value.slice none 0 0) 3 1 0 []), (blk b9 51 [vo_]), (row vo_ 23 1 ov_.length ov_), (lstR ov_ (fewUpto d k)), (memo bm (KR d)), (rob b18 88 [(Value.func (.func 52) #[(bptr bj 0)] #[])]), (rob b27 114 [(Value.func (.func 78) #[] #[(bptr b18 0), (bptr b9 0), (bptr b4 0), (bptr b27 0)])]), (rob b4 83 [(bptr bj 0)]), (rob bj 107 [vl, vs, (Value.int .i64 d.spread), vb, (Value.map (some bm))]), (sl vl 2 d.lots.length (pairs d.lots)), (sl vs 1 d.samples.length (ints d.samples)), (sl vb 2 d.tols.length (vpairs (d.tols.zip lv))), (rdsR lv d.rds)]) (B := []) hS85 hT86 (lentOk_at ⟨.inl rfl, .inl rfl, .inl rfl, .inl rfl, .inl rfl, .inr ⟨5, rfl⟩, .inr ⟨6, rfl⟩, .inr ⟨7, rfl⟩, .inr ⟨8, rfl⟩, .inr ⟨9, rfl⟩, .inr ⟨10, rfl⟩, .inr ⟨11, rfl⟩, .inr ⟨12, rfl⟩, trivial⟩); clear hT86 hS85
   refine wl_nil ?_
   refine blk_n ?_
   refine then_n ?_
   refine c_region ?_
   refine st hA82 (op_move rfl (hA82.ev rfl)) rfl rfl (by decide) fun a90 hA91 => ?_; clear hA82 a81
   refine st hA91 (op_add rfl (hA91.ev rfl) (evc _ _) (by omega) (by omega)) rfl rfl (by decide) fun a92 hA93 => ?_; clear hA91 a90
   refine st hA93 (op_assign rfl (hA93.ev rfl)) rfl rfl (by decide) fun a94 hA95 => ?_; clear hA93 a92
   refine wl_nil ?_
   have hS96 : Sep X w w83 [(lstR ov88 (fewUpto d k ++ fromL d k [] off0 0)), (row vo87 23 1 ov88.length ov88), (rob b27 114 [(Value.func (.func 78) #[] #[(bptr b18 0), (bptr b9 0), (bptr b4 0), (bptr b27 0)])]), (rob b18 88 [(Value.func (.func 52) #[(bptr bj 0)] #[])]), (blk b9 51 [vo87]), (rob b4 83 [(bptr bj 0)]), (memo bm (KR d)), (rob bj 107 [vl, vs, (Value.int .i64 d.spread), vb, (Value.map (some bm))]), (sl vl 2 d.lots.length (pairs d.lots)), (sl vs 1 d.samples.length (ints d.samples)), (sl vb 2 d.tols.length (vpairs (d.tols.zip lv))), (rdsR lv d.rds)] := hS89.keep [3, 2, 6, 5, 1, 7, 4, 8, 9, 10, 11, 12] (by decide) _ rfl rfl; clear hS89
   exact then_n ⟨k + 1, ⟨vo87, ov88, hA95.as _ rfl, (hS96.lst_say (i := 0) rfl (by rw [fewUpto_step d hemp, hemp]; rfl)), by omega⟩, by omega⟩
  ·skip
   rw [decide_eq_false hb73] at hA72
   refine c_false hA72 rfl ?_
   refine c_exit ?_
   refine then_exit ?_
   refine then_exit ?_
   refine blk_hit ?_
   refine then_n ?_
   refine c_seq ?_
   have hA97 := hA72.as [(2, (bptr b9 0))] rfl; clear hA72
   refine c_region ?_
   refine st hA97 (op_load1 rfl ty_51 (hA97.ev rfl) (hS45.bk 4 rfl) rfl) rfl rfl (by decide) fun a98 hA99 => ?_; clear hA97 a71
   refine sts hA99 (op_store hS45 rfl ty_51 (hA99.ev rfl) (hA99.ev rfl) (i := 4) rfl (vs := [vo_]) (isSl_cells (SlAt.isSl (SlAt.of_row (hS45.ok_row 1 rfl)))) rfl (all_c (SlAt.one (SlAt.of_row (hS45.ok_row 1 rfl))) all_n) (Nat.le_of_ble_eq_true rfl)) rfl rfl ?_
   intro _ w100 hS101 hA102; clear hA99
   have hS103 : Sep X w w100 [(lstR ov_ (fewUpto d k)), (row vo_ 23 1 ov_.length ov_), (rob b27 114 [(Value.func (.func 78) #[] #[(bptr b18 0), (bptr b9 0), (bptr b4 0), (bptr b27 0)])]), (rob b18 88 [(Value.func (.func 52) #[(bptr bj 0)] #[])]), (blk b9 51 [vo_]), (rob b4 83 [(bptr bj 0)]), (memo bm (KR d)), (rob bj 107 [vl, vs, (Value.int .i64 d.spread), vb, (Value.map (some bm))]), (sl vl 2 d.lots.length (pairs d.lots)), (sl vs 1 d.samples.length (ints d.samples)), (sl vb 2 d.tols.length (vpairs (d.tols.zip lv))), (rdsR lv d.rds)] := hS101; clear hS101 hS45
   refine wl_nil ?_
   refine then_n ?_
   refine c_ret ?_
   refine fin_run hA102 (.inl rfl) (run_results1 hA102 rfl (.cell1 rfl ty_51 (hS103.bk 4 rfl) rfl)) ?_
   have hS104 : Sep X w w100 [(row vo_ 23 1 ov_.length ov_), (lstR ov_ (fewUpto d k)), (memo bm (KR d)), (rob bj 107 [vl, vs, (Value.int .i64 d.spread), vb, (Value.map (some bm))]), (sl vl 2 d.lots.length (pairs d.lots)), (sl vs 1 d.samples.length (ints d.samples)), (sl vb 2 d.tols.length (vpairs (d.tols.zip lv))), (rdsR lv d.rds)] := hS103.keep [1, 0, 6, 7, 8, 9, 10, 11] (by decide) _ rfl rfl; clear hS103
   rw [fewest_is d (by first | (left; omega) | (right; refine ⟨by omega, fun e => ?_⟩; rw [e] at hol; simp only [List.length_nil] at hol; omega))] at hS104
   exact ⟨_, hS104⟩
 ·skip
  rw [decide_eq_false hb64] at hA63
  refine skp hA63 rfl rfl rfl rfl rfl (by decide) fun a105 hA106 => ?_; clear hA63 a62
  refine skp hA106 rfl rfl rfl rfl rfl (by decide) fun a107 hA108 => ?_; clear hA106 a105
  refine skp hA108 rfl rfl rfl rfl rfl (by decide) fun a109 hA110 => ?_; clear hA108 a107
  refine st hA110 (op_pick_f rfl (hA110.ev rfl) (evc _ _)) rfl rfl (by decide) fun a111 hA112 => ?_; clear hA110 a109
  refine wl_nil ?_
  refine then_n ?_
  refine c_false hA112 rfl ?_
  refine c_exit ?_
  refine then_exit ?_
  refine then_exit ?_
  refine blk_hit ?_
  refine then_n ?_
  refine c_seq ?_
  have hA113 := hA112.as [(2, (bptr b9 0))] rfl; clear hA112
  refine c_region ?_
  refine st hA113 (op_load1 rfl ty_51 (hA113.ev rfl) (hS45.bk 4 rfl) rfl) rfl rfl (by decide) fun a114 hA115 => ?_; clear hA113 a111
  refine sts hA115 (op_store hS45 rfl ty_51 (hA115.ev rfl) (hA115.ev rfl) (i := 4) rfl (vs := [vo_]) (isSl_cells (SlAt.isSl (SlAt.of_row (hS45.ok_row 1 rfl)))) rfl (all_c (SlAt.one (SlAt.of_row (hS45.ok_row 1 rfl))) all_n) (Nat.le_of_ble_eq_true rfl)) rfl rfl ?_
  intro _ w116 hS117 hA118; clear hA115
  have hS119 : Sep X w w116 [(lstR ov_ (fewUpto d k)), (row vo_ 23 1 ov_.length ov_), (rob b27 114 [(Value.func (.func 78) #[] #[(bptr b18 0), (bptr b9 0), (bptr b4 0), (bptr b27 0)])]), (rob b18 88 [(Value.func (.func 52) #[(bptr bj 0)] #[])]), (blk b9 51 [vo_]), (rob b4 83 [(bptr bj 0)]), (memo bm (KR d)), (rob bj 107 [vl, vs, (Value.int .i64 d.spread), vb, (Value.map (some bm))]), (sl vl 2 d.lots.length (pairs d.lots)), (sl vs 1 d.samples.length (ints d.samples)), (sl vb 2 d.tols.length (vpairs (d.tols.zip lv))), (rdsR lv d.rds)] := hS117; clear hS117 hS45
  refine wl_nil ?_
  refine then_n ?_
  refine c_ret ?_
  refine fin_run hA118 (.inl rfl) (run_results1 hA118 rfl (.cell1 rfl ty_51 (hS119.bk 4 rfl) rfl)) ?_
  have hS120 : Sep X w w116 [(row vo_ 23 1 ov_.length ov_), (lstR ov_ (fewUpto d k)), (memo bm (KR d)), (rob bj 107 [vl, vs, (Value.int .i64 d.spread), vb, (Value.map (some bm))]), (sl vl 2 d.lots.length (pairs d.lots)), (sl vs 1 d.samples.length (ints d.samples)), (sl vb 2 d.tols.length (vpairs (d.tols.zip lv))), (rdsR lv d.rds)] := hS119.keep [1, 0, 6, 7, 8, 9, 10, 11] (by decide) _ rfl rfl; clear hS119
  rw [fewest_is d (by first | (left; omega) | (right; refine ⟨by omega, fun e => ?_⟩; rw [e] at hol; simp only [List.length_nil] at hol; omega))] at hS120
  exact ⟨_, hS120⟩

end Go.Proofs.Ytfhmigoddaaljaa

namespace Go.Proofs.Ytfhmigoddaaljaa
open Go.RowKit Go.Shelf Go.Eng
theorem index_ok (xs : List Int) (x : Int) (v : Value) (w : World) (hv : SlAt w v 1 xs.length (ints xs)) (hlen : xs.length ≤ 1000000) :
  Calls Try.prog 84 #[v, (Value.int .i64 x)] w (Ret fun v w' => v = .int .i64 (fidx (fun i => decide (x = xs.getD i 0)) xs.length) ∧ Ext NoB w w') := by
 refine calls_enter Try.func84 rfl fun a0 hA0 => ?_
 replace hA0 : Fr 19 [] [(0, v), (1, (Value.int .i64 x))] a0 := hA0
 have hS0 : Sep NoB w w [(sl v 1 xs.length (ints xs))] := sep_ro ⟨rfl, hv, trivial⟩
 refine c_seq ?_
 refine c_region ?_
 refine st hA0 (op_assign rfl (evc _ _)) rfl rfl (by decide) fun a1 hA2 => ?_; clear hA0 a0
 refine wl_nil ?_
 refine then_n ?_
 refine c_seq ?_
 refine c_seq ?_
 refine c_region ?_
 refine st hA2 (op_move rfl (hA2.ev rfl)) rfl rfl (by decide) fun a3 hA4 => ?_; clear hA2 a1
 refine st hA4 (op_lenS rfl un_23 (hA4.ev rfl) (hS0.ok 0 _ rfl)) rfl rfl (by decide) fun a5 hA6 => ?_; clear hA4 a3
 refine st hA6 (op_move rfl (evc _ _)) rfl rfl (by decide) fun a7 hA8 => ?_; clear hA6 a5
 refine wl_nil ?_
 refine then_n ?_
 refine c_block ?_
 have hA9 := hA8.as [(8, (Value.int .i64 0)), (7, (Value.int .i64 (xs.length : Int))), (0, v), (1, (Value.int .i64 x))] rfl; clear hA8
 refine c_loop (G := Nat) (fun (k : Nat) a_ w_ => Fr 19 [] [(8, (Value.int .i64 (k : Int))), (7, (Value.int .i64 (xs.length : Int))), (0, v), (1, (Value.int .i64 x))] a_ ∧ Sep NoB w w_ [(sl v 1 xs.length (ints xs))] ∧ (k ≤ xs.length) ∧ (∀ i, i < k → decide (x = xs.getD i 0) = false)) (fun k => xs.length - k) 0 ⟨hA9.as _ rfl, hS0, by omega, by omega⟩ ?_
 clear hA9 hS0 a7
 rintro k a10 w12 ⟨hA11, hS13, hk, hn⟩
 refine c_seq ?_
 refine c_region ?_
 refine st hA11 (op_lss rfl (hA11.ev rfl) (hA11.ev rfl)) rfl rfl (by decide) fun a14 hA15 => ?_; clear hA11 a10
 refine wl_nil ?_
 refine then_n ?_
 refine c_seq ?_
 by_cases hb16 : (k : Int) < (xs.length : Int)
 ·skip
  rw [decide_eq_true hb16] at hA15
  refine c_true hA15 rfl ?_
  refine c_skip ?_
  refine then_n ?_
  refine c_seq ?_
  refine c_block ?_
  refine c_seq ?_
  refine c_region ?_
  refine st hA15 (op_move rfl (hA15.ev rfl)) rfl rfl (by decide) fun a17 hA18 => ?_; clear hA15 a14
  refine st hA18 (op_assign rfl (hA18.ev rfl)) rfl rfl (by decide) fun a19 hA20 => ?_; clear hA18 a17
  refine wl_nil ?_
  refine then_n ?_
  refine c_seq ?_
  refine c_region ?_
  refine st hA20 (op_move rfl (hA20.ev rfl)) rfl rfl (by decide) fun a21 hA22 => ?_; clear hA20 a19
  refine st hA22 (op_move rfl (hA22.ev rfl)) rfl rfl (by decide) fun a23 hA24 => ?_; clear hA22 a21
  refine st hA24 (op_move rfl (hA24.ev rfl)) rfl rfl (by decide) fun a25 hA26 => ?_; clear hA24 a23
  refine st hA26 (op_indexS rfl un_23 ty_3 (hA26.ev rfl) (i := k) (hA26.ev rfl) (hS13.ok 0 _ rfl) (by decide) (by omega)) rfl rfl (by decide) fun a27 hA28 => ?_; clear hA26 a25
  refine st hA28 (op_load1E rfl ty_3 (hA28.ev rfl) (hS13.ok 0 _ rfl) (ints_at (by omega))) rfl rfl (by decide) fun a29 hA30 => ?_; clear hA28 a27
  refine st hA30 (op_eql rfl (hA30.ev rfl) (hA30.ev rfl)) rfl rfl (by decide) fun a31 hA32 => ?_; clear hA30 a29
  refine wl_nil ?_
  refine then_n ?_
  by_cases hb33 : x = (xs.getD k 0)
  ·skip
   rw [decide_eq_true hb33] at hA32
   refine c_true hA32 rfl ?_
   refine c_seq ?_
   have hA34 := hA32.as [(5, (Value.int .i64 (k : Int)))] rfl; clear hA32
   refine c_region ?_
   refine st hA34 (op_move rfl (hA34.ev rfl)) rfl rfl (by decide) fun a35 hA36 => ?_; clear hA34 a31
   refine st hA36 (op_assign rfl (hA36.ev rfl)) rfl rfl (by decide) fun a37 hA38 => ?_; clear hA36 a35
   refine wl_nil ?_
   refine then_n ?_
   refine c_ret ?_
   refine blk_ret ?_
   refine then_ret ?_
   refine then_ret ?_
   refine blk_ret ?_
   refine then_ret ?_
   refine fin_run hA38 (.inl rfl) (run_results1 hA38 rfl (.tmp rfl)) ?_
   exact ⟨by first | rw [fidx_hit (by omega) hn (decide_eq_true (by assumption))] | rw [fidx_miss (fun i hi => hn i (by omega))], hS13.ext⟩
  ·skip
   rw [decide_eq_false hb33] at hA32
   refine c_false hA32 rfl ?_
   refine c_skip ?_
   refine blk_n ?_
   refine then_n ?_
   have hA39 := hA32.as [(8, (Value.int .i64 (k : Int))), (7, (Value.int .i64 (xs.length : Int))), (0, v), (1, (Value.int .i64 x))] rfl; clear hA32
   refine c_region ?_
   refine st hA39 (op_add rfl (hA39.ev rfl) (evc _ _) (by omega) (by omega)) rfl rfl (by decide) fun a40 hA41 => ?_; clear hA39 a31
   refine st hA41 (op_move rfl (hA41.ev rfl)) rfl rfl (by decide) fun a42 hA43 => ?_; clear hA41 a40
   refine wl_nil ?_
   exact then_n ⟨k + 1, ⟨hA43.as _ rfl, hS13, by omega, (fun i hi => by rcases Nat.lt_succ_iff_lt_or_eq.1 hi with h | h; exact hn i h; subst h; exact decide_eq_false (by assumption))⟩, by omega⟩
 ·skip
  rw [decide_eq_false hb16] at hA15
  refine c_false hA15 rfl ?_
  refine c_exit ?_
  refine then_exit ?_
  refine then_exit ?_
  refine blk_hit ?_
  refine then_n ?_
  refine c_seq ?_
  refine c_region ?_
  refine st hA15 (op_assign rfl (evc _ _)) rfl rfl (by decide) fun a44 hA45 => ?_; clear hA15 a14
  refine wl_nil ?_
  refine then_n ?_
  refine c_ret ?_
  refine fin_run hA45 (.inl rfl) (run_results1 hA45 rfl (.tmp rfl)) ?_
  exact ⟨by first | rw [fidx_hit (by omega) hn (decide_eq_true (by assumption))] | rw [fidx_miss (fun i hi => hn i (by omega))], hS13.ext⟩

theorem contains_ok (xs : List Int) (x : Int) (v : Value) (w : World) (hv : SlAt w v 1 xs.length (ints xs)) (hlen : xs.length ≤ 1000000) :
  Calls Try.prog 64 #[v, (Value.int .i64 x)] w (Ret fun v w' => v = .bool (hasB xs x) ∧ Ext NoB w w') := by
 refine calls_enter Try.func64 rfl fun a0 hA0 => ?_
 replace hA0 : Fr 9 [] [(0, v), (1, (Value.int .i64 x))] a0 := hA0
 have hS0 : Sep NoB w w [(sl v 1 xs.length (ints xs))] := sep_ro ⟨rfl, hv, trivial⟩
 refine c_seq ?_
 refine c_region ?_
 refine st hA0 (op_assign rfl (evc _ _)) rfl rfl (by decide) fun a1 hA2 => ?_; clear hA0 a0
 refine wl_nil ?_
 refine then_n ?_
 refine c_seq ?_
 refine c_region ?_
 refine st hA2 (op_move rfl (hA2.ev rfl)) rfl rfl (by decide) fun a3 hA4 => ?_; clear hA2 a1
 refine st hA4 (op_move rfl (hA4.ev rfl)) rfl rfl (by decide) fun a5 hA6 => ?_; clear hA4 a3
 refine stw hA6 (op_call rfl en_84 (ev2 (hA6.ev rfl) (hA6.ev rfl)) (index_ok xs x _ _ (hS0.ok 0 _ rfl) hlen)) rfl rfl (by decide) ?_
 rintro a7 _ w9 ⟨rfl, hE10⟩ hA8; have hS11 := hS0.step hE10; clear hE10 hA6 hS0 a5
 refine st hA8 (op_geq rfl (hA8.ev rfl) (evc _ _)) rfl rfl (by decide) fun a12 hA13 => ?_; clear hA8 a7
 refine st hA13 (op_assign rfl (hA13.ev rfl)) rfl rfl (by decide) fun a14 hA15 => ?_; clear hA13 a12
 refine wl_nil ?_
 refine then_n ?_
 refine c_ret ?_
 refine fin_run hA15 (.inl rfl) (run_results1 hA15 rfl (.tmp rfl)) ?_
 exact ⟨congrArg Value.bool (fidx_any (fun i => decide (x = xs.getD i 0)) xs.length), hS11.ext⟩

theorem hasin_ok (xs : List Int) (x : Int) (v : Value) (w : World) (hv : SlAt w v 1 xs.length (ints xs)) (hlen : xs.length ≤ 1000000) (b : Nat) (hb : (blk b 3 [.int .i64 x]).p w) :
  Calls Try.prog 63 #[v, (bptr b 0)] w (Ret fun v w' => v = .bool (hasB xs x) ∧ Ext NoB w w') := by
 refine calls_enter Try.func63 rfl fun a0 hA0 => ?_
 replace hA0 : Fr 7 [] [(0, v), (1, (bptr b 0))] a0 := hA0
 have hS0 : Sep NoB w w [(rob b 3 [(Value.int .i64 x)]), (sl v 1 xs.length (ints xs))] := sep_ro ⟨rfl, hb, rfl, hv, trivial⟩
 refine c_seq ?_
 refine c_region ?_
 refine st hA0 (op_assign rfl (evc _ _)) rfl rfl (by decide) fun a1 hA2 => ?_; clear hA0 a0
 refine wl_nil ?_
 refine then_n ?_
 refine c_seq ?_
 refine c_region ?_
 refine st hA2 (op_move rfl (hA2.ev rfl)) rfl rfl (by decide) fun a3 hA4 => ?_; clear hA2 a1
 refine st hA4 (op_load1 rfl ty_3 (hA4.ev rfl) (hS0.rk 0 rfl) rfl) rfl rfl (by decide) fun a5 hA6 => ?_; clear hA4 a3
 refine stw hA6 (op_call rfl en_64 (ev2 (hA6.ev rfl) (hA6.ev rfl)) (contains_ok xs x _ _ (hS0.ok 1 _ rfl) hlen)) rfl rfl (by decide) ?_
 rintro a7 _ w9 ⟨rfl, hE10⟩ hA8; have hS11 := hS0.step hE10; clear hE10 hA6 hS0 a5
 refine st hA8 (op_assign rfl (hA8.ev rfl)) rfl rfl (by decide) fun a12 hA13 => ?_; clear hA8 a7
 refine wl_nil ?_
 refine then_n ?_
 refine c_ret ?_
 refine fin_run hA13 (.inl rfl) (run_results1 hA13 rfl (.tmp rfl)) ?_
 exact ⟨rfl, hS11.ext⟩

theorem least_bad (vl vs vb : Value) (lv : List Value) (d : RD) (w : World) (hR : RoundAt w vl vs vb lv d) (hc : checkR d ≠ 0) :
  Calls Try.prog 29 #[(Value.agg #[vl, vs, (Value.int .i64 d.spread), vb])] w (Ret fun v w' => ∃ u, v = .tuple #[u, .int .i64 (checkR d)] ∧ Sep NoB w w' [osl u 1 ([] : List Int).length (ints [])]) := by
 refine calls_enter Try.func29 rfl fun a0 hA0 => ?_
 replace hA0 : Fr 18 [] [(0, (Value.agg #[vl, vs, (Value.int .i64 d.spread), vb]))] a0 := hA0
 try have hVd := valid_of hc
 have hS0 : Sep NoB w w [(sl vl 2 d.lots.length (pairs d.lots)), (sl vs 1 d.samples.length (ints d.samples)), (sl vb 2 d.tols.length (vpairs (d.tols.zip lv))), (rdsR lv d.rds)] := sep_ro ⟨rfl, hR.lots, rfl, hR.samples, rfl, hR.labs, rfl, hR.rds, trivial⟩
 refine c_seq ?_
 refine c_region ?_
 refine stw hA0 (op_box hS0 rfl (hA0.ev rfl) (cs := [vl, vs, (Value.int .i64 d.spread), vb]) rfl) rfl rfl (by decide) ?_
 rintro a1 _ w3 ⟨b4, rfl, hS5⟩ hA2; clear hA0 hS0 a0
 refine st hA2 (op_assign rfl (evc _ _)) rfl rfl (by decide) fun a6 hA7 => ?_; clear hA2 a1
 refine st hA7 (op_assign rfl (evc _ _)) rfl rfl (by decide) fun a8 hA9 => ?_; clear hA7 a6
 refine wl_nil ?_
 refine then_n ?_
 refine c_seq ?_
 refine c_region ?_
 refine st hA9 (op_loadA rfl ty_34 (hA9.ev rfl) (hS5.bk 0 rfl) (l := [vl, vs, (Value.int .i64 d.spread), vb]) rfl rfl) rfl rfl (by decide) fun a10 hA11 => ?_; clear hA9 a8
 refine stw hA11 (op_call rfl en_57 (ev1 (hA11.ev rfl)) (judge_bad vl vs vb lv d _ (hR.step hS5.ext) hc)) rfl rfl (by decide) ?_
 rintro a12 _ w14 ⟨rfl, hE15⟩ hA13; have hS16 := hS5.step hE15; clear hE15 hA11 hS5 a10
 refine st hA13 (op_move rfl (hA13.ev rfl)) rfl rfl (by decide) fun a17 hA18 => ?_; clear hA13 a12
 refine st hA18 (op_extract rfl (hA18.ev rfl) rfl) rfl rfl (by decide) fun a19 hA20 => ?_; clear hA18 a17
 refine st hA20 (op_extract rfl (hA20.ev rfl) rfl) rfl rfl (by decide) fun a21 hA22 => ?_; clear hA20 a19
 refine st hA22 (op_assign rfl (hA22.ev rfl)) rfl rfl (by decide) fun a23 hA24 => ?_; clear hA22 a21
 refine st hA24 (op_assign rfl (hA24.ev rfl)) rfl rfl (by decide) fun a25 hA26 => ?_; clear hA24 a23
 refine wl_nil ?_
 refine then_n ?_
 refine c_seq ?_
 refine c_seq ?_
 have hA27 := hA26.as [(5, (Value.int .i64 (checkR d))), (4, (Value.pointer none))] rfl; clear hA26
 refine c_region ?_
 refine st hA27 (op_move rfl (hA27.ev rfl)) rfl rfl (by decide) fun a28 hA29 => ?_; clear hA27 a25
 refine st hA29 (op_neq rfl (hA29.ev rfl) (evc _ _)) rfl rfl (by decide) fun a30 hA31 => ?_; clear hA29 a28
 have hd32 : ¬ ((checkR d) = 0) := hc
 rw [decide_eq_false hd32] at hA31
 refine wl_nil ?_
 refine then_n ?_
 refine c_true hA31 rfl ?_
 refine c_seq ?_
 refine c_region ?_
 refine st hA31 (op_move rfl (hA31.ev rfl)) rfl rfl (by decide) fun a33 hA34 => ?_; clear hA31 a30
 refine st hA34 (op_assign rfl (evc _ _)) rfl rfl (by decide) fun a35 hA36 => ?_; clear hA34 a33
 refine st hA36 (op_assign rfl (hA36.ev rfl)) rfl rfl (by decide) fun a37 hA38 => ?_; clear hA36 a35
 refine wl_nil ?_
 refine then_n ?_
 refine c_ret ?_
 refine then_ret ?_
 refine fin_run hA38 (.inl rfl) (run_results2 hA38 rfl (.tmp rfl) (.tmp rfl)) ?_
 exact ⟨_, rfl, (osl_nil hS16).keep [0] (by decide) _ rfl rfl⟩

theorem least_good (vl vs vb : Value) (lv : List Value) (d : RD) (w : World) (hR : RoundAt w vl vs vb lv d) (hc : checkR d = 0) :
  Calls Try.prog 29 #[(Value.agg #[vl, vs, (Value.int .i64 d.spread), vb])] w (Ret fun v w' => ∃ u, v = .tuple #[u, .int .i64 (0)] ∧ Sep NoB w w' [osl u 1 (((fewestF d).getD 0 []) : List Int).length (ints ((fewestF d).getD 0 []))]) := by
 refine calls_enter Try.func29 rfl fun a0 hA0 => ?_
 replace hA0 : Fr 18 [] [(0, (Value.agg #[vl, vs, (Value.int .i64 d.spread), vb]))] a0 := hA0
 try have hVd := valid_of hc
 have hS0 : Sep NoB w w [(sl vl 2 d.lots.length (pairs d.lots)), (sl vs 1 d.samples.length (ints d.samples)), (sl vb 2 d.tols.length (vpairs (d.tols.zip lv))), (rdsR lv d.rds)] := sep_ro ⟨rfl, hR.lots, rfl, hR.samples, rfl, hR.labs, rfl, hR.rds, trivial⟩
 refine c_seq ?_
 refine c_region ?_
 refine stw hA0 (op_box hS0 rfl (hA0.ev rfl) (cs := [vl, vs, (Value.int .i64 d.spread), vb]) rfl) rfl rfl (by decide) ?_
 rintro a1 _ w3 ⟨b4, rfl, hS5⟩ hA2; clear hA0 hS0 a0
 refine st hA2 (op_assign rfl (evc _ _)) rfl rfl (by decide) fun a6 hA7 => ?_; clear hA2 a1
 refine st hA7 (op_assign rfl (evc _ _)) rfl rfl (by decide) fun a8 hA9 => ?_; clear hA7 a6
 refine wl_nil ?_
 refine then_n ?_
 refine c_seq ?_
 refine c_region ?_
 refine st hA9 (op_loadA rfl ty_34 (hA9.ev rfl) (hS5.bk 0 rfl) (l := [vl, vs, (Value.int .i64 d.spread), vb]) rfl rfl) rfl rfl (by decide) fun a10 hA11 => ?_; clear hA9 a8
 refine stw hA11 (op_call rfl en_57 (ev1 (hA11.ev rfl)) (judge_ok vl vs vb lv d _ (hR.step hS5.ext) hc)) rfl rfl (by decide) ?_
 rintro a12 _ w14 ⟨bj17, bm18, rfl, hT15⟩ hA13; have hS16 := hS5.callS hT15 rfl; clear hT15 hA11 hS5 a10
 refine st hA13 (op_move rfl (hA13.ev rfl)) rfl rfl (by decide) fun a19 hA20 => ?_; clear hA13 a12
 refine st hA20 (op_extract rfl (hA20.ev rfl) rfl) rfl rfl (by decide) fun a21 hA22 => ?_; clear hA20 a19
 refine st hA22 (op_extract rfl (hA22.ev rfl) rfl) rfl rfl (by decide) fun a23 hA24 => ?_; clear hA22 a21
 refine st hA24 (op_assign rfl (hA24.ev rfl)) rfl rfl (by decide) fun a25 hA26 => ?_; clear hA24 a23
 refine st hA26 (op_assign rfl (hA26.ev rfl)) rfl rfl (by decide) fun a27 hA28 => ?_; clear hA26 a25
 refine wl_nil ?_
 refine then_n ?_
 refine c_seq ?_
 refine c_seq ?_
 have hA29 := hA28.as [(5, (Value.int .i64 0)), (4, (bptr bj17 0))] rfl; clear hA28
 refine c_region ?_
 refine st hA29 (op_move rfl (hA29.ev rfl)) rfl rfl (by decide) fun a30 hA31 => ?_; clear hA29 a27
 refine st hA31 (op_neq rfl (hA31.ev rfl) (evc _ _)) rfl rfl (by decide) fun a32 hA33 => ?_; clear hA31 a30
 refine wl_nil ?_
 refine then_n ?_
 refine c_false hA33 rfl ?_
 refine c_skip ?_
 refine then_n ?_
 refine c_seq ?_
 refine c_region ?_
 refine st hA33 (op_move rfl (hA33.ev rfl)) rfl rfl (by decide) fun a34 hA35 => ?_; clear hA33 a32
 have hS39 := hS16.to_ro (i := 0) rfl; clear hS16
 have hS40 : Sep NoB w w14 [(memo bm18 (KR d)), (rob bj17 107 [vl, vs, (Value.int .i64 d.spread), vb, (Value.map (some bm18))]), (sl vl 2 d.lots.length (pairs d.lots)), (sl vs 1 d.samples.length (ints d.samples)), (sl vb 2 d.tols.length (vpairs (d.tols.zip lv))), (rdsR lv d.rds), (blk b4 34 [vl, vs, (Value.int .i64 d.spread), vb])] := hS39.keep [1, 0, 3, 4, 5, 6, 2] (by decide) _ rfl rfl; clear hS39
 refine stw hA35 (op_call rfl en_58 (ev1 (hA35.ev rfl)) (fewest_ok _ _ vl vs vb lv d _ (ownX [(memo bm18 (KR d)), (rob bj17 107 [vl, vs, (Value.int .i64 d.spread), vb, (Value.map (some bm18))]), (sl vl 2 d.lots.length (pairs d.lots)), (sl vs 1 d.samples.length (ints d.samples)), (sl vb 2 d.tols.length (vpairs (d.tols.zip lv))), (rdsR lv d.rds)]) hVd hR.lvl hR.rdl (Sep.enterG (A := [(memo bm18 (KR d)), (rob bj17 107 [vl, vs, (Value.int .i64 d.spread), vb, (Value.map (some bm18))]), (sl vl 2 d.lots.length (pairs d.lots)), (sl vs 1 d.samples.length (ints d.samples)), (sl vb 2 d.tols.length (vpairs (d.tols.zip lv))), (rdsR lv d.rds)]) (B := [(blk b4 34 [vl, vs, (Value.int .i64 d.spread), vb])]) hS40))) rfl rfl (by decide) ?_
 rintro a36 v42 w38 ⟨ov43, hT41⟩ hA37; clear hA35 a34
 have hS44 : Sep NoB w w38 [(row v42 23 1 ov43.length ov43), (lstR ov43 (fewestF d)), (memo bm18 (KR d)), (rob bj17 107 [vl, vs, (Value.int .i64 d.spread), vb, (Value.map (some bm18))]), (sl vl 2 d.lots.length (pairs d.lots)), (sl vs 1 d.samples.length (ints d.samples)), (sl vb 2 d.tols.length (vpairs (d.tols.zip lv))), (rdsR lv d.rds), (blk b4 34 [vl, vs, (Value.int .i64 d.spread), vb])] := Sep.callG (A := [(memo bm18 (KR d)), (rob bj17 107 [vl, vs, (Value.int .i64 d.spread), vb, (Value.map (some bm18))]), (sl vl 2 d.lots.length (pairs d.lots)), (sl vs 1 d.samples.length (ints d.samples)), (sl vb 2 d.tols.length (vpairs (d.tols.zip lv))), (rdsR lv d.rds)]) (B := [(blk b4 34 [vl, vs, (Value.int .i64 d.spread), vb])]) hS40 hT41 (lentOk_at ⟨.inl rfl, .inl rfl, .inl rfl, .inr ⟨1, rfl⟩, .inr ⟨2, rfl⟩, .inr ⟨3, rfl⟩, .inr ⟨4, rfl⟩, .inr ⟨5, rfl⟩, trivial⟩); clear hT41 hS40
 have hol := hS44.lst_len 1 rfl; have hfp := fewest_pos hVd; have hfl := fewUpto_len d hVd.nb (d.tols.length + 1) (by have := hVd.nb; omega); rw [show fewUpto d (d.tols.length + 1) = fewestF d from rfl] at hfl
 have hS45 : Sep NoB w w38 [(row v42 23 1 ov43.length ov43), (lstR ov43 (fewestF d)), (memo bm18 (KR d)), (rob bj17 107 [vl, vs, (Value.int .i64 d.spread), vb, (Value.map (some bm18))]), (blk b4 34 [vl, vs, (Value.int .i64 d.spread), vb]), (sl vl 2 d.lots.length (pairs d.lots)), (sl vs 1 d.samples.length (ints d.samples)), (sl vb 2 d.tols.length (vpairs (d.tols.zip lv))), (rdsR lv d.rds)] := hS44.keep [0, 1, 2, 3, 8, 4, 5, 6, 7] (by decide) _ rfl rfl; clear hS44
 refine st hA37 (op_indexS rfl un_51 ty_23 (hA37.ev rfl) (i := 0) (show _ = Value.int .i64 ((0 : Nat) : Int) from (evc _ _)) (SlAt.of_row (hS45.ok_row 0 rfl)) (by decide) (by omega)) rfl rfl (by decide) fun a46 hA47 => ?_; clear hA37 a36
 refine st hA47 (op_load1E rfl ty_23 (hA47.ev rfl) (SlAt.of_row (hS45.ok_row 0 rfl)) (vals_at (by omega))) rfl rfl (by decide) fun a48 hA49 => ?_; clear hA47 a46
 refine st hA49 (op_assign rfl (hA49.ev rfl)) rfl rfl (by decide) fun a50 hA51 => ?_; clear hA49 a48
 refine st hA51 (op_assign rfl (evc _ _)) rfl rfl (by decide) fun a52 hA53 => ?_; clear hA51 a50
 refine wl_nil ?_
 refine then_n ?_
 refine c_ret ?_
 refine fin_run hA53 (.inl rfl) (run_results2 hA53 rfl (.tmp rfl) (.tmp rfl)) ?_
 exact ⟨_, rfl, (hS45.lst_osl (i := 1) rfl 0 hfp).keep [1] (by decide) _ rfl rfl⟩

theorem least_fn (vl vs vb : Value) (lv : List Value) (d : RD) (w : World) (hR : RoundAt w vl vs vb lv d) :
  Calls Try.prog 29 #[(Value.agg #[vl, vs, (Value.int .i64 d.spread), vb])] w (Ret fun v w' => ∃ u, v = .tuple #[u, .int .i64 (leastR d).2] ∧ Sep NoB w w' [osl u 1 (leastR d).1.length (ints (leastR d).1)]) := by
 unfold leastR
 by_cases hc : checkR d = 0
 ·rw [if_pos hc]; exact least_good vl vs vb lv d w hR hc
 ·rw [if_neg hc]; exact least_bad vl vs vb lv d w hR hc

theorem conv_good (vl vs vb : Value) (lv : List Value) (d : RD) (w : World) (hR : RoundAt w vl vs vb lv d) (hc : checkR d = 0) :
  Calls Try.prog 38 #[(Value.agg #[vl, vs, (Value.int .i64 d.spread), vb])] w (Ret fun v w' => ((convF d).length = 0 ∧ v = .tuple #[.slice none 0 0, .int .i64 7] ∧ Ext NoB w w') ∨ ((convF d).length ≠ 0 ∧ ∃ u, v = .tuple #[u, .int .i64 0] ∧ Ext NoB w w' ∧ w'.ownsRow w.heap.size 3 1 u (convF d).length (ints (convF d)))) := by
 refine calls_enter Try.func38 rfl fun a0 hA0 => ?_
 replace hA0 : Fr 40 [] [(0, (Value.agg #[vl, vs, (Value.int .i64 d.spread), vb]))] a0 := hA0
 have hVd := valid_of hc; have hsm := fewest_each hVd 0
 have hS0 : Sep NoB w w [(sl vl 2 d.lots.length (pairs d.lots)), (sl vs 1 d.samples.length (ints d.samples)), (sl vb 2 d.tols.length (vpairs (d.tols.zip lv))), (rdsR lv d.rds)] := sep_ro ⟨rfl, hR.lots, rfl, hR.samples, rfl, hR.labs, rfl, hR.rds, trivial⟩
 refine c_seq ?_
 refine c_region ?_
 refine stw hA0 (op_box hS0 rfl (hA0.ev rfl) (cs := [vl, vs, (Value.int .i64 d.spread), vb]) rfl) rfl rfl (by decide) ?_
 rintro a1 _ w3 ⟨b4, rfl, hS5⟩ hA2; clear hA0 hS0 a0
 refine st hA2 (op_assign rfl (evc _ _)) rfl rfl (by decide) fun a6 hA7 => ?_; clear hA2 a1
 refine st hA7 (op_assign rfl (evc _ _)) rfl rfl (by decide) fun a8 hA9 => ?_; clear hA7 a6
 refine wl_nil ?_
 refine then_n ?_
 refine c_seq ?_
 refine c_region ?_
 refine st hA9 (op_loadA rfl ty_34 (hA9.ev rfl) (hS5.bk 0 rfl) (l := [vl, vs, (Value.int .i64 d.spread), vb]) rfl rfl) rfl rfl (by decide) fun a10 hA11 => ?_; clear hA9 a8
 refine stw hA11 (op_call rfl en_57 (ev1 (hA11.ev rfl)) (judge_ok vl vs vb lv d _ (hR.step hS5.ext) hc)) rfl rfl (by decide) ?_
 rintro a12 _ w14 ⟨bj17, bm18, rfl, hT15⟩ hA13; have hS16 := hS5.callS hT15 rfl; clear hT15 hA11 hS5 a10
 refine st hA13 (op_move rfl (hA13.ev rfl)) rfl rfl (by decide) fun a19 hA20 => ?_; clear hA13 a12
 refine st hA20 (op_extract rfl (hA20.ev rfl) rfl) rfl rfl (by decide) fun a21 hA22 => ?_; clear hA20 a19
 refine st hA22 (op_extract rfl (hA22.ev rfl) rfl) rfl rfl (by decide) fun a23 hA24 => ?_; clear hA22 a21
 refine st hA24 (op_assign rfl (hA24.ev rfl)) rfl rfl (by decide) fun a25 hA26 => ?_; clear hA24 a23
 refine st hA26 (op_assign rfl (hA26.ev rfl)) rfl rfl (by decide) fun a27 hA28 => ?_; clear hA26 a25
 refine wl_nil ?_
 refine then_n ?_
 refine c_seq ?_
 refine c_seq ?_
 have hA29 := hA28.as [(5, (Value.int .i64 0)), (4, (bptr bj17 0))] rfl; clear hA28
 refine c_region ?_
 refine st hA29 (op_move rfl (hA29.ev rfl)) rfl rfl (by decide) fun a30 hA31 => ?_; clear hA29 a27
 refine st hA31 (op_neq rfl (hA31.ev rfl) (evc _ _)) rfl rfl (by decide) fun a32 hA33 => ?_; clear hA31 a30
 refine wl_nil ?_
 refine then_n ?_
 refine c_false hA33 rfl ?_
 refine c_skip ?_
 refine then_n ?_
 refine c_seq ?_
 refine c_region ?_
 refine st hA33 (op_move rfl (hA33.ev rfl)) rfl rfl (by decide) fun a34 hA35 => ?_; clear hA33 a32
 have hS39 := hS16.to_ro (i := 0) rfl; clear hS16
 have hS40 : Sep NoB w w14 [(memo bm18 (KR d)), (rob bj17 107 [vl, vs, (Value.int .i64 d.spread), vb, (Value.map (some bm18))]), (sl vl 2 d.lots.length (pairs d.lots)), (sl vs 1 d.samples.length (ints d.samples)), (sl vb 2 d.tols.length (vpairs (d.tols.zip lv))), (rdsR lv d.rds), (blk b4 34 [vl, vs, (Value.int .i64 d.spread), vb])] := hS39.keep [1, 0, 3, 4, 5, 6, 2] (by decide) _ rfl rfl; clear hS39
 refine stw hA35 (op_call rfl en_58 (ev1 (hA35.ev rfl)) (fewest_ok _ _ vl vs vb lv d _ (ownX [(memo bm18 (KR d)), (rob bj17 107 [vl, vs, (Value.int .i64 d.spread), vb, (Value.map (some bm18))]), (sl vl 2 d.lots.length (pairs d.lots)), (sl vs 1 d.samples.length (ints d.samples)), (sl vb 2 d.tols.length (vpairs (d.tols.zip lv))), (rdsR lv d.rds)]) hVd hR.lvl hR.rdl (Sep.enterG (A := [(memo bm18 (KR d)), (rob bj17 107 [vl, vs, (Value.int .i64 d.spread), vb, (Value.map (some bm18))]), (sl vl 2 d.lots.length (pairs d.lots)), (sl vs 1 d.samples.length (ints d.samples)), (sl vb 2 d.tols.length (vpairs (d.tols.zip lv))), (rdsR lv d.rds)]) (B := [(blk b4 34 [vl, vs, (Value.int .i64 d.spread), vb])]) hS40))) rfl rfl (by decide) ?_
 rintro a36 v42 w38 ⟨ov43, hT41⟩ hA37; clear hA35 a34
 have hS44 : Sep NoB w w38 [(row v42 23 1 ov43.length ov43), (lstR ov43 (fewestF d)), (memo bm18 (KR d)), (rob bj17 107 [vl, vs, (Value.int .i64 d.spread), vb, (Value.map (some bm18))]), (sl vl 2 d.lots.length (pairs d.lots)), (sl vs 1 d.samples.length (ints d.samples)), (sl vb 2 d.tols.length (vpairs (d.tols.zip lv))), (rdsR lv d.rds), (blk b4 34 [vl, vs, (Value.int .i64 d.spread), vb])] := Sep.callG (A := [(memo bm18 (KR d)), (rob bj17 107 [vl, vs, (Value.int .i64 d.spread), vb, (Value.map (some bm18))]), (sl vl 2 d.lots.length (pairs d.lots)), (sl vs 1 d.samples.length (ints d.samples)), (sl vb 2 d.tols.length (vpairs (d.tols.zip lv))), (rdsR lv d.rds)]) (B := [(blk b4 34 [vl, vs, (Value.int .i64 d.spread), vb])]) hS40 hT41 (lentOk_at ⟨.inl rfl, .inl rfl, .inl rfl, .inr ⟨1, rfl⟩, .inr ⟨2, rfl⟩, .inr ⟨3, rfl⟩, .inr ⟨4, rfl⟩, .inr ⟨5, rfl⟩, trivial⟩); clear hT41 hS40
 have hol := hS44.lst_len 1 rfl; have hfp := fewest_pos hVd; have hfl := fewUpto_len d hVd.nb (d.tols.length + 1) (by have := hVd.nb; omega); rw [show fewUpto d (d.tols.length + 1) = fewestF d from rfl] at hfl
 have hS45 : Sep NoB w w38 [(row v42 23 1 ov43.length ov43), (lstR ov43 (fewestF d)), (memo bm18 (KR d)), (rob bj17 107 [vl, vs, (Value.int .i64 d.spread), vb, (Value.map (some bm18))]), (blk b4 34 [vl, vs, (Value.int .i64 d.spread), vb]), (sl vl 2 d.lots.length (pairs d.lots)), (sl vs 1 d.samples.length (ints d.samples)), (sl vb 2 d.tols.length (vpairs (d.tols.zip lv))), (rdsR lv d.rds)] := hS44.keep [0, 1, 2, 3, 8, 4, 5, 6, 7] (by decide) _ rfl rfl; clear hS44
 refine st hA37 (op_assign rfl (hA37.ev rfl)) rfl rfl (by decide) fun a46 hA47 => ?_; clear hA37 a36
 refine wl_nil ?_
 refine then_n ?_
 refine c_seq ?_
 have hA48 := hA47.as [(6, v42)] rfl; clear hA47
 refine c_region ?_
 refine st hA48 (op_assign rfl (evc _ _)) rfl rfl (by decide) fun a49 hA50 => ?_; clear hA48 a46
 have hS51 := hS45.nil_row 3 1; clear hS45
 refine wl_nil ?_
 refine then_n ?_
 refine c_seq ?_
 refine c_seq ?_
 refine c_region ?_
 refine st hA50 (op_move rfl (hA50.ev rfl)) rfl rfl (by decide) fun a52 hA53 => ?_; clear hA50 a49
 refine st hA53 (op_indexS rfl un_51 ty_23 (hA53.ev rfl) (i := 0) (show _ = Value.int .i64 ((0 : Nat) : Int) from (evc _ _)) (SlAt.of_row (hS51.ok_row 1 rfl)) (by decide) (by omega)) rfl rfl (by decide) fun a54 hA55 => ?_; clear hA53 a52
 refine st hA55 (op_load1E rfl ty_23 (hA55.ev rfl) (SlAt.of_row (hS51.ok_row 1 rfl)) (vals_at (by omega))) rfl rfl (by decide) fun a56 hA57 => ?_; clear hA55 a54
 refine st hA57 (op_lenS rfl un_23 (hA57.ev rfl) ((hS51.lst_at 2 rfl).2 0 (by omega))) rfl rfl (by decide) fun a58 hA59 => ?_; clear hA57 a56
 refine st hA59 (op_move rfl (evc _ _)) rfl rfl (by decide) fun a60 hA61 => ?_; clear hA59 a58
 refine wl_nil ?_
 refine then_n ?_
 refine c_block ?_
 have hA62 := hA61.as [(24, (Value.int .i64 0)), (23, (Value.int .i64 (((fewestF d).getD 0 []).length : Int))), (22, (ov43.getD 0 nilS)), (7, (Value.slice none 0 0)), (6, v42)] rfl; clear hA61
 refine c_loop (G := Nat) (fun (k : Nat) a_ w_ => ∃ v7_ : Value, Fr 40 [] [(24, (Value.int .i64 (k : Int))), (23, (Value.int .i64 (((fewestF d).getD 0 []).length : Int))), (22, (ov43.getD 0 nilS)), (7, v7_), (6, v42)] a_ ∧ Sep NoB w w_ [(row v7_ 3 1 ((convUpto d k).length) (ints (convUpto d k))), (row v42 23 1 ov43.length ov43), (lstR ov43 (fewestF d)), (memo bm18 (KR d)), (rob bj17 107 [vl, vs, (Value.int .i64 d.spread), vb, (Value.map (some bm18))]), (blk b4 34 [vl, vs, (Value.int .i64 d.spread), vb]), (sl vl 2 d.lots.length (pairs d.lots)), (sl vs 1 d.samples.length (ints d.samples)), (sl vb 2 d.tols.length (vpairs (d.tols.zip lv))), (rdsR lv d.rds)] ∧ (k ≤ ((fewestF d).getD 0 []).length)) (fun k => ((fewestF d).getD 0 []).length - k) 0 ⟨(Value.slice none 0 0), hA62.as _ rfl, hS51, by omega⟩ ?_
 clear hA62 hS51 a60
 rintro k a63 w65 ⟨v7_, hA64, hS66, hk⟩
 have hcl := convUpto_len (d := d) k
 refine c_seq ?_
 refine c_region ?_
 refine st hA64 (op_lss rfl (hA64.ev rfl) (hA64.ev rfl)) rfl rfl (by decide) fun a67 hA68 => ?_; clear hA64 a63
 refine wl_nil ?_
 refine then_n ?_
 refine c_seq ?_
 by_cases hb69 : (k : Int) < (((fewestF d).getD 0 []).length : Int)
 ·skip
  rw [decide_eq_true hb69] at hA68
  refine c_true hA68 rfl ?_
  refine c_skip ?_
  refine then_n ?_
  refine c_seq ?_
  refine c_block ?_
  refine c_seq ?_
  refine c_region ?_
  refine st hA68 (op_indexS rfl un_23 ty_3 (hA68.ev rfl) (i := k) (hA68.ev rfl) ((hS66.lst_at 2 rfl).2 0 (by omega)) (by decide) (by omega)) rfl rfl (by decide) fun a70 hA71 => ?_; clear hA68 a67
  refine st hA71 (op_load1E rfl ty_3 (hA71.ev rfl) ((hS66.lst_at 2 rfl).2 0 (by omega)) (ints_at (by omega))) rfl rfl (by decide) fun a72 hA73 => ?_; clear hA71 a70
  refine stw hA73 (op_alloc hS66 rfl ze_3 (cs := [(Value.int .i64 0)]) rfl) rfl rfl (by decide) ?_
  rintro a74 _ w76 ⟨b77, rfl, hS78⟩ hA75; clear hA73 hS66 a72
  refine sts hA75 (op_store hS78 rfl ty_3 (hA75.ev rfl) (hA75.ev rfl) (i := 0) rfl (vs := [(Value.int .i64 (((fewestF d).getD 0 []).getD k 0))]) rfl rfl rfl (Nat.le_of_ble_eq_true rfl)) rfl rfl ?_
  intro _ w79 hS80 hA81; clear hA75
  have hS82 : Sep NoB w w79 [(blk b77 3 [(Value.int .i64 (((fewestF d).getD 0 []).getD k 0))]), (row v7_ 3 1 ((convUpto d k).length) (ints (convUpto d k))), (row v42 23 1 ov43.length ov43), (lstR ov43 (fewestF d)), (memo bm18 (KR d)), (rob bj17 107 [vl, vs, (Value.int .i64 d.spread), vb, (Value.map (some bm18))]), (blk b4 34 [vl, vs, (Value.int .i64 d.spread), vb]), (sl vl 2 d.lots.length (pairs d.lots)), (sl vs 1 d.samples.length (ints d.samples)), (sl vb 2 d.tols.length (vpairs (d.tols.zip lv))), (rdsR lv d.rds)] := hS80; clear hS80 hS78
  refine wl_nil ?_
  refine then_n ?_
  refine c_seq ?_
  refine c_region ?_
  refine st hA81 (op_move rfl (hA81.ev rfl)) rfl rfl (by decide) fun a83 hA84 => ?_; clear hA81 a74
  refine st hA84 (op_makeFunc rfl ev0 (ev1 (hA84.ev rfl))) rfl rfl (by decide) fun a85 hA86 => ?_; clear hA84 a83
  refine stw hA86 (op_call rfl en_62 (ev2 (hA86.ev rfl) (hA86.ev rfl)) (all_sls ov43 _ 63 #[] #[(bptr b77 0)] (fun i => hasB ((fewestF d).getD i []) (((fewestF d).getD 0 []).getD k 0)) _ (SlAt.of_row (hS82.ok_row 2 rfl)) (by omega) ⟨en_63, fun i hi W hW => hasin_ok _ _ _ W (((hS82.step hW).lst_at 3 rfl).2 i (by omega)) (by have := fewest_each hVd i; omega) _ ((hS82.step hW).bk 0 rfl)⟩)) rfl rfl (by decide) ?_
  rintro a87 _ w89 ⟨rfl, hE90⟩ hA88; have hS91 := hS82.step hE90; clear hE90 hA86 hS82 a85
  refine wl_nil ?_
  refine then_n ?_
  rcases Bool.eq_false_or_eq_true (((List.range ov43.length).all (fun i => hasB ((fewestF d).getD i []) (((fewestF d).getD 0 []).getD k 0)))) with hb92 | hb92
  ·skip
   rw [hb92] at hA88
   refine c_true hA88 rfl ?_
   have hA93 := hA88.as [(9, (bptr b77 0)), (24, (Value.int .i64 (k : Int))), (23, (Value.int .i64 (((fewestF d).getD 0 []).length : Int))), (22, (ov43.getD 0 nilS)), (7, v7_), (6, v42)] rfl; clear hA88
   refine c_region ?_
   refine st hA93 (op_move rfl (hA93.ev rfl)) rfl rfl (by decide) fun a94 hA95 => ?_; clear hA93 a87
   refine st hA95 (op_load1 rfl ty_3 (hA95.ev rfl) (hS91.bk 0 rfl) rfl) rfl rfl (by decide) fun a96 hA97 => ?_; clear hA95 a94
   refine stw hA97 (op_buildSlice hS91 rfl (pv1 (hA97.ev rfl)) un_23 ty_3 ze_3 (by decide) (cs := [(Value.int .i64 (((fewestF d).getD 0 []).getD k 0))]) (bs_3_1_0i _)) rfl rfl (by decide) ?_
   rintro a98 _ w100 ⟨b101, rfl, hS102⟩ hA99; clear hA97 hS91 a96
   refine stw hA99 (op_append hS102 rfl un_23 el_3 (hA99.ev rfl) (hA99.ev rfl) (i := 2) rfl (SlAt.of_blk (hS102.bk 0 rfl) rfl (Nat.le_of_ble_eq_true rfl)) rfl (by simp only [maxLen]; omega) (by omega)) rfl rfl (by decide) ?_
   intro a103 v106 w105 hS107 hA104
   have hS108 := hS107.row_say (i := 2) rfl (n' := ((convUpto d k) ++ [((fewestF d).getD 0 []).getD k 0]).length) (xs' := (ints ((convUpto d k) ++ [((fewestF d).getD 0 []).getD k 0]))) (by simp) (by simp [ints]); clear hS107 hA99 hS102 a98
   refine st hA104 (op_assign rfl (hA104.ev rfl)) rfl rfl (by decide) fun a109 hA110 => ?_; clear hA104 a103
   refine wl_nil ?_
   refine blk_n ?_
   refine then_n ?_
   refine c_region ?_
   refine st hA110 (op_add rfl (hA110.ev rfl) (evc _ _) (by omega) (by omega)) rfl rfl (by decide) fun a111 hA112 => ?_; clear hA110 a109
   refine st hA112 (op_move rfl (hA112.ev rfl)) rfl rfl (by decide) fun a113 hA114 => ?_; clear hA112 a111
   refine wl_nil ?_
   have hS115 : Sep NoB w w105 [(row v106 3 1 (((convUpto d k) ++ [((fewestF d).getD 0 []).getD k 0]).length) (ints ((convUpto d k) ++ [((fewestF d).getD 0 []).getD k 0]))), (row v42 23 1 ov43.length ov43), (lstR ov43 (fewestF d)), (memo bm18 (KR d)), (rob bj17 107 [vl, vs, (Value.int .i64 d.spread), vb, (Value.map (some bm18))]), (blk b4 34 [vl, vs, (Value.int .i64 d.spread), vb]), (sl vl 2 d.lots.length (pairs d.lots)), (sl vs 1 d.samples.length (ints d.samples)), (sl vb 2 d.tols.length (vpairs (d.tols.zip lv))), (rdsR lv d.rds)] := hS108.keep [2, 3, 4, 5, 6, 7, 8, 9, 10, 11] (by decide) _ rfl rfl; clear hS108
   exact then_n ⟨k + 1, ⟨v106, hA114.as _ rfl, (hS115.row_say (i := 0) rfl (by rw [convUpto_yes (by omega) (by rw [inAll, ← hol]; assumption)]) (by rw [convUpto_yes (by omega) (by rw [inAll, ← hol]; assumption)])), by omega⟩, by omega⟩
  ·skip
   rw [hb92] at hA88
   refine c_false hA88 rfl ?_
   refine c_skip ?_
   refine blk_n ?_
   refine then_n ?_
   have hA116 := hA88.as [(24, (Value.int .i64 (k : Int))), (23, (Value.int .i64 (((fewestF d).getD 0 []).length : Int))), (22, (ov43.getD 0 nilS)), (7, v7_), (6, v42)] rfl; clear hA88
   refine c_region ?_
   refine st hA116 (op_add rfl (hA116.ev rfl) (evc _ _) (by omega) (by omega)) rfl rfl (by decide) fun a117 hA118 => ?_; clear hA116 a87
   refine st hA118 (op_move rfl (hA118.ev rfl)) rfl rfl (by decide) fun a119 hA120 => ?_; clear hA118 a117
   refine wl_nil ?_
   have hS121 : Sep NoB w w89 [(row v7_ 3 1 ((convUpto d k).length) (ints (convUpto d k))), (row v42 23 1 ov43.length ov43), (lstR ov43 (fewestF d)), (memo bm18 (KR d)), (rob bj17 107 [vl, vs, (Value.int .i64 d.spread), vb, (Value.map (some bm18))]), (blk b4 34 [vl, vs, (Value.int .i64 d.spread), vb]), (sl vl 2 d.lots.length (pairs d.lots)), (sl vs 1 d.samples.length (ints d.samples)), (sl vb 2 d.tols.length (vpairs (d.tols.zip lv))), (rdsR lv d.rds)] := hS91.keep [1, 2, 3, 4, 5, 6, 7, 8, 9, 10] (by decide) _ rfl rfl; clear hS91
   exact then_n ⟨k + 1, ⟨v7_, hA120.as _ rfl, (hS121.row_say (i := 0) rfl (by rw [convUpto_no (by omega) (by rw [inAll, ← hol]; assumption)]) (by rw [convUpto_no (by omega) (by rw [inAll, ← hol]; assumption)])), by omega⟩, by omega⟩
 ·skip
  rw [decide_eq_false hb69] at hA68
  refine c_false hA68 rfl ?_
  refine c_exit ?_
  refine then_exit ?_
  refine then_exit ?_
  refine blk_hit ?_
  refine then_n ?_
  refine c_seq ?_
  refine c_seq ?_
  refine c_region ?_
  refine st hA68 (op_move rfl (hA68.ev rfl)) rfl rfl (by decide) fun a122 hA123 => ?_; clear hA68 a67
  refine st hA123 (op_lenS rfl un_23 (hA123.ev rfl) (SlAt.of_row (hS66.ok_row 0 rfl))) rfl rfl (by decide) fun a124 hA125 => ?_; clear hA123 a122
  refine st hA125 (op_eql rfl (hA125.ev rfl) (evc _ _)) rfl rfl (by decide) fun a126 hA127 => ?_; clear hA125 a124
  refine wl_nil ?_
  refine then_n ?_
  by_cases hb128 : ((convUpto d k).length : Int) = 0
  ·skip
   rw [decide_eq_true hb128] at hA127
   refine c_true hA127 rfl ?_
   refine c_seq ?_
   have hA129 := hA127.as [] rfl; clear hA127
   refine c_region ?_
   refine st hA129 (op_assign rfl (evc _ _)) rfl rfl (by decide) fun a130 hA131 => ?_; clear hA129 a126
   refine st hA131 (op_assign rfl (evc _ _)) rfl rfl (by decide) fun a132 hA133 => ?_; clear hA131 a130
   refine wl_nil ?_
   refine then_n ?_
   refine c_ret ?_
   refine then_ret ?_
   refine fin_run hA133 (.inl rfl) (run_results2 hA133 rfl (.tmp rfl) (.tmp rfl)) ?_
   have hcv := convUpto_all (d := d) (n := k) (by omega); rw [← hcv]; exact .inl ⟨by omega, rfl, hS66.ext⟩
  ·skip
   rw [decide_eq_false hb128] at hA127
   refine c_false hA127 rfl ?_
   refine c_skip ?_
   refine then_n ?_
   refine c_seq ?_
   have hA134 := hA127.as [(7, v7_)] rfl; clear hA127
   refine c_region ?_
   refine st hA134 (op_move rfl (hA134.ev rfl)) rfl rfl (by decide) fun a135 hA136 => ?_; clear hA134 a126
   refine st hA136 (op_assign rfl (hA136.ev rfl)) rfl rfl (by decide) fun a137 hA138 => ?_; clear hA136 a135
   refine st hA138 (op_assign rfl (evc _ _)) rfl rfl (by decide) fun a139 hA140 => ?_; clear hA138 a137
   refine wl_nil ?_
   refine then_n ?_
   refine c_ret ?_
   refine fin_run hA140 (.inl rfl) (run_results2 hA140 rfl (.tmp rfl) (.tmp rfl)) ?_
   have hcv := convUpto_all (d := d) (n := k) (by omega); rw [← hcv]; exact .inr ⟨by omega, _, rfl, hS66.ext, hS66.row_new (i := 0) rfl⟩

theorem conv_bad (vl vs vb : Value) (lv : List Value) (d : RD) (w : World) (hR : RoundAt w vl vs vb lv d) (hc : checkR d ≠ 0) :
  Calls Try.prog 38 #[(Value.agg #[vl, vs, (Value.int .i64 d.spread), vb])] w (Ret fun v w' => v = .tuple #[.slice none 0 0, .int .i64 (checkR d)] ∧ Ext NoB w w') := by
 refine calls_enter Try.func38 rfl fun a0 hA0 => ?_
 replace hA0 : Fr 40 [] [(0, (Value.agg #[vl, vs, (Value.int .i64 d.spread), vb]))] a0 := hA0
 have hS0 : Sep NoB w w [(sl vl 2 d.lots.length (pairs d.lots)), (sl vs 1 d.samples.length (ints d.samples)), (sl vb 2 d.tols.length (vpairs (d.tols.zip lv))), (rdsR lv d.rds)] := sep_ro ⟨rfl, hR.lots, rfl, hR.samples, rfl, hR.labs, rfl, hR.rds, trivial⟩
 refine c_seq ?_
 refine c_region ?_
 refine stw hA0 (op_box hS0 rfl (hA0.ev rfl) (cs := [vl, vs, (Value.int .i64 d.spread), vb]) rfl) rfl rfl (by decide) ?_
 rintro a1 _ w3 ⟨b4, rfl, hS5⟩ hA2; clear hA0 hS0 a0
 refine st hA2 (op_assign rfl (evc _ _)) rfl rfl (by decide) fun a6 hA7 => ?_; clear hA2 a1
 refine st hA7 (op_assign rfl (evc _ _)) rfl rfl (by decide) fun a8 hA9 => ?_; clear hA7 a6
 refine wl_nil ?_
 refine then_n ?_
 refine c_seq ?_
 refine c_region ?_
 refine st hA9 (op_loadA rfl ty_34 (hA9.ev rfl) (hS5.bk 0 rfl) (l := [vl, vs, (Value.int .i64 d.spread), vb]) rfl rfl) rfl rfl (by decide) fun a10 hA11 => ?_; clear hA9 a8
 refine stw hA11 (op_call rfl en_57 (ev1 (hA11.ev rfl)) (judge_bad vl vs vb lv d _ (hR.step hS5.ext) hc)) rfl rfl (by decide) ?_
 rintro a12 _ w14 ⟨rfl, hE15⟩ hA13; have hS16 := hS5.step hE15; clear hE15 hA11 hS5 a10
 refine st hA13 (op_move rfl (hA13.ev rfl)) rfl rfl (by decide) fun a17 hA18 => ?_; clear hA13 a12
 refine st hA18 (op_extract rfl (hA18.ev rfl) rfl) rfl rfl (by decide) fun a19 hA20 => ?_; clear hA18 a17
 refine st hA20 (op_extract rfl (hA20.ev rfl) rfl) rfl rfl (by decide) fun a21 hA22 => ?_; clear hA20 a19
 refine st hA22 (op_assign rfl (hA22.ev rfl)) rfl rfl (by decide) fun a23 hA24 => ?_; clear hA22 a21
 refine st hA24 (op_assign rfl (hA24.ev rfl)) rfl rfl (by decide) fun a25 hA26 => ?_; clear hA24 a23
 refine wl_nil ?_
 refine then_n ?_
 refine c_seq ?_
 refine c_seq ?_
 have hA27 := hA26.as [(5, (Value.int .i64 (checkR d))), (4, (Value.pointer none))] rfl; clear hA26
 refine c_region ?_
 refine st hA27 (op_move rfl (hA27.ev rfl)) rfl rfl (by decide) fun a28 hA29 => ?_; clear hA27 a25
 refine st hA29 (op_neq rfl (hA29.ev rfl) (evc _ _)) rfl rfl (by decide) fun a30 hA31 => ?_; clear hA29 a28
 have hd32 : ¬ ((checkR d) = 0) := hc
 rw [decide_eq_false hd32] at hA31
 refine wl_nil ?_
 refine then_n ?_
 refine c_true hA31 rfl ?_
 refine c_seq ?_
 refine c_region ?_
 refine st hA31 (op_move rfl (hA31.ev rfl)) rfl rfl (by decide) fun a33 hA34 => ?_; clear hA31 a30
 refine st hA34 (op_assign rfl (evc _ _)) rfl rfl (by decide) fun a35 hA36 => ?_; clear hA34 a33
 refine st hA36 (op_assign rfl (hA36.ev rfl)) rfl rfl (by decide) fun a37 hA38 => ?_; clear hA36 a35
 refine wl_nil ?_
 refine then_n ?_
 refine c_ret ?_
 refine then_ret ?_
 refine fin_run hA38 (.inl rfl) (run_results2 hA38 rfl (.tmp rfl) (.tmp rfl)) ?_
 exact ⟨rfl, hS16.ext⟩

theorem conv_fn (vl vs vb : Value) (lv : List Value) (d : RD) (w : World) (hR : RoundAt w vl vs vb lv d) :
  Calls Try.prog 38 #[(Value.agg #[vl, vs, (Value.int .i64 d.spread), vb])] w (Ret fun v w' => ∃ u, v = .tuple #[u, .int .i64 (convR d).2] ∧ Ext NoB w w' ∧ w'.ownsRow w.heap.size 3 1 u (convR d).1.length (ints (convR d).1)) := by
 unfold convR
 by_cases hc : checkR d = 0
 ·rw [if_pos hc]
  refine (conv_good vl vs vb lv d w hR hc).mono (Ret.mono fun v w' h => ?_)
  rcases h with ⟨h0, rfl, hE⟩ | ⟨h0, h⟩
  ·rw [if_pos h0]; exact ⟨_, rfl, hE, ⟨rfl, .inl ⟨rfl, rfl⟩⟩⟩
  ·rw [if_neg h0]; exact h
 ·rw [if_neg hc]
  refine (conv_bad vl vs vb lv d w hR hc).mono (Ret.mono fun v w' h => ?_)
  obtain ⟨rfl, hE⟩ := h
  exact ⟨_, rfl, hE, ⟨rfl, .inl ⟨rfl, rfl⟩⟩⟩

end Go.Proofs.Ytfhmigoddaaljaa

namespace Go.Proofs.Ytfhmigoddaaljaa
open Go.RowKit Go.Shelf Go.Eng
theorem shifts_good (vl vs vb : Value) (lv : List Value) (d : RD) (w : World) (hR : RoundAt w vl vs vb lv d) (lab : Int) (hc : checkR d = 0) :
  Calls Try.prog 32 #[(Value.agg #[vl, vs, (Value.int .i64 d.spread), vb]), (Value.int .i64 lab)] w (Ret fun v w' => v = .tuple #[.agg #[.int .i64 (shiftsR d lab).1.1, .int .i64 (shiftsR d lab).1.2], .int .i64 (shiftsR d lab).2] ∧ Ext NoB w w') := by
 refine calls_enter Try.func32 rfl fun a0 hA0 => ?_
 replace hA0 : Fr 64 [] [(0, (Value.agg #[vl, vs, (Value.int .i64 d.spread), vb])), (1, (Value.int .i64 lab))] a0 := hA0
 have hVd := valid_of hc; have hnb := hVd.nb; have hoff : off0.length = 6 := rfl
 have hS0 : Sep NoB w w [(sl vl 2 d.lots.length (pairs d.lots)), (sl vs 1 d.samples.length (ints d.samples)), (sl vb 2 d.tols.length (vpairs (d.tols.zip lv))), (rdsR lv d.rds)] := sep_ro ⟨rfl, hR.lots, rfl, hR.samples, rfl, hR.labs, rfl, hR.rds, trivial⟩
 refine c_seq ?_
 refine c_region ?_
 refine stw hA0 (op_box hS0 rfl (hA0.ev rfl) (cs := [vl, vs, (Value.int .i64 d.spread), vb]) rfl) rfl rfl (by decide) ?_
 rintro a1 _ w3 ⟨b4, rfl, hS5⟩ hA2; clear hA0 hS0 a0
 refine stw hA2 (op_alloc hS5 rfl ze_46 (cs := [(Value.int .i64 0), (Value.int .i64 0)]) rfl) rfl rfl (by decide) ?_
 rintro a6 _ w8 ⟨b9, rfl, hS10⟩ hA7; clear hA2 hS5 a1
 refine st hA7 (op_assign rfl (evc _ _)) rfl rfl (by decide) fun a11 hA12 => ?_; clear hA7 a6
 refine wl_nil ?_
 refine then_n ?_
 refine c_seq ?_
 refine c_region ?_
 refine st hA12 (op_loadA rfl ty_34 (hA12.ev rfl) (hS10.bk 1 rfl) (l := [vl, vs, (Value.int .i64 d.spread), vb]) rfl rfl) rfl rfl (by decide) fun a13 hA14 => ?_; clear hA12 a11
 refine stw hA14 (op_call rfl en_57 (ev1 (hA14.ev rfl)) (judge_ok vl vs vb lv d _ (hR.step hS10.ext) hc)) rfl rfl (by decide) ?_
 rintro a15 _ w17 ⟨bj20, bm21, rfl, hT18⟩ hA16; have hS19 := hS10.callS hT18 rfl; clear hT18 hA14 hS10 a13
 refine st hA16 (op_move rfl (hA16.ev rfl)) rfl rfl (by decide) fun a22 hA23 => ?_; clear hA16 a15
 refine st hA23 (op_extract rfl (hA23.ev rfl) rfl) rfl rfl (by decide) fun a24 hA25 => ?_; clear hA23 a22
 refine st hA25 (op_extract rfl (hA25.ev rfl) rfl) rfl rfl (by decide) fun a26 hA27 => ?_; clear hA25 a24
 refine st hA27 (op_assign rfl (hA27.ev rfl)) rfl rfl (by decide) fun a28 hA29 => ?_; clear hA27 a26
 refine st hA29 (op_assign rfl (hA29.ev rfl)) rfl rfl (by decide) fun a30 hA31 => ?_; clear hA29 a28
 refine wl_nil ?_
 refine then_n ?_
 refine c_seq ?_
 refine c_seq ?_
 have hA32 := hA31.as [(7, (Value.int .i64 0)), (6, (bptr bj20 0)), (4, (bptr b9 0)), (2, (bptr b4 0)), (1, (Value.int .i64 lab))] rfl; clear hA31
 refine c_region ?_
 refine st hA32 (op_move rfl (hA32.ev rfl)) rfl rfl (by decide) fun a33 hA34 => ?_; clear hA32 a30
 refine st hA34 (op_neq rfl (hA34.ev rfl) (evc _ _)) rfl rfl (by decide) fun a35 hA36 => ?_; clear hA34 a33
 refine wl_nil ?_
 refine then_n ?_
 refine c_false hA36 rfl ?_
 refine c_skip ?_
 refine then_n ?_
 refine c_seq ?_
 refine c_seq ?_
 refine c_region ?_
 refine st hA36 (op_move rfl (hA36.ev rfl)) rfl rfl (by decide) fun a37 hA38 => ?_; clear hA36 a35
 refine st hA38 (op_field rfl fd_34_3 (hA38.ev rfl)) rfl rfl (by decide) fun a39 hA40 => ?_; clear hA38 a37
 refine st hA40 (op_load1 rfl ty_32 (hA40.ev rfl) (hS19.bk 3 rfl) rfl) rfl rfl (by decide) fun a41 hA42 => ?_; clear hA40 a39
 refine st hA42 (op_lenS rfl un_32 (hA42.ev rfl) (hS19.sk 6 rfl)) rfl rfl (by decide) fun a43 hA44 => ?_; clear hA42 a41
 refine st hA44 (op_sub rfl (hA44.ev rfl) (evc _ _) (by omega) (by omega)) rfl rfl (by decide) fun a45 hA46 => ?_; clear hA44 a43
 refine stw hA46 (op_call rfl en_44 (ev3 (hA46.ev rfl) (evc _ _) (hA46.ev rfl)) (within_ok _ _ _ _)) rfl rfl (by decide) ?_
 rintro a47 _ _ ⟨rfl, rfl⟩ hA48; clear hA46 a45
 refine st hA48 (op_not rfl (hA48.ev rfl)) rfl rfl (by decide) fun a50 hA51 => ?_; clear hA48 a47
 refine wl_nil ?_
 refine then_n ?_
 rcases Bool.eq_false_or_eq_true ((decide (0 ≤ lab) && decide (lab ≤ ((d.tols.length : Int) - 1)))) with hb52 | hb52
 ·skip
  rw [hb52] at hA51
  have hq53 := hb52; simp only [Bool.and_eq_true, Bool.and_eq_false_iff, decide_eq_true_eq, decide_eq_false_iff_not] at hq53
  refine c_false hA51 rfl ?_
  refine c_skip ?_
  refine then_n ?_
  refine c_seq ?_
  have hA54 := hA51.as [(6, (bptr bj20 0)), (4, (bptr b9 0)), (1, (Value.int .i64 lab))] rfl; clear hA51
  refine c_region ?_
  refine stw hA54 (op_alloc hS19 rfl ze_85 (cs := (bools off0)) rfl) rfl rfl (by decide) ?_
  rintro a55 _ w57 ⟨b58, rfl, hS59⟩ hA56; clear hA54 hS19 a50
  refine wl_nil ?_
  refine then_n ?_
  refine c_seq ?_
  refine c_region ?_
  refine st hA56 (op_move rfl (hA56.ev rfl)) rfl rfl (by decide) fun a60 hA61 => ?_; clear hA56 a55
  refine st hA61 (op_indexA rfl un_85 ty_4 (hA61.ev rfl) (i := lab.toNat) ((hA61.ev rfl).trans (int_nat (by omega))) (by omega)) rfl rfl (by decide) fun a62 hA63 => ?_; clear hA61 a60
  refine sts hA63 (op_store hS59 rfl ty_4 (hA63.ev rfl) (evc _ _) (i := 0) rfl (vs := [(Value.bool true)]) rfl rfl rfl (by simp only [bools_length, hoff]; omega)) rfl rfl ?_
  intro _ w64 hS65 hA67; have hS66 := hS65.blk_say (i := 0) rfl (cs' := (bools (off0.set lab.toNat true))) (by rw [setFrom_one, Nat.mul_one, Nat.zero_add, bools_set]); clear hS65 hA63 hS59
  refine wl_nil ?_
  refine then_n ?_
  refine c_seq ?_
  refine c_seq ?_
  refine c_region ?_
  refine st hA67 (op_move rfl (hA67.ev rfl)) rfl rfl (by decide) fun a68 hA69 => ?_; clear hA67 a62
  refine st hA69 (op_loadA rfl ty_85 (hA69.ev rfl) (hS66.bk 0 rfl) (l := (bools (off0.set lab.toNat true))) (drop_take_all _ _ (by simp [bools_length, offUpto_length, hoff])) (by simp [bools_length, offUpto_length, hoff])) rfl rfl (by decide) fun a70 hA71 => ?_; clear hA69 a68
  refine stw hA71 (op_call rfl en_52 (ev2 (hA71.ev rfl) (hA71.ev rfl)) (explain_ok _ _ (off0.set lab.toNat true) vl vs vb lv d _ (by simp [off0]) hVd hR.lvl hR.rdl (hS66.lendM (i := 2) rfl [1, 5, 6, 7, 8] ⟨rfl, by decide, hS66.bk 1 rfl, ⟨_, rfl, fun _ hz => hz⟩, rfl, by decide, hS66.sk 5 rfl, ⟨_, rfl, fun _ hz => hz⟩, rfl, by decide, hS66.sk 6 rfl, ⟨_, rfl, fun _ hz => hz⟩, rfl, by decide, hS66.sk 7 rfl, ⟨_, rfl, fun _ hz => hz⟩, rfl, by decide, hS66.ok 8 _ rfl, ⟨_, rfl, fun _ hz => hz⟩, trivial⟩))) rfl rfl (by decide) ?_
  rintro a72 _ w74 ⟨rfl, hE75, hM76⟩ hA73; have hS77 := hS66.updM (i := 2) rfl hE75 hM76; clear hE75 hM76 hA71 hS66 a70
  refine st hA73 (op_not rfl (hA73.ev rfl)) rfl rfl (by decide) fun a78 hA79 => ?_; clear hA73 a72
  refine wl_nil ?_
  refine then_n ?_
  rcases Bool.eq_false_or_eq_true ((explB d (off0.set lab.toNat true))) with hb80 | hb80
  ·skip
   rw [hb80] at hA79
   refine c_false hA79 rfl ?_
   refine c_skip ?_
   refine then_n ?_
   refine c_seq ?_
   have hA81 := hA79.as [(6, (bptr bj20 0)), (4, (bptr b9 0)), (1, (Value.int .i64 lab))] rfl; clear hA79
   refine c_region ?_
   refine st hA81 (op_build rfl (pv2 (evc _ _) (evc _ _)) (bd_46_0i_1i _ _)) rfl rfl (by decide) fun a82 hA83 => ?_; clear hA81 a78
   refine stw hA83 (op_alloc hS77 rfl ze_46 (cs := [(Value.int .i64 0), (Value.int .i64 0)]) rfl) rfl rfl (by decide) ?_
   rintro a84 _ w86 ⟨b87, rfl, hS88⟩ hA85; clear hA83 hS77 a82
   refine sts hA85 (op_store hS88 rfl ty_46 (hA85.ev rfl) (hA85.ev rfl) (i := 0) rfl (vs := [(Value.int .i64 1073741824), (Value.int .i64 (-1073741824))]) rfl rfl rfl (Nat.le_of_ble_eq_true rfl)) rfl rfl ?_
   intro _ w89 hS90 hA91; clear hA85
   have hS92 : Sep NoB w w89 [(blk b87 46 [(Value.int .i64 1073741824), (Value.int .i64 (-1073741824))]), (blk b58 85 (bools (off0.set lab.toNat true))), (blk bj20 107 [vl, vs, (Value.int .i64 d.spread), vb, (Value.map (some bm21))]), (memo bm21 (KR d)), (blk b9 46 [(Value.int .i64 0), (Value.int .i64 0)]), (blk b4 34 [vl, vs, (Value.int .i64 d.spread), vb]), (sl vl 2 d.lots.length (pairs d.lots)), (sl vs 1 d.samples.length (ints d.samples)), (sl vb 2 d.tols.length (vpairs (d.tols.zip lv))), (rdsR lv d.rds)] := hS90; clear hS90 hS88
   refine wl_nil ?_
   refine then_n ?_
   refine c_seq ?_
   refine c_seq ?_
   refine c_region ?_
   refine st hA91 (op_assign rfl (evc _ _)) rfl rfl (by decide) fun a93 hA94 => ?_; clear hA91 a84
   refine wl_nil ?_
   refine then_n ?_
   refine c_block ?_
   have hA95 := hA94.as [(10, (Value.int .i64 (-2000))), (9, (bptr b87 0)), (6, (bptr bj20 0)), (4, (bptr b9 0)), (1, (Value.int .i64 lab))] rfl; clear hA94
   refine c_loop (G := Nat) (fun (k : Nat) a_ w_ => Fr 64 [] [(10, (Value.int .i64 ((k : Int) - 2000))), (9, (bptr b87 0)), (6, (bptr bj20 0)), (4, (bptr b9 0)), (1, (Value.int .i64 lab))] a_ ∧ Sep NoB w w_ [(blk b87 46 [(Value.int .i64 ((shUpto d lab k).1)), (Value.int .i64 ((shUpto d lab k).2))]), (blk b58 85 (bools (off0.set lab.toNat true))), (blk bj20 107 [vl, vs, (Value.int .i64 d.spread), vb, (Value.map (some bm21))]), (memo bm21 (KR d)), (blk b9 46 [(Value.int .i64 0), (Value.int .i64 0)]), (blk b4 34 [vl, vs, (Value.int .i64 d.spread), vb]), (sl vl 2 d.lots.length (pairs d.lots)), (sl vs 1 d.samples.length (ints d.samples)), (sl vb 2 d.tols.length (vpairs (d.tols.zip lv))), (rdsR lv d.rds)] ∧ (k ≤ 4001)) (fun k => 4001 - k) 0 ⟨hA95.as _ (by rfl), hS92, by omega⟩ ?_
   clear hA95 hS92 a93
   rintro k a96 w98 ⟨hA97, hS99, hk⟩
   refine c_seq ?_
   refine c_seq ?_
   refine c_region ?_
   refine st hA97 (op_move rfl (hA97.ev rfl)) rfl rfl (by decide) fun a100 hA101 => ?_; clear hA97 a96
   refine st hA101 (op_leq rfl (hA101.ev rfl) (evc _ _)) rfl rfl (by decide) fun a102 hA103 => ?_; clear hA101 a100
   refine wl_nil ?_
   refine then_n ?_
   by_cases hb104 : ((k : Int) - 2000) ≤ 2000
   ·skip
    rw [decide_eq_true hb104] at hA103
    refine c_true hA103 rfl ?_
    refine c_skip ?_
    refine then_n ?_
    refine c_seq ?_
    refine c_block ?_
    refine c_seq ?_
    refine c_region ?_
    refine st hA103 (op_move rfl (hA103.ev rfl)) rfl rfl (by decide) fun a105 hA106 => ?_; clear hA103 a102
    refine st hA106 (op_build rfl pv0 bd_85_) rfl rfl (by decide) fun a107 hA108 => ?_; clear hA106 a105
    refine st hA108 (op_move rfl (hA108.ev rfl)) rfl rfl (by decide) fun a109 hA110 => ?_; clear hA108 a107
    refine st hA110 (op_move rfl (hA110.ev rfl)) rfl rfl (by decide) fun a111 hA112 => ?_; clear hA110 a109
    refine st hA112 (op_build rfl (pv2 (hA112.ev rfl) (hA112.ev rfl)) (bd_94_0i_1i _ _)) rfl rfl (by decide) fun a113 hA114 => ?_; clear hA112 a111
    refine stw hA114 (op_call rfl en_54 (ev3 (hA114.ev rfl) (hA114.ev rfl) (hA114.ev rfl)) (spans_ok bj20 off0 lab ((k : Int) - 2000) _ vl vs vb lv d _ rfl hVd (by omega) (hR.step hS99.ext) (hS99.bk 2 rfl))) rfl rfl (by decide) ?_
    rintro a115 _ w117 ⟨u118, rfl, hE119, hO120⟩ hA116; have hS121 := hS99.step hE119; clear hE119 hO120 hA114 hS99 a113
    refine st hA116 (op_move rfl (hA116.ev rfl)) rfl rfl (by decide) fun a122 hA123 => ?_; clear hA116 a115
    refine st hA123 (op_extract rfl (hA123.ev rfl) rfl) rfl rfl (by decide) fun a124 hA125 => ?_; clear hA123 a122
    refine st hA125 (op_extract rfl (hA125.ev rfl) rfl) rfl rfl (by decide) fun a126 hA127 => ?_; clear hA125 a124
    refine st hA127 (op_assign rfl (hA127.ev rfl)) rfl rfl (by decide) fun a128 hA129 => ?_; clear hA127 a126
    refine st hA129 (op_assign rfl (hA129.ev rfl)) rfl rfl (by decide) fun a130 hA131 => ?_; clear hA129 a128
    refine wl_nil ?_
    refine then_n ?_
    refine c_seq ?_
    have hA132 := hA131.as [(12, (Value.bool (shOk d lab ((k : Int) - 2000)))), (10, (Value.int .i64 ((k : Int) - 2000))), (9, (bptr b87 0)), (6, (bptr bj20 0)), (4, (bptr b9 0)), (1, (Value.int .i64 lab))] rfl; clear hA131
    refine c_region ?_
    refine st hA132 (op_move rfl (hA132.ev rfl)) rfl rfl (by decide) fun a133 hA134 => ?_; clear hA132 a130
    refine wl_nil ?_
    refine then_n ?_
    rcases Bool.eq_false_or_eq_true ((shOk d lab ((k : Int) - 2000))) with hb135 | hb135
    ·skip
     rw [hb135] at hA134
     refine c_true hA134 rfl ?_
     refine c_region ?_
     refine st hA134 (op_field rfl fd_46_0 (hA134.ev rfl)) rfl rfl (by decide) fun a136 hA137 => ?_; clear hA134 a133
     refine st hA137 (op_load1 rfl ty_3 (hA137.ev rfl) (hS121.bk 0 rfl) rfl) rfl rfl (by decide) fun a138 hA139 => ?_; clear hA137 a136
     refine st hA139 (op_move rfl (hA139.ev rfl)) rfl rfl (by decide) fun a140 hA141 => ?_; clear hA139 a138
     refine stw hA141 (op_buildSlice hS121 rfl (pv2 (hA141.ev rfl) (hA141.ev rfl)) un_23 ty_3 ze_3 (by decide) (cs := [(Value.int .i64 ((shUpto d lab k).1)), (Value.int .i64 ((k : Int) - 2000))]) (bs_3_2_0i_1i _ _)) rfl rfl (by decide) ?_
     rintro a142 _ w144 ⟨b145, rfl, hS146⟩ hA143; clear hA141 hS121 a140
     refine stw hA143 (op_call rfl en_60 (ev1 (hA143.ev rfl)) (least_ok [(shUpto d lab k).1, (k : Int) - 2000] _ _ (SlAt.of_blk (hS146.bk 0 rfl) rfl (Nat.le_of_ble_eq_true rfl)) (by simp) (by simp))) rfl rfl (by decide) ?_
     rintro a147 _ w149 ⟨rfl, hE150⟩ hA148; have hS151 := hS146.step hE150; clear hE150 hA143 hS146 a142
     refine st hA148 (op_move rfl (hA148.ev rfl)) rfl rfl (by decide) fun a152 hA153 => ?_; clear hA148 a147
     refine st hA153 (op_build rfl (pv2 (hA153.ev rfl) (hA153.ev rfl)) (bd_46_0i_1i _ _)) rfl rfl (by decide) fun a154 hA155 => ?_; clear hA153 a152
     refine sts hA155 (op_store hS151 rfl ty_46 (hA155.ev rfl) (hA155.ev rfl) (i := 1) rfl (vs := [(Value.int .i64 (min ((shUpto d lab k).1) ((k : Int) - 2000))), (Value.int .i64 ((k : Int) - 2000))]) rfl rfl rfl (Nat.le_of_ble_eq_true rfl)) rfl rfl ?_
     intro _ w156 hS157 hA158; clear hA155
     have hS159 : Sep NoB w w156 [(blk b145 3 [(Value.int .i64 ((shUpto d lab k).1)), (Value.int .i64 ((k : Int) - 2000))]), (blk b87 46 [(Value.int .i64 (min ((shUpto d lab k).1) ((k : Int) - 2000))), (Value.int .i64 ((k : Int) - 2000))]), (blk b58 85 (bools (off0.set lab.toNat true))), (blk bj20 107 [vl, vs, (Value.int .i64 d.spread), vb, (Value.map (some bm21))]), (memo bm21 (KR d)), (blk b9 46 [(Value.int .i64 0), (Value.int .i64 0)]), (blk b4 34 [vl, vs, (Value.int .i64 d.spread), vb]), (sl vl 2 d.lots.length (pairs d.lots)), (sl vs 1 d.samples.length (ints d.samples)), (sl vb 2 d.tols.length (vpairs (d.tols.zip lv))), (rdsR lv d.rds)] := hS157; clear hS157 hS151
     refine wl_nil ?_
     refine blk_n ?_
     refine then_n ?_
     have hA160 := hA158.as [(10, (Value.int .i64 ((k : Int) - 2000))), (9, (bptr b87 0)), (6, (bptr bj20 0)), (4, (bptr b9 0)), (1, (Value.int .i64 lab))] rfl; clear hA158
     refine c_region ?_
     refine st hA160 (op_move rfl (hA160.ev rfl)) rfl rfl (by decide) fun a161 hA162 => ?_; clear hA160 a154
     refine st hA162 (op_add rfl (hA162.ev rfl) (evc _ _) (by omega) (by omega)) rfl rfl (by decide) fun a163 hA164 => ?_; clear hA162 a161
     refine st hA164 (op_assign rfl (hA164.ev rfl)) rfl rfl (by decide) fun a165 hA166 => ?_; clear hA164 a163
     refine wl_nil ?_
     have hS167 : Sep NoB w w156 [(blk b87 46 [(Value.int .i64 (min ((shUpto d lab k).1) ((k : Int) - 2000))), (Value.int .i64 ((k : Int) - 2000))]), (blk b58 85 (bools (off0.set lab.toNat true))), (blk bj20 107 [vl, vs, (Value.int .i64 d.spread), vb, (Value.map (some bm21))]), (memo bm21 (KR d)), (blk b9 46 [(Value.int .i64 0), (Value.int .i64 0)]), (blk b4 34 [vl, vs, (Value.int .i64 d.spread), vb]), (sl vl 2 d.lots.length (pairs d.lots)), (sl vs 1 d.samples.length (ints d.samples)), (sl vb 2 d.tols.length (vpairs (d.tols.zip lv))), (rdsR lv d.rds)] := hS159.keep [1, 2, 3, 4, 5, 6, 7, 8, 9, 10] (by decide) _ rfl rfl; clear hS159
     exact then_n ⟨k + 1, ⟨hA166.as _ (by rw [show ((k + 1 : Nat) : Int) - 2000 = (k : Int) - 2000 + 1 by omega]; rfl), (hS167.blk_say (i := 0) rfl (by first | rw [shUpto_yes (by assumption)] | rw [shUpto_no (by assumption)])), by omega⟩, by omega⟩
    ·skip
     rw [hb135] at hA134
     refine c_false hA134 rfl ?_
     refine c_skip ?_
     refine blk_n ?_
     refine then_n ?_
     refine c_region ?_
     refine st hA134 (op_move rfl (hA134.ev rfl)) rfl rfl (by decide) fun a168 hA169 => ?_; clear hA134 a133
     refine st hA169 (op_add rfl (hA169.ev rfl) (evc _ _) (by omega) (by omega)) rfl rfl (by decide) fun a170 hA171 => ?_; clear hA169 a168
     refine st hA171 (op_assign rfl (hA171.ev rfl)) rfl rfl (by decide) fun a172 hA173 => ?_; clear hA171 a170
     refine wl_nil ?_
     exact then_n ⟨k + 1, ⟨hA173.as _ (by rw [show ((k + 1 : Nat) : Int) - 2000 = (k : Int) - 2000 + 1 by omega]; rfl), (hS121.blk_say (i := 0) rfl (by first | rw [shUpto_yes (by assumption)] | rw [shUpto_no (by assumption)])), by omega⟩, by omega⟩
   ·skip
    rw [decide_eq_false hb104] at hA103
    refine c_false hA103 rfl ?_
    refine c_exit ?_
    refine then_exit ?_
    refine then_exit ?_
    refine blk_hit ?_
    refine then_n ?_
    refine c_seq ?_
    refine c_seq ?_
    refine c_region ?_
    refine st hA103 (op_loadA rfl ty_46 (hA103.ev rfl) (hS99.bk 0 rfl) (l := [(Value.int .i64 ((shUpto d lab k).1)), (Value.int .i64 ((shUpto d lab k).2))]) rfl rfl) rfl rfl (by decide) fun a174 hA175 => ?_; clear hA103 a102
    refine st hA175 (op_build rfl (pv2 (evc _ _) (evc _ _)) (bd_46_0i_1i _ _)) rfl rfl (by decide) fun a176 hA177 => ?_; clear hA175 a174
    refine st hA177 (op_eqlP tw_46 rfl (hA177.ev rfl) (hA177.ev rfl)) rfl rfl (by decide) fun a178 hA179 => ?_; clear hA177 a176
    refine wl_nil ?_
    refine then_n ?_
    rcases Bool.eq_false_or_eq_true ((decide ((((shUpto d lab k).1) : Int) = 1073741824) && decide ((((shUpto d lab k).2) : Int) = (-1073741824)))) with hb180 | hb180
    ·skip
     rw [hb180] at hA179
     have hq181 := hb180; simp only [Bool.and_eq_true, Bool.and_eq_false_iff, decide_eq_true_eq, decide_eq_false_iff_not] at hq181
     refine c_true hA179 rfl ?_
     refine c_seq ?_
     have hA182 := hA179.as [(4, (bptr b9 0))] rfl; clear hA179
     refine c_region ?_
     refine st hA182 (op_build rfl pv0 bd_46_) rfl rfl (by decide) fun a183 hA184 => ?_; clear hA182 a178
     refine sts hA184 (op_store hS99 rfl ty_46 (hA184.ev rfl) (hA184.ev rfl) (i := 4) rfl (vs := [(Value.int .i64 0), (Value.int .i64 0)]) rfl rfl rfl (Nat.le_of_ble_eq_true rfl)) rfl rfl ?_
     intro _ w185 hS186 hA187; clear hA184
     have hS188 : Sep NoB w w185 [(blk b87 46 [(Value.int .i64 ((shUpto d lab k).1)), (Value.int .i64 ((shUpto d lab k).2))]), (blk b58 85 (bools (off0.set lab.toNat true))), (blk bj20 107 [vl, vs, (Value.int .i64 d.spread), vb, (Value.map (some bm21))]), (memo bm21 (KR d)), (blk b9 46 [(Value.int .i64 0), (Value.int .i64 0)]), (blk b4 34 [vl, vs, (Value.int .i64 d.spread), vb]), (sl vl 2 d.lots.length (pairs d.lots)), (sl vs 1 d.samples.length (ints d.samples)), (sl vb 2 d.tols.length (vpairs (d.tols.zip lv))), (rdsR lv d.rds)] := hS186; clear hS186 hS99
     refine st hA187 (op_assign rfl (evc _ _)) rfl rfl (by decide) fun a189 hA190 => ?_; clear hA187 a183
     refine wl_nil ?_
     refine then_n ?_
     refine c_ret ?_
     refine then_ret ?_
     refine fin_run hA190 (.inl rfl) (run_results2 hA190 rfl (.cellA rfl ty_46 (hS188.bk 4 rfl) (l := [(Value.int .i64 0), (Value.int .i64 0)]) rfl rfl) (.tmp rfl)) ?_
     obtain rfl : k = 4001 := by omega
     rw [shiftsR, if_pos hc, if_pos (by assumption), if_pos (by assumption), if_pos (by assumption)]; exact ⟨rfl, hS188.ext⟩
    ·skip
     rw [hb180] at hA179
     have hq191 := hb180; simp only [Bool.and_eq_true, Bool.and_eq_false_iff, decide_eq_true_eq, decide_eq_false_iff_not] at hq191
     refine c_false hA179 rfl ?_
     refine c_skip ?_
     refine then_n ?_
     refine c_seq ?_
     have hA192 := hA179.as [(9, (bptr b87 0)), (4, (bptr b9 0))] rfl; clear hA179
     refine c_region ?_
     refine st hA192 (op_loadA rfl ty_46 (hA192.ev rfl) (hS99.bk 0 rfl) (l := [(Value.int .i64 ((shUpto d lab k).1)), (Value.int .i64 ((shUpto d lab k).2))]) rfl rfl) rfl rfl (by decide) fun a193 hA194 => ?_; clear hA192 a178
     refine sts hA194 (op_store hS99 rfl ty_46 (hA194.ev rfl) (hA194.ev rfl) (i := 4) rfl (vs := [(Value.int .i64 ((shUpto d lab k).1)), (Value.int .i64 ((shUpto d lab k).2))]) rfl rfl rfl (Nat.le_of_ble_eq_true rfl)) rfl rfl ?_
     intro _ w195 hS196 hA197; clear hA194
     have hS198 : Sep NoB w w195 [(blk b87 46 [(Value.int .i64 ((shUpto d lab k).1)), (Value.int .i64 ((shUpto d lab k).2))]), (blk b58 85 (bools (off0.set lab.toNat true))), (blk bj20 107 [vl, vs, (Value.int .i64 d.spread), vb, (Value.map (some bm21))]), (memo bm21 (KR d)), (blk b9 46 [(Value.int .i64 ((shUpto d lab k).1)), (Value.int .i64 ((shUpto d lab k).2))]), (blk b4 34 [vl, vs, (Value.int .i64 d.spread), vb]), (sl vl 2 d.lots.length (pairs d.lots)), (sl vs 1 d.samples.length (ints d.samples)), (sl vb 2 d.tols.length (vpairs (d.tols.zip lv))), (rdsR lv d.rds)] := hS196; clear hS196 hS99
     refine st hA197 (op_assign rfl (evc _ _)) rfl rfl (by decide) fun a199 hA200 => ?_; clear hA197 a193
     refine wl_nil ?_
     refine then_n ?_
     refine c_ret ?_
     refine fin_run hA200 (.inl rfl) (run_results2 hA200 rfl (.cellA rfl ty_46 (hS198.bk 4 rfl) (l := [(Value.int .i64 ((shUpto d lab k).1)), (Value.int .i64 ((shUpto d lab k).2))]) rfl rfl) (.tmp rfl)) ?_
     obtain rfl : k = 4001 := by omega
     rw [shiftsR, if_pos hc, if_pos (by assumption), if_pos (by assumption), if_neg (by simp [*])]; exact ⟨rfl, hS198.ext⟩
  ·skip
   rw [hb80] at hA79
   refine c_true hA79 rfl ?_
   refine c_seq ?_
   have hA201 := hA79.as [(4, (bptr b9 0))] rfl; clear hA79
   refine c_region ?_
   refine st hA201 (op_build rfl pv0 bd_46_) rfl rfl (by decide) fun a202 hA203 => ?_; clear hA201 a78
   refine sts hA203 (op_store hS77 rfl ty_46 (hA203.ev rfl) (hA203.ev rfl) (i := 3) rfl (vs := [(Value.int .i64 0), (Value.int .i64 0)]) rfl rfl rfl (Nat.le_of_ble_eq_true rfl)) rfl rfl ?_
   intro _ w204 hS205 hA206; clear hA203
   have hS207 : Sep NoB w w204 [(blk b58 85 (bools (off0.set lab.toNat true))), (blk bj20 107 [vl, vs, (Value.int .i64 d.spread), vb, (Value.map (some bm21))]), (memo bm21 (KR d)), (blk b9 46 [(Value.int .i64 0), (Value.int .i64 0)]), (blk b4 34 [vl, vs, (Value.int .i64 d.spread), vb]), (sl vl 2 d.lots.length (pairs d.lots)), (sl vs 1 d.samples.length (ints d.samples)), (sl vb 2 d.tols.length (vpairs (d.tols.zip lv))), (rdsR lv d.rds)] := hS205; clear hS205 hS77
   refine st hA206 (op_assign rfl (evc _ _)) rfl rfl (by decide) fun a208 hA209 => ?_; clear hA206 a202
   refine wl_nil ?_
   refine then_n ?_
   refine c_ret ?_
   refine then_ret ?_
   refine fin_run hA209 (.inl rfl) (run_results2 hA209 rfl (.cellA rfl ty_46 (hS207.bk 3 rfl) (l := [(Value.int .i64 0), (Value.int .i64 0)]) rfl rfl) (.tmp rfl)) ?_
   rw [shiftsR, if_pos hc, if_pos (by assumption), if_neg (by simp [*])]; exact ⟨rfl, hS207.ext⟩
 ·skip
  rw [hb52] at hA51
  have hq210 := hb52; simp only [Bool.and_eq_true, Bool.and_eq_false_iff, decide_eq_true_eq, decide_eq_false_iff_not] at hq210
  refine c_true hA51 rfl ?_
  refine c_seq ?_
  have hA211 := hA51.as [(4, (bptr b9 0))] rfl; clear hA51
  refine c_region ?_
  refine st hA211 (op_build rfl pv0 bd_46_) rfl rfl (by decide) fun a212 hA213 => ?_; clear hA211 a50
  refine sts hA213 (op_store hS19 rfl ty_46 (hA213.ev rfl) (hA213.ev rfl) (i := 2) rfl (vs := [(Value.int .i64 0), (Value.int .i64 0)]) rfl rfl rfl (Nat.le_of_ble_eq_true rfl)) rfl rfl ?_
  intro _ w214 hS215 hA216; clear hA213
  have hS217 : Sep NoB w w214 [(blk bj20 107 [vl, vs, (Value.int .i64 d.spread), vb, (Value.map (some bm21))]), (memo bm21 (KR d)), (blk b9 46 [(Value.int .i64 0), (Value.int .i64 0)]), (blk b4 34 [vl, vs, (Value.int .i64 d.spread), vb]), (sl vl 2 d.lots.length (pairs d.lots)), (sl vs 1 d.samples.length (ints d.samples)), (sl vb 2 d.tols.length (vpairs (d.tols.zip lv))), (rdsR lv d.rds)] := hS215; clear hS215 hS19
  refine st hA216 (op_assign rfl (evc _ _)) rfl rfl (by decide) fun a218 hA219 => ?_; clear hA216 a212
  refine wl_nil ?_
  refine then_n ?_
  refine c_ret ?_
  refine then_ret ?_
  refine fin_run hA219 (.inl rfl) (run_results2 hA219 rfl (.cellA rfl ty_46 (hS217.bk 2 rfl) (l := [(Value.int .i64 0), (Value.int .i64 0)]) rfl rfl) (.tmp rfl)) ?_
  rw [shiftsR, if_pos hc, if_neg (by simp [*])]; exact ⟨rfl, hS217.ext⟩

theorem shifts_bad (vl vs vb : Value) (lv : List Value) (d : RD) (w : World) (hR : RoundAt w vl vs vb lv d) (lab : Int) (hc : checkR d ≠ 0) :
  Calls Try.prog 32 #[(Value.agg #[vl, vs, (Value.int .i64 d.spread), vb]), (Value.int .i64 lab)] w (Ret fun v w' => v = .tuple #[.agg #[.int .i64 (shiftsR d lab).1.1, .int .i64 (shiftsR d lab).1.2], .int .i64 (shiftsR d lab).2] ∧ Ext NoB w w') := by
 refine calls_enter Try.func32 rfl fun a0 hA0 => ?_
 replace hA0 : Fr 64 [] [(0, (Value.agg #[vl, vs, (Value.int .i64 d.spread), vb])), (1, (Value.int .i64 lab))] a0 := hA0
 have hS0 : Sep NoB w w [(sl vl 2 d.lots.length (pairs d.lots)), (sl vs 1 d.samples.length (ints d.samples)), (sl vb 2 d.tols.length (vpairs (d.tols.zip lv))), (rdsR lv d.rds)] := sep_ro ⟨rfl, hR.lots, rfl, hR.samples, rfl, hR.labs, rfl, hR.rds, trivial⟩
 refine c_seq ?_
 refine c_region ?_
 refine stw hA0 (op_box hS0 rfl (hA0.ev rfl) (cs := [vl, vs, (Value.int .i64 d.spread), vb]) rfl) rfl rfl (by decide) ?_
 rintro a1 _ w3 ⟨b4, rfl, hS5⟩ hA2; clear hA0 hS0 a0
 refine stw hA2 (op_alloc hS5 rfl ze_46 (cs := [(Value.int .i64 0), (Value.int .i64 0)]) rfl) rfl rfl (by decide) ?_
 rintro a6 _ w8 ⟨b9, rfl, hS10⟩ hA7; clear hA2 hS5 a1
 refine st hA7 (op_assign rfl (evc _ _)) rfl rfl (by decide) fun a11 hA12 => ?_; clear hA7 a6
 refine wl_nil ?_
 refine then_n ?_
 refine c_seq ?_
 refine c_region ?_
 refine st hA12 (op_loadA rfl ty_34 (hA12.ev rfl) (hS10.bk 1 rfl) (l := [vl, vs, (Value.int .i64 d.spread), vb]) rfl rfl) rfl rfl (by decide) fun a13 hA14 => ?_; clear hA12 a11
 refine stw hA14 (op_call rfl en_57 (ev1 (hA14.ev rfl)) (judge_bad vl vs vb lv d _ (hR.step hS10.ext) hc)) rfl rfl (by decide) ?_
 rintro a15 _ w17 ⟨rfl, hE18⟩ hA16; have hS19 := hS10.step hE18; clear hE18 hA14 hS10 a13
 refine st hA16 (op_move rfl (hA16.ev rfl)) rfl rfl (by decide) fun a20 hA21 => ?_; clear hA16 a15
 refine st hA21 (op_extract rfl (hA21.ev rfl) rfl) rfl rfl (by decide) fun a22 hA23 => ?_; clear hA21 a20
 refine st hA23 (op_extract rfl (hA23.ev rfl) rfl) rfl rfl (by decide) fun a24 hA25 => ?_; clear hA23 a22
 refine st hA25 (op_assign rfl (hA25.ev rfl)) rfl rfl (by decide) fun a26 hA27 => ?_; clear hA25 a24
 refine st hA27 (op_assign rfl (hA27.ev rfl)) rfl rfl (by decide) fun a28 hA29 => ?_; clear hA27 a26
 refine wl_nil ?_
 refine then_n ?_
 refine c_seq ?_
 refine c_seq ?_
 have hA30 := hA29.as [(7, (Value.int .i64 (checkR d))), (6, (Value.pointer none)), (4, (bptr b9 0)), (2, (bptr b4 0)), (1, (Value.int .i64 lab))] rfl; clear hA29
 refine c_region ?_
 refine st hA30 (op_move rfl (hA30.ev rfl)) rfl rfl (by decide) fun a31 hA32 => ?_; clear hA30 a28
 refine st hA32 (op_neq rfl (hA32.ev rfl) (evc _ _)) rfl rfl (by decide) fun a33 hA34 => ?_; clear hA32 a31
 have hd35 : ¬ ((checkR d) = 0) := hc
 rw [decide_eq_false hd35] at hA34
 refine wl_nil ?_
 refine then_n ?_
 refine c_true hA34 rfl ?_
 refine c_seq ?_
 refine c_region ?_
 refine st hA34 (op_build rfl pv0 bd_46_) rfl rfl (by decide) fun a36 hA37 => ?_; clear hA34 a33
 refine st hA37 (op_move rfl (hA37.ev rfl)) rfl rfl (by decide) fun a38 hA39 => ?_; clear hA37 a36
 refine sts hA39 (op_store hS19 rfl ty_46 (hA39.ev rfl) (hA39.ev rfl) (i := 0) rfl (vs := [(Value.int .i64 0), (Value.int .i64 0)]) rfl rfl rfl (Nat.le_of_ble_eq_true rfl)) rfl rfl ?_
 intro _ w40 hS41 hA42; clear hA39
 have hS43 : Sep NoB w w40 [(blk b9 46 [(Value.int .i64 0), (Value.int .i64 0)]), (blk b4 34 [vl, vs, (Value.int .i64 d.spread), vb]), (sl vl 2 d.lots.length (pairs d.lots)), (sl vs 1 d.samples.length (ints d.samples)), (sl vb 2 d.tols.length (vpairs (d.tols.zip lv))), (rdsR lv d.rds)] := hS41; clear hS41 hS19
 refine st hA42 (op_assign rfl (hA42.ev rfl)) rfl rfl (by decide) fun a44 hA45 => ?_; clear hA42 a38
 refine wl_nil ?_
 refine then_n ?_
 refine c_ret ?_
 refine then_ret ?_
 refine fin_run hA45 (.inl rfl) (run_results2 hA45 rfl (.cellA rfl ty_46 (hS43.bk 0 rfl) (l := [(Value.int .i64 0), (Value.int .i64 0)]) rfl rfl) (.tmp rfl)) ?_
 rw [shiftsR, if_neg hc]; exact ⟨rfl, hS43.ext⟩

theorem shifts_fn (vl vs vb : Value) (lv : List Value) (d : RD) (w : World) (hR : RoundAt w vl vs vb lv d) (lab : Int) :
  Calls Try.prog 32 #[(Value.agg #[vl, vs, (Value.int .i64 d.spread), vb]), .int .i64 lab] w (Ret fun v w' => v = .tuple #[.agg #[.int .i64 (shiftsR d lab).1.1, .int .i64 (shiftsR d lab).1.2], .int .i64 (shiftsR d lab).2] ∧ Ext NoB w w') := by
 by_cases hc : checkR d = 0
 ·exact shifts_good vl vs vb lv d w hR lab hc
 ·exact shifts_bad vl vs vb lv d w hR lab hc

end Go.Proofs.Ytfhmigoddaaljaa
