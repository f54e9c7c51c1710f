/-
  What the exported functions compute.
  What is computed of plans and lives.
-/
import Derived.Test.YtkkglkdnnfegkaaBa
import Derived.Test.YtkkglkdnnfegkaaEnga
set_option linter.unusedSimpArgs false
set_option linter.unusedVariables false
namespace Go.Proofs.Ytkkglkdnnfegkaa
open Go.RowKit Go.Shelf Go.Eng
theorem ty_97 : tyK Try.prog 97 = some (false, 1) := by kernel_rfl
theorem fd_119_0 : fldK Try.prog 119 0 = some 0 := by kernel_rfl
theorem ze_104 : (Try.prog.info? 104).bind (·.zero) = some (Value.agg #[(Value.int .i64 0), (Value.int .i64 0), (Value.int .i64 0)]) := by kernel_rfl
theorem en_68 : ∀ args w, (callFunc 68 args).run Try.prog w = .ok (.enter 68 args) w := enters_of Try.func68 (by kernel_rfl) rfl
theorem every_ok (bj : Nat) (w : World) :
  Calls Try.prog 54 #[(bptr bj 0)] w (Ret fun v w' => ∃ bx, v = .func (.func 78) #[] #[bptr bx 0] ∧ Sep NoB w w' [blk bx 97 [bptr bj 0]]) := by
 refine calls_enter Try.func54 rfl fun a0 hA0 => ?_
 replace hA0 : Fr 4 [] [(0, (bptr bj 0))] a0 := hA0
 have hS0 : Sep NoB w w [] := Sep.start _ _
 refine c_seq ?_
 refine c_region ?_
 refine stw hA0 (op_box hS0 rfl (hA0.ev rfl) (cs := [(bptr bj 0)]) rfl) rfl rfl (by decide) ?_
 rintro a1 _ w3 ⟨b4, rfl, hS5⟩ hA2; clear hA0 hS0 a0
 refine st hA2 (op_assign rfl (evc _ _)) rfl rfl (by decide) fun a6 hA7 => ?_; clear hA2 a1
 refine wl_nil ?_
 refine then_n ?_
 refine c_seq ?_
 refine c_region ?_
 refine st hA7 (op_makeFunc rfl ev0 (ev1 (hA7.ev rfl))) rfl rfl (by decide) fun a8 hA9 => ?_; clear hA7 a6
 refine st hA9 (op_assign rfl (hA9.ev rfl)) rfl rfl (by decide) fun a10 hA11 => ?_; clear hA9 a8
 refine wl_nil ?_
 refine then_n ?_
 refine c_ret ?_
 refine fin_run hA11 (.inl rfl) (run_results1 hA11 rfl (.tmp rfl)) ?_
 exact ⟨_, rfl, hS5⟩
theorem every_it (bx bj bm : Nat) (R : List (Int × Int)) (rs : List RunD) (lv : List Value) (vr vu : Value) (n : Nat) (hn : n ≤ 3) (hR : MatV R) (hV : RunsV n rs) (hl : lv.length = rs.length) :
  IterG Try.prog 78 #[bptr bx 0] (memo bm (KA rs)) [(rob bx 97 [(bptr bj 0)]), (rob bj 119 [vr, vu, (Value.map (some bm))]), (sl vr 2 R.length (pairs R)), (sl vu 3 rs.length (vtrips (runV lv rs))), (segsR false lv rs)] (allowedF R rs).length (fun k => #[.agg (ints ((allowedF R rs).getD k [])).toArray]) := by
 intro l J Jx W hJ hJx hD hDx h0 hy
 refine calls_enterM Try.func78 rfl fun a0 hA0 => ?_
 replace hA0 : Fr 19 (marks []) [(0, (Value.func (.yield l) #[] #[])), (1, (bptr bx 0))] a0 := hA0
 have hS0 : Sep (memo bm (KA rs)).S W W [(marksR []), (memo bm (KA rs)), (rob bx 97 [(bptr bj 0)]), (rob bj 119 [vr, vu, (Value.map (some bm))]), (sl vr 2 R.length (pairs R)), (sl vu 3 rs.length (vtrips (runV lv rs))), (segsR false lv rs)] := sep_marks (hD _ _ _ h0).2
 refine c_seq ?_
 refine c_region ?_
 refine stw hA0 (op_box hS0 rfl (hA0.ev rfl) (cs := [(Value.func (.yield l) #[] #[])]) rfl) rfl rfl (by decide) ?_
 rintro a1 _ w3 ⟨b4, rfl, hS5⟩ hA2; clear hA0 hS0 a0
 refine wl_nil ?_
 refine then_n ?_
 refine c_seq ?_
 refine c_region ?_
 refine st hA2 (op_load1 rfl ty_97 (hA2.ev rfl) (hS5.rk 3 rfl) rfl) rfl rfl (by decide) fun a6 hA7 => ?_; clear hA2 a1
 refine st hA7 (op_nilCheck rfl (hA7.ev rfl)) rfl rfl (by decide) fun a8 hA9 => ?_; clear hA7 a6
 refine st hA9 (op_field rfl fd_119_0 (hA9.ev rfl)) rfl rfl (by decide) fun a10 hA11 => ?_; clear hA9 a8
 refine st hA11 (op_loadA rfl ty_33 (hA11.ev rfl) (hS5.rk 4 rfl) (l := [vr]) rfl rfl) rfl rfl (by decide) fun a12 hA13 => ?_; clear hA11 a10
 refine stw hA13 (op_call rfl en_65 (ev1 (hA13.ev rfl)) (lists_ok _ _)) rfl rfl (by decide) ?_
 rintro a14 _ w16 ⟨bl19, rfl, hT17⟩ hA15; have hS18 := hS5.callS hT17 rfl; clear hT17 hA13 hS5 a12
 refine wl_nil ?_
 refine then_n ?_
 refine c_block ?_
 have hA20 := hA15.as [(8, (Value.func (.func 87) #[] #[(bptr bl19 0)])), (2, (bptr b4 0)), (1, (bptr bx 0))] rfl; clear hA15
 have hS21 := hS18.nilR; clear hS18
 have hS22 : Sep (memo bm (KA rs)).S W w16 [(marksR []), nilR, (blk b4 115 [(Value.func (.yield l) #[] #[])]), (blk bl19 33 [vr]), (memo bm (KA rs)), (rob bx 97 [(bptr bj 0)]), (rob bj 119 [vr, vu, (Value.map (some bm))]), (sl vr 2 R.length (pairs R)), (sl vu 3 rs.length (vtrips (runV lv rs))), (segsR false lv rs)] := hS21.keep [3, 0, 2, 1, 4, 5, 6, 7, 8, 9] (by decide) _ rfl rfl; clear hS21
 have hj23 := hJ _ _ _ _ _ h0 (Sep.pack (A := [(marksR []), nilR, (blk b4 115 [(Value.func (.yield l) #[] #[])]), (blk bl19 33 [vr]), (memo bm (KA rs))]) (L := [(rob bx 97 [(bptr bj 0)]), (rob bj 119 [vr, vu, (Value.map (some bm))]), (sl vr 2 R.length (pairs R)), (sl vu 3 rs.length (vtrips (runV lv rs))), (segsR false lv rs)]) hS22 (own_c rfl (own_c rfl (own_c rfl (own_c rfl (own_c rfl own_n)))))).one rfl
 refine c_rangeJ hJ hJx hD hDx hA20 nilR rfl [(blk b4 115 [(Value.func (.yield l) #[] #[])]), (blk bl19 33 [vr]), (memo bm (KA rs))] 0 hj23 (hA20.ev rfl) en_87 (listsF R).length (fun q => #[.agg (ints ((listsF R).getD q [])).toArray]) (fun _ => rfl) [rob bl19 33 [vr], sl vr 2 R.length (pairs R)] (fun r hr => by simp only [List.mem_cons, List.not_mem_nil, or_false] at hr; rcases hr with rfl | rfl <;> rfl) (lists_it bl19 vr R hR _ rfl) (fun q c_ L_ => c_ = (fUpto (allowB rs) (listsF R) q).length ∧ L_ = [(blk b4 115 [(Value.func (.yield l) #[] #[])]), (blk bl19 33 [vr]), (memo bm (KA rs))]) (fun _ L_ => L_ = [(blk b4 115 [(Value.func (.yield l) #[] #[])]), (blk bl19 33 [vr]), (memo bm (KA rs))]) (fun q c_ L_ hI_ => by obtain ⟨rfl, rfl⟩ := hI_; exact (own_c rfl (own_c rfl (own_c rfl own_n)))) (fun c_ L_ hI_ => by subst hI_; exact (own_c rfl (own_c rfl (own_c rfl own_n)))) (some .ret) ⟨rfl, rfl⟩ (fun q c_ L_ hI_ X_ W_ G_ r1_ r2_ hS_ => by obtain ⟨rfl, rfl⟩ := hI_; exact Sep.keep (hS_.to_ro (i := 4) rfl) [2, 4, 8] (by decide) _ rfl rfl) (fun c_ L_ hI_ X_ W_ G_ r1_ r2_ hS_ => by subst hI_; exact Sep.keep (hS_.to_ro (i := 4) rfl) [2, 4, 8] (by decide) _ rfl rfl) ?_ ?_ ?_
 ·skip
  intro q hq c_ L_ hI_ G31 hG32 l28 D29 rc30 a24 w25 ha27 hj33; obtain ⟨rfl, rfl⟩ := hI_
  have hA26 : Fr 19 [] [(9, (Value.agg (ints ((listsF R).getD q [])).toArray)), (8, (Value.func (.func 87) #[] #[(bptr bl19 0)])), (2, (bptr b4 0)), (1, (bptr bx 0))] a24 := by rw [ha27]; exact Fr.round1 hA20 (by decide)
  clear ha27 hS22 hj23
  have hS34 : Sep (allR [(obR l28 (.loop (rc30 .ready none))), (marksR (D29 :: [])), G31, (blk b4 115 [(Value.func (.yield l) #[] #[])]), (blk bl19 33 [vr]), (memo bm (KA rs))]).S w25 w25 [(obR l28 (.loop (rc30 .ready none))), (marksR (D29 :: [])), G31, (blk b4 115 [(Value.func (.yield l) #[] #[])]), (blk bl19 33 [vr]), (memo bm (KA rs)), (rob bx 97 [(bptr bj 0)]), (rob bj 119 [vr, vu, (Value.map (some bm))]), (sl vr 2 R.length (pairs R)), (sl vu 3 rs.length (vtrips (runV lv rs))), (segsR false lv rs)] := jU hD hj33
  refine c_region ?_
  refine stw hA26 (op_alloc hS34 rfl ze_104 (cs := [(Value.int .i64 0), (Value.int .i64 0), (Value.int .i64 0)]) rfl) rfl rfl (by decide) ?_
  rintro a35 _ w37 ⟨b38, rfl, hS39⟩ hA36; clear hA26 hS34 a24
  refine sts hA36 (op_store hS39 rfl ty_104 (hA36.ev rfl) (hA36.ev rfl) (i := 0) rfl (vs := (ints ((listsF R).getD q []))) rfl (lists_len3 hR hq).symm (ints_one _) (by decide)) rfl rfl ?_
  intro _ w40 hS41 hA43; have hS42 := hS41.blk_say (i := 0) rfl (cs' := (ints ((listsF R).getD q []))) (setFrom_all _ _ (Eq.symm (lists_len3 hR hq).symm)); clear hS41 hA36 hS39
  refine wl_nil ?_
  have hS44 : Sep (allR [(obR l28 (.loop (rc30 .ready none))), (marksR (D29 :: [])), G31, (blk b4 115 [(Value.func (.yield l) #[] #[])]), (blk bl19 33 [vr]), (memo bm (KA rs))]).S w25 w40 [(obR l28 (.loop (rc30 .ready none))), (marksR (D29 :: [])), G31, (blk b4 115 [(Value.func (.yield l) #[] #[])]), (blk bl19 33 [vr]), (memo bm (KA rs)), (blk b38 104 (ints ((listsF R).getD q []))), (rob bx 97 [(bptr bj 0)]), (rob bj 119 [vr, vu, (Value.map (some bm))]), (sl vr 2 R.length (pairs R)), (sl vu 3 rs.length (vtrips (runV lv rs))), (segsR false lv rs)] := hS42.keep [1, 2, 3, 4, 5, 6, 0, 7, 8, 9, 10, 11] (by decide) _ rfl rfl; clear hS42
  have hj45 := hJ _ _ _ _ _ hj33 (Sep.pack (A := [(obR l28 (.loop (rc30 .ready none))), (marksR (D29 :: [])), G31, (blk b4 115 [(Value.func (.yield l) #[] #[])]), (blk bl19 33 [vr]), (memo bm (KA rs)), (blk b38 104 (ints ((listsF R).getD q [])))]) (L := [(rob bx 97 [(bptr bj 0)]), (rob bj 119 [vr, vu, (Value.map (some bm))]), (sl vr 2 R.length (pairs R)), (sl vu 3 rs.length (vtrips (runV lv rs))), (segsR false lv rs)]) hS44 (own_c rfl (own_c rfl (own_c hG32 (own_c rfl (own_c rfl (own_c rfl (own_c rfl own_n)))))))).one rfl
  refine ⟨rfl, [G31, (blk b4 115 [(Value.func (.yield l) #[] #[])]), (blk bl19 33 [vr]), (memo bm (KA rs)), (blk b38 104 (ints ((listsF R).getD q [])))], (own_c hG32 (own_c rfl (own_c rfl (own_c rfl (own_c rfl own_n))))), hj45, ?_⟩; intro w46 hj47; clear hS44
  have hS48 : Sep (allR [(obR l28 (.loop (rc30 .busy none))), (marksR (D29 :: [])), G31, (blk b4 115 [(Value.func (.yield l) #[] #[])]), (blk bl19 33 [vr]), (memo bm (KA rs)), (blk b38 104 (ints ((listsF R).getD q [])))]).S w46 w46 [(obR l28 (.loop (rc30 .busy none))), (marksR (D29 :: [])), G31, (blk b4 115 [(Value.func (.yield l) #[] #[])]), (blk bl19 33 [vr]), (memo bm (KA rs)), (blk b38 104 (ints ((listsF R).getD q []))), (rob bx 97 [(bptr bj 0)]), (rob bj 119 [vr, vu, (Value.map (some bm))]), (sl vr 2 R.length (pairs R)), (sl vu 3 rs.length (vtrips (runV lv rs))), (segsR false lv rs)] := jU hD hj47
  refine c_block ?_
  refine c_seq ?_
  refine c_region ?_
  refine st hA43 (op_load1 rfl ty_97 (hA43.ev rfl) (hS48.rk 7 rfl) rfl) rfl rfl (by decide) fun a49 hA50 => ?_; clear hA43 a35
  refine st hA50 (op_loadA rfl ty_104 (hA50.ev rfl) (hS48.bk 6 rfl) (l := (ints ((listsF R).getD q []))) (drop_take_all _ _ (lists_len3 hR hq).symm) (lists_len3 hR hq).symm) rfl rfl (by decide) fun a51 hA52 => ?_; clear hA50 a49
  refine stw hA52 (op_call rfl en_68 (ev2 (hA52.ev rfl) (hA52.ev rfl)) (allowed_ok _ bm ((listsF R).getD q []) R rs lv vr vu n _ hn (lists_rates hR hq) hV hl (hS48.lendM (i := 5) rfl [8, 9, 10, 11] ⟨rfl, by decide, hS48.rk 8 rfl, ⟨_, rfl, fun _ hz => hz⟩, rfl, by decide, hS48.sk 9 rfl, ⟨_, rfl, fun _ hz => hz⟩, rfl, by decide, hS48.sk 10 rfl, ⟨_, rfl, fun _ hz => hz⟩, rfl, by decide, hS48.ok 11 _ rfl, ⟨_, rfl, fun _ hz => hz⟩, trivial⟩))) rfl rfl (by decide) ?_
  rintro a53 _ w55 ⟨rfl, hE56, hM57⟩ hA54; have hS58 := hS48.updM (i := 5) rfl hE56 hM57; clear hE56 hM57 hA52 hS48 a51
  refine st hA54 (op_move rfl (hA54.ev rfl)) rfl rfl (by decide) fun a59 hA60 => ?_; clear hA54 a53
  rcases Bool.eq_false_or_eq_true ((allowB rs ((listsF R).getD q []))) with hb61 | hb61
  ·skip
   rw [hb61] at hA60
   refine stg hA60 (op_load1 rfl ty_115 (hA60.ev rfl) (hS58.bk 3 rfl) rfl) rfl rfl rfl rfl (by decide) fun a62 hA63 => ?_; clear hA60 a59
   refine stg hA63 (op_loadA rfl ty_104 (hA63.ev rfl) (hS58.bk 6 rfl) (l := (ints ((listsF R).getD q []))) (drop_take_all _ _ (lists_len3 hR hq).symm) (lists_len3 hR hq).symm) rfl rfl rfl rfl (by decide) fun a64 hA65 => ?_; clear hA63 a62
   have hj66 := hJ _ _ _ _ _ hj47 (Sep.pack (A := [(obR l28 (.loop (rc30 .busy none))), (marksR (D29 :: [])), G31, (blk b4 115 [(Value.func (.yield l) #[] #[])]), (blk bl19 33 [vr]), (memo bm (KA rs)), (blk b38 104 (ints ((listsF R).getD q [])))]) (L := [(rob bx 97 [(bptr bj 0)]), (rob bj 119 [vr, vu, (Value.map (some bm))]), (sl vr 2 R.length (pairs R)), (sl vu 3 rs.length (vtrips (runV lv rs))), (segsR false lv rs)]) hS58 (own_c rfl (own_c rfl (own_c hG32 (own_c rfl (own_c rfl (own_c rfl (own_c rfl own_n)))))))).one rfl
   have hy67 := fUpto_yes (l := listsF R) hq [] (p := allowB rs) (by assumption)
   refine stwg hA65 (op_yield rfl (hA65.ev rfl) (ev1 (hA65.ev rfl)) (by have hz := hy _ hy67.1 _ _ hj66; dsimp only at hz; rw [show (allowedF R rs).getD _ [] = _ from hy67.2.1] at hz; exact hz)) rfl rfl rfl rfl (by decide) ?_
   rintro a68 v72 w70 hv71 hA69; clear hA65 hS58 a64
   rcases hv71 with ⟨rfl, hj73⟩ | ⟨rfl, hj73⟩
   ·skip
    have hS74 : Sep (allR [(obR l28 (.loop (rc30 .busy none))), (marksR (D29 :: [])), G31, (blk b4 115 [(Value.func (.yield l) #[] #[])]), (blk bl19 33 [vr]), (memo bm (KA rs)), (blk b38 104 (ints ((listsF R).getD q [])))]).S w70 w70 [(obR l28 (.loop (rc30 .busy none))), (marksR (D29 :: [])), G31, (blk b4 115 [(Value.func (.yield l) #[] #[])]), (blk bl19 33 [vr]), (memo bm (KA rs)), (blk b38 104 (ints ((listsF R).getD q []))), (rob bx 97 [(bptr bj 0)]), (rob bj 119 [vr, vu, (Value.map (some bm))]), (sl vr 2 R.length (pairs R)), (sl vu 3 rs.length (vtrips (runV lv rs))), (segsR false lv rs)] := jU hD hj73
    refine stg hA69 (op_not rfl (hA69.ev rfl)) rfl rfl rfl rfl (by decide) fun a75 hA76 => ?_; clear hA69 a68
    refine st hA76 (op_pick_t rfl (hA76.ev rfl) (hA76.ev rfl)) rfl rfl (by decide) fun a77 hA78 => ?_; clear hA76 a75
    refine wl_nil ?_
    refine then_n ?_
    refine c_false hA78 rfl ?_
    refine c_skip ?_
    refine blk_n ?_
    have hS79 : Sep (allR [(obR l28 (.loop (rc30 .busy none))), (marksR (D29 :: [])), G31, (blk b4 115 [(Value.func (.yield l) #[] #[])]), (blk bl19 33 [vr]), (memo bm (KA rs)), (blk b38 104 (ints ((listsF R).getD q [])))]).S w70 w70 [(obR l28 (.loop (rc30 .busy none))), (marksR (D29 :: [])), G31, (blk b4 115 [(Value.func (.yield l) #[] #[])]), (blk bl19 33 [vr]), (memo bm (KA rs)), (rob bx 97 [(bptr bj 0)]), (rob bj 119 [vr, vu, (Value.map (some bm))]), (sl vr 2 R.length (pairs R)), (sl vu 3 rs.length (vtrips (runV lv rs))), (segsR false lv rs)] := hS74.keep [0, 1, 2, 3, 4, 5, 7, 8, 9, 10, 11] (by decide) _ rfl rfl; clear hS74
    have hj80 := hJ _ _ _ _ _ hj73 (Sep.pack (A := [(obR l28 (.loop (rc30 .busy none))), (marksR (D29 :: [])), G31, (blk b4 115 [(Value.func (.yield l) #[] #[])]), (blk bl19 33 [vr]), (memo bm (KA rs))]) (L := [(rob bx 97 [(bptr bj 0)]), (rob bj 119 [vr, vu, (Value.map (some bm))]), (sl vr 2 R.length (pairs R)), (sl vu 3 rs.length (vtrips (runV lv rs))), (segsR false lv rs)]) hS79 (own_c rfl (own_c rfl (own_c hG32 (own_c rfl (own_c rfl (own_c rfl own_n))))))).one rfl
    exact rj_n ⟨hy67.2.2.symm, rfl⟩ hj80
   ·skip
    have hS81 : Sep (allR [(obR l28 (.loop (rc30 .busy none))), (marksR (D29 :: [])), G31, (blk b4 115 [(Value.func (.yield l) #[] #[])]), (blk bl19 33 [vr]), (memo bm (KA rs)), (blk b38 104 (ints ((listsF R).getD q [])))]).S w70 w70 [(obR l28 (.loop (rc30 .busy none))), (marksR (D29 :: [])), G31, (blk b4 115 [(Value.func (.yield l) #[] #[])]), (blk bl19 33 [vr]), (memo bm (KA rs)), (blk b38 104 (ints ((listsF R).getD q []))), (rob bx 97 [(bptr bj 0)]), (rob bj 119 [vr, vu, (Value.map (some bm))]), (sl vr 2 R.length (pairs R)), (sl vu 3 rs.length (vtrips (runV lv rs))), (segsR false lv rs)] := jU hDx hj73
    refine stg hA69 (op_not rfl (hA69.ev rfl)) rfl rfl rfl rfl (by decide) fun a82 hA83 => ?_; clear hA69 a68
    refine st hA83 (op_pick_t rfl (hA83.ev rfl) (hA83.ev rfl)) rfl rfl (by decide) fun a84 hA85 => ?_; clear hA83 a82
    refine wl_nil ?_
    refine then_n ?_
    refine c_true hA85 rfl ?_
    refine c_ret ?_
    refine blk_ret ?_
    have hS86 : Sep (allR [(obR l28 (.loop (rc30 .busy none))), (marksR (D29 :: [])), G31, (blk b4 115 [(Value.func (.yield l) #[] #[])]), (blk bl19 33 [vr]), (memo bm (KA rs)), (blk b38 104 (ints ((listsF R).getD q [])))]).S w70 w70 [(obR l28 (.loop (rc30 .busy none))), (marksR (D29 :: [])), G31, (blk b4 115 [(Value.func (.yield l) #[] #[])]), (blk bl19 33 [vr]), (memo bm (KA rs)), (rob bx 97 [(bptr bj 0)]), (rob bj 119 [vr, vu, (Value.map (some bm))]), (sl vr 2 R.length (pairs R)), (sl vu 3 rs.length (vtrips (runV lv rs))), (segsR false lv rs)] := hS81.keep [0, 1, 2, 3, 4, 5, 7, 8, 9, 10, 11] (by decide) _ rfl rfl; clear hS81
    have hj87 := hJx _ _ _ _ _ hj73 (Sep.pack (A := [(obR l28 (.loop (rc30 .busy none))), (marksR (D29 :: [])), G31, (blk b4 115 [(Value.func (.yield l) #[] #[])]), (blk bl19 33 [vr]), (memo bm (KA rs))]) (L := [(rob bx 97 [(bptr bj 0)]), (rob bj 119 [vr, vu, (Value.map (some bm))]), (sl vr 2 R.length (pairs R)), (sl vu 3 rs.length (vtrips (runV lv rs))), (segsR false lv rs)]) hS86 (own_c rfl (own_c rfl (own_c hG32 (own_c rfl (own_c rfl (own_c rfl own_n))))))).one rfl
    exact rj_ret rfl rfl hj87
  ·skip
   rw [hb61] at hA60
   refine skp hA60 rfl rfl rfl rfl rfl (by decide) fun a88 hA89 => ?_; clear hA60 a59
   refine skp hA89 rfl rfl rfl rfl rfl (by decide) fun a90 hA91 => ?_; clear hA89 a88
   refine skp hA91 rfl rfl rfl rfl rfl (by decide) fun a92 hA93 => ?_; clear hA91 a90
   refine skp hA93 rfl rfl rfl rfl rfl (by decide) fun a94 hA95 => ?_; clear hA93 a92
   refine st hA95 (op_pick_f rfl (hA95.ev rfl) (evc _ _)) rfl rfl (by decide) fun a96 hA97 => ?_; clear hA95 a94
   refine wl_nil ?_
   refine then_n ?_
   refine c_false hA97 rfl ?_
   refine c_skip ?_
   refine blk_n ?_
   have hS98 : Sep (allR [(obR l28 (.loop (rc30 .busy none))), (marksR (D29 :: [])), G31, (blk b4 115 [(Value.func (.yield l) #[] #[])]), (blk bl19 33 [vr]), (memo bm (KA rs)), (blk b38 104 (ints ((listsF R).getD q [])))]).S w46 w55 [(obR l28 (.loop (rc30 .busy none))), (marksR (D29 :: [])), G31, (blk b4 115 [(Value.func (.yield l) #[] #[])]), (blk bl19 33 [vr]), (memo bm (KA rs)), (rob bx 97 [(bptr bj 0)]), (rob bj 119 [vr, vu, (Value.map (some bm))]), (sl vr 2 R.length (pairs R)), (sl vu 3 rs.length (vtrips (runV lv rs))), (segsR false lv rs)] := hS58.keep [0, 1, 2, 3, 4, 5, 7, 8, 9, 10, 11] (by decide) _ rfl rfl; clear hS58
   have hj99 := hJ _ _ _ _ _ hj47 (Sep.pack (A := [(obR l28 (.loop (rc30 .busy none))), (marksR (D29 :: [])), G31, (blk b4 115 [(Value.func (.yield l) #[] #[])]), (blk bl19 33 [vr]), (memo bm (KA rs))]) (L := [(rob bx 97 [(bptr bj 0)]), (rob bj 119 [vr, vu, (Value.map (some bm))]), (sl vr 2 R.length (pairs R)), (sl vu 3 rs.length (vtrips (runV lv rs))), (segsR false lv rs)]) hS98 (own_c rfl (own_c rfl (own_c hG32 (own_c rfl (own_c rfl (own_c rfl own_n))))))).one rfl
   exact rj_n ⟨(by rw [fUpto_no (l := listsF R) hq [] (by assumption)]), rfl⟩ hj99
 ·skip
  intro c_ L_ hI_ D103 a100 w101 hA102 hj104; obtain ⟨rfl, rfl⟩ := hI_; clear hA20 hS22 hj23
  have hS105 : Sep (allR [(marksR (D103 :: [])), nilR, (blk b4 115 [(Value.func (.yield l) #[] #[])]), (blk bl19 33 [vr]), (memo bm (KA rs))]).S w101 w101 [(marksR (D103 :: [])), nilR, (blk b4 115 [(Value.func (.yield l) #[] #[])]), (blk bl19 33 [vr]), (memo bm (KA rs)), (rob bx 97 [(bptr bj 0)]), (rob bj 119 [vr, vu, (Value.map (some bm))]), (sl vr 2 R.length (pairs R)), (sl vu 3 rs.length (vtrips (runV lv rs))), (segsR false lv rs)] := jU hD hj104
  refine blk_n ?_
  refine fin_runM hA102 (.inr rfl) hS105 ?_
  intro w106 hS107; clear hS105
  refine ⟨_, (run_results0 rfl _), ?_⟩
  exact .inl (by rw [show (allowedF R rs).length = (fUpto (allowB rs) (listsF R) (listsF R).length).length by rw [fUpto_all]; rfl]; exact hJ _ _ _ _ _ hj104 (Sep.keep hS107 [3] (by decide) _ rfl rfl) rfl)
 ·skip
  intro c_ hc_; cases hc_
  intro c_ L_ hI_ D111 a108 w109 hA110 hj112; subst hI_; clear hA20 hS22 hj23
  have hS113 : Sep (allR [(marksR (D111 :: [])), nilR, (blk b4 115 [(Value.func (.yield l) #[] #[])]), (blk bl19 33 [vr]), (memo bm (KA rs))]).S w109 w109 [(marksR (D111 :: [])), nilR, (blk b4 115 [(Value.func (.yield l) #[] #[])]), (blk bl19 33 [vr]), (memo bm (KA rs)), (rob bx 97 [(bptr bj 0)]), (rob bj 119 [vr, vu, (Value.map (some bm))]), (sl vr 2 R.length (pairs R)), (sl vu 3 rs.length (vtrips (runV lv rs))), (segsR false lv rs)] := jU hDx hj112
  refine c_ret ?_
  refine blk_ret ?_
  refine fin_runM hA110 (.inl rfl) hS113 ?_
  intro w114 hS115; clear hS113
  refine ⟨_, (run_results0 rfl _), ?_⟩
  exact .inr ⟨_, hJx _ _ _ _ _ hj112 (Sep.keep hS115 [3] (by decide) _ rfl rfl) rfl⟩
end Go.Proofs.Ytkkglkdnnfegkaa

namespace Go.Proofs.Ytkkglkdnnfegkaa
open Go.RowKit Go.Shelf Go.Eng
theorem en_37 : ∀ args w, (callFunc 37 args).run Try.prog w = .ok (.enter 37 args) w := enters_of Try.func37 (by kernel_rfl) rfl
theorem en_90 : ∀ args w, (callFunc 90 args).run Try.prog w = .ok (.enter 90 args) w := enters_of Try.func90 (by kernel_rfl) rfl
theorem en_89 : ∀ args w, (callFunc 89 args).run Try.prog w = .ok (.enter 89 args) w := enters_of Try.func89 (by kernel_rfl) rfl
theorem en_91 : ∀ args w, (callFunc 91 args).run Try.prog w = .ok (.enter 91 args) w := enters_of Try.func91 (by kernel_rfl) rfl
theorem bd_119_0va_1s_2m (x0_0 : Value) (x1_0 : Value) (hx1_0 : IsSl x1_0) (x2_0 : Option Nat) (w : World) : (Instr.build 119 #[(0, .agg #[x0_0]), (1, x1_0), (2, (.map x2_0))]).run Try.prog w = .ok (.agg #[x0_0, x1_0, (.map x2_0)]) w := by obtain ⟨Ax1_0, Bx1_0, Cx1_0, rfl⟩ := hx1_0; kernel_rfl
theorem enter_any (R : List (Int × Int)) (rs : List RunD) (lv : List Value) (vr vu : Value) (w : World) (hm : SlAt w vr 2 R.length (pairs R)) (hx : RunsAt w vu lv rs) (hlen : R.length ≤ 1000000) (hrl : rs.length ≤ 1000000) :
  Calls Try.prog 66 #[(Value.agg #[vr]), vu] w (Ret fun v w' => (enterF R rs ≠ 0 ∧ v = .tuple #[.pointer none, .int .i64 (enterF R rs)] ∧ Ext NoB w w') ∨ (enterF R rs = 0 ∧ ∃ bj bm, v = .tuple #[bptr bj 0, .int .i64 0] ∧ Sep NoB w w' [blk bj 119 [vr, vu, .map (some bm)], memo bm (KA rs)])) := by
 refine calls_enter Try.func66 rfl fun a0 hA0 => ?_
 replace hA0 : Fr 32 [] [(0, (Value.agg #[vr])), (1, vu)] a0 := hA0
 have hS0 : Sep NoB w w [(sl vr 2 R.length (pairs R)), (sl vu 3 rs.length (vtrips (runV lv rs))), (segsR false lv rs)] := sep_ro ⟨rfl, hm, rfl, hx.runs, rfl, ⟨hx.len, hx.segs⟩, trivial⟩
 refine c_seq ?_
 refine c_region ?_
 refine stw hA0 (op_box hS0 rfl (hA0.ev rfl) (cs := [vr]) rfl) rfl rfl (by decide) ?_
 rintro a1 _ w3 ⟨b4, rfl, hS5⟩ hA2; clear hA0 hS0 a0
 refine st hA2 (op_assign rfl (evc _ _)) rfl rfl (by decide) fun a6 hA7 => ?_; clear hA2 a1
 refine st hA7 (op_assign rfl (evc _ _)) rfl rfl (by decide) fun a8 hA9 => ?_; clear hA7 a6
 refine wl_nil ?_
 refine then_n ?_
 refine c_seq ?_
 refine c_seq ?_
 refine c_region ?_
 refine st hA9 (op_loadA rfl ty_33 (hA9.ev rfl) (hS5.bk 0 rfl) (l := [vr]) rfl rfl) rfl rfl (by decide) fun a10 hA11 => ?_; clear hA9 a8
 refine stw hA11 (op_call rfl en_37 (ev1 (hA11.ev rfl)) (check_ok R vr _ (hS5.sk 1 rfl) (by omega))) rfl rfl (by decide) ?_
 rintro a12 _ w14 ⟨rfl, hE15⟩ hA13; have hS16 := hS5.step hE15; clear hE15 hA11 hS5 a10
 refine st hA13 (op_assign rfl (hA13.ev rfl)) rfl rfl (by decide) fun a17 hA18 => ?_; clear hA13 a12
 refine wl_nil ?_
 refine then_n ?_
 refine c_seq ?_
 refine c_region ?_
 refine st hA18 (op_move rfl (hA18.ev rfl)) rfl rfl (by decide) fun a19 hA20 => ?_; clear hA18 a17
 refine st hA20 (op_neq rfl (hA20.ev rfl) (evc _ _)) rfl rfl (by decide) fun a21 hA22 => ?_; clear hA20 a19
 refine wl_nil ?_
 refine then_n ?_
 by_cases hb23 : (checkF R) = 0
 ·skip
  rw [decide_eq_true hb23] at hA22
  refine c_false hA22 rfl ?_
  refine c_skip ?_
  refine then_n ?_
  refine c_seq ?_
  refine c_block ?_
  refine c_seq ?_
  have hA24 := hA22.as [(2, (bptr b4 0)), (1, vu)] rfl; clear hA22
  refine c_region ?_
  refine st hA24 (op_move rfl (hA24.ev rfl)) rfl rfl (by decide) fun a25 hA26 => ?_; clear hA24 a21
  refine st hA26 (op_lenS rfl un_35 (hA26.ev rfl) (hS16.sk 2 rfl)) rfl rfl (by decide) fun a27 hA28 => ?_; clear hA26 a25
  refine st hA28 (op_gtr rfl (hA28.ev rfl) (evc _ _)) rfl rfl (by decide) fun a29 hA30 => ?_; clear hA28 a27
  refine st hA30 (op_move rfl (hA30.ev rfl)) rfl rfl (by decide) fun a31 hA32 => ?_; clear hA30 a29
  by_cases hb33 : 6 < (rs.length : Int)
  ·skip
   rw [decide_eq_true hb33] at hA32
   refine skp hA32 rfl rfl rfl rfl rfl (by decide) fun a34 hA35 => ?_; clear hA32 a31
   refine skp hA35 rfl rfl rfl rfl rfl (by decide) fun a36 hA37 => ?_; clear hA35 a34
   refine skp hA37 rfl rfl rfl rfl rfl (by decide) fun a38 hA39 => ?_; clear hA37 a36
   refine st hA39 (op_pick_t rfl (hA39.ev rfl) (evc _ _)) rfl rfl (by decide) fun a40 hA41 => ?_; clear hA39 a38
   refine st hA41 (op_assign rfl (hA41.ev rfl)) rfl rfl (by decide) fun a42 hA43 => ?_; clear hA41 a40
   refine wl_nil ?_
   refine then_n ?_
   refine c_true hA43 rfl ?_
   refine c_seq ?_
   have hA44 := hA43.as [] rfl; clear hA43
   refine c_region ?_
   refine st hA44 (op_assign rfl (evc _ _)) rfl rfl (by decide) fun a45 hA46 => ?_; clear hA44 a42
   refine st hA46 (op_assign rfl (evc _ _)) rfl rfl (by decide) fun a47 hA48 => ?_; clear hA46 a45
   refine wl_nil ?_
   refine then_n ?_
   refine c_ret ?_
   refine blk_ret ?_
   refine then_ret ?_
   refine fin_run hA48 (.inl rfl) (run_results2 hA48 rfl (.tmp rfl) (.tmp rfl)) ?_
   have hz := (show enterF R rs = 3 from by first | exact enter_3a (by assumption) (by omega) | exact enter_3b (by assumption) (by assumption))
   exact .inl ⟨(by rw [hz]; decide), by rw [hz], hS16.ext⟩
  ·skip
   rw [decide_eq_false hb33] at hA32
   refine stg hA32 (op_move rfl (hA32.ev rfl)) rfl rfl rfl rfl (by decide) fun a49 hA50 => ?_; clear hA32 a31
   refine stwg hA50 (op_call rfl en_89 (ev2 (hA50.ev rfl) (evf _ _)) (callsB (all_run rs lv hx.len _ 90 #[] #[] (fun i => decide (((rs.getD i run0).segs.length : Int) ≤ 8)) _ (hS16.sk 2 rfl) (by omega) ⟨en_90, fun i hi W hW => short_ok (rs.getD i run0) (lv.getD i nilS) W ((hx.step (hS16.ext.trans hW)).segs i hi)⟩ (fun i hi => SlAt.one (hx.segs i hi))) (shortB rs) rfl)) rfl rfl rfl rfl (by decide) ?_
   rintro a51 _ w53 ⟨rfl, hE54⟩ hA52; have hS55 := hS16.step hE54; clear hE54 hA50 hS16 a49
   refine stg hA52 (op_not rfl (hA52.ev rfl)) rfl rfl rfl rfl (by decide) fun a56 hA57 => ?_; clear hA52 a51
   refine st hA57 (op_pick_f rfl (hA57.ev rfl) (hA57.ev rfl)) rfl rfl (by decide) fun a58 hA59 => ?_; clear hA57 a56
   refine st hA59 (op_assign rfl (hA59.ev rfl)) rfl rfl (by decide) fun a60 hA61 => ?_; clear hA59 a58
   refine wl_nil ?_
   refine then_n ?_
   rcases Bool.eq_false_or_eq_true ((shortB rs)) with hb62 | hb62
   ·skip
    rw [hb62] at hA61
    have hshort : shortB rs = true := by assumption
    refine c_false hA61 rfl ?_
    refine c_seq ?_
    have hA63 := hA61.as [(2, (bptr b4 0)), (1, vu)] rfl; clear hA61
    refine c_region ?_
    refine st hA63 (op_move rfl (hA63.ev rfl)) rfl rfl (by decide) fun a64 hA65 => ?_; clear hA63 a60
    refine st hA65 (op_loadA rfl ty_33 (hA65.ev rfl) (hS55.bk 0 rfl) (l := [vr]) rfl rfl) rfl rfl (by decide) fun a66 hA67 => ?_; clear hA65 a64
    refine st hA67 (op_makeFunc rfl (ev1 (hA67.ev rfl)) ev0) rfl rfl (by decide) fun a68 hA69 => ?_; clear hA67 a66
    refine stw hA69 (op_call rfl en_89 (ev2 (hA69.ev rfl) (hA69.ev rfl)) (callsB (all_run rs lv hx.len _ 91 #[(Value.agg #[vr])] #[] (fun i => runB R.length (rs.getD i run0)) _ (hS55.sk 2 rfl) (by omega) ⟨en_91, fun i hi W hW => run_ok R vr (rs.getD i run0) (lv.getD i nilS) W (hm.step (hS55.ext.trans hW)) ((hx.step (hS55.ext.trans hW)).segs i hi) (by omega) (by have := short_at hshort hi; omega)⟩ (fun i hi => SlAt.one (hx.segs i hi))) (allRunB R rs) rfl)) rfl rfl (by decide) ?_
    rintro a70 _ w72 ⟨rfl, hE73⟩ hA71; have hS74 := hS55.step hE73; clear hE73 hA69 hS55 a68
    refine st hA71 (op_not rfl (hA71.ev rfl)) rfl rfl (by decide) fun a75 hA76 => ?_; clear hA71 a70
    refine st hA76 (op_assign rfl (hA76.ev rfl)) rfl rfl (by decide) fun a77 hA78 => ?_; clear hA76 a75
    refine wl_nil ?_
    refine then_n ?_
    rcases Bool.eq_false_or_eq_true ((allRunB R rs)) with hb79 | hb79
    ·skip
     rw [hb79] at hA78
     refine c_false hA78 rfl ?_
     refine c_skip ?_
     refine blk_n ?_
     refine then_n ?_
     refine c_seq ?_
     have hA80 := hA78.as [(2, (bptr b4 0)), (1, vu)] rfl; clear hA78
     refine c_region ?_
     refine st hA80 (op_loadA rfl ty_33 (hA80.ev rfl) (hS74.bk 0 rfl) (l := [vr]) rfl rfl) rfl rfl (by decide) fun a81 hA82 => ?_; clear hA80 a77
     refine st hA82 (op_move rfl (hA82.ev rfl)) rfl rfl (by decide) fun a83 hA84 => ?_; clear hA82 a81
     refine stw hA84 (op_makeMap hS74 (KA rs) rfl) rfl rfl (by decide) ?_
     rintro a85 _ w87 ⟨bm88, rfl, hS89⟩ hA86; clear hA84 hS74 a83
     refine st hA86 (op_build rfl (pv3 (hA86.ev rfl) (hA86.ev rfl) (hA86.ev rfl)) (bd_119_0va_1s_2m _ _ (SlAt.isSl (hS89.sk 3 rfl)) _)) rfl rfl (by decide) fun a90 hA91 => ?_; clear hA86 a85
     refine stw hA91 (op_box hS89 rfl (hA91.ev rfl) (cs := [vr, vu, (Value.map (some bm88))]) rfl) rfl rfl (by decide) ?_
     rintro a92 _ w94 ⟨b95, rfl, hS96⟩ hA93; clear hA91 hS89 a90
     refine st hA93 (op_assign rfl (hA93.ev rfl)) rfl rfl (by decide) fun a97 hA98 => ?_; clear hA93 a92
     refine st hA98 (op_assign rfl (evc _ _)) rfl rfl (by decide) fun a99 hA100 => ?_; clear hA98 a97
     refine wl_nil ?_
     refine then_n ?_
     refine c_ret ?_
     refine fin_run hA100 (.inl rfl) (run_results2 hA100 rfl (.tmp rfl) (.tmp rfl)) ?_
     exact .inr ⟨enter_0 (by assumption) (by omega) (by assumption) (by assumption), _, _, rfl, hS96.keep [0, 1] (by decide) _ rfl rfl⟩
    ·skip
     rw [hb79] at hA78
     refine c_true hA78 rfl ?_
     refine c_seq ?_
     have hA101 := hA78.as [] rfl; clear hA78
     refine c_region ?_
     refine st hA101 (op_assign rfl (evc _ _)) rfl rfl (by decide) fun a102 hA103 => ?_; clear hA101 a77
     refine st hA103 (op_assign rfl (evc _ _)) rfl rfl (by decide) fun a104 hA105 => ?_; clear hA103 a102
     refine wl_nil ?_
     refine then_n ?_
     refine c_ret ?_
     refine blk_ret ?_
     refine then_ret ?_
     refine fin_run hA105 (.inl rfl) (run_results2 hA105 rfl (.tmp rfl) (.tmp rfl)) ?_
     have hz := (enter_1 (R := R) (rs := rs) (by assumption) (by omega) (by assumption) (by assumption))
     exact .inl ⟨(by rw [hz]; decide), by rw [hz], hS74.ext⟩
   ·skip
    rw [hb62] at hA61
    refine c_true hA61 rfl ?_
    refine c_seq ?_
    have hA106 := hA61.as [] rfl; clear hA61
    refine c_region ?_
    refine st hA106 (op_assign rfl (evc _ _)) rfl rfl (by decide) fun a107 hA108 => ?_; clear hA106 a60
    refine st hA108 (op_assign rfl (evc _ _)) rfl rfl (by decide) fun a109 hA110 => ?_; clear hA108 a107
    refine wl_nil ?_
    refine then_n ?_
    refine c_ret ?_
    refine blk_ret ?_
    refine then_ret ?_
    refine fin_run hA110 (.inl rfl) (run_results2 hA110 rfl (.tmp rfl) (.tmp rfl)) ?_
    have hz := (show enterF R rs = 3 from by first | exact enter_3a (by assumption) (by omega) | exact enter_3b (by assumption) (by assumption))
    exact .inl ⟨(by rw [hz]; decide), by rw [hz], hS55.ext⟩
 ·skip
  rw [decide_eq_false hb23] at hA22
  refine c_true hA22 rfl ?_
  refine c_seq ?_
  have hA111 := hA22.as [(6, (Value.int .i64 (checkF R)))] rfl; clear hA22
  refine c_region ?_
  refine st hA111 (op_move rfl (hA111.ev rfl)) rfl rfl (by decide) fun a112 hA113 => ?_; clear hA111 a21
  refine st hA113 (op_assign rfl (evc _ _)) rfl rfl (by decide) fun a114 hA115 => ?_; clear hA113 a112
  refine st hA115 (op_assign rfl (hA115.ev rfl)) rfl rfl (by decide) fun a116 hA117 => ?_; clear hA115 a114
  refine wl_nil ?_
  refine then_n ?_
  refine c_ret ?_
  refine then_ret ?_
  refine fin_run hA117 (.inl rfl) (run_results2 hA117 rfl (.tmp rfl) (.tmp rfl)) ?_
  have hz := (enter_c (R := R) (rs := rs) (by assumption))
  exact .inl ⟨(by rw [hz]; assumption), by rw [hz], hS16.ext⟩
theorem enter_bad (R : List (Int × Int)) (rs : List RunD) (lv : List Value) (vr vu : Value) (w : World) (hm : SlAt w vr 2 R.length (pairs R)) (hx : RunsAt w vu lv rs) (hlen : R.length ≤ 1000000) (hrl : rs.length ≤ 1000000) (he : enterF R rs ≠ 0) : Calls Try.prog 66 #[.agg #[vr], vu] w (Ret fun v w' => v = .tuple #[.pointer none, .int .i64 (enterF R rs)] ∧ Ext NoB w w') :=
 (enter_any R rs lv vr vu w hm hx hlen hrl).mono (Ret.mono fun v w' h => by
  rcases h with ⟨_, h⟩ | ⟨h, _⟩
  ·exact h
  ·exact absurd h he)
theorem enter_ok (R : List (Int × Int)) (rs : List RunD) (lv : List Value) (vr vu : Value) (w : World) (hm : SlAt w vr 2 R.length (pairs R)) (hx : RunsAt w vu lv rs) (hlen : R.length ≤ 1000000) (hrl : rs.length ≤ 1000000) (he : enterF R rs = 0) : Calls Try.prog 66 #[.agg #[vr], vu] w (Ret fun v w' => ∃ bj bm, v = .tuple #[bptr bj 0, .int .i64 0] ∧ Sep NoB w w' [blk bj 119 [vr, vu, .map (some bm)], memo bm (KA rs)]) :=
 (enter_any R rs lv vr vu w hm hx hlen hrl).mono (Ret.mono fun v w' h => by
  rcases h with ⟨h, _⟩ | ⟨_, h⟩
  ·exact absurd he h
  ·exact h)
end Go.Proofs.Ytkkglkdnnfegkaa

namespace Go.Proofs.Ytkkglkdnnfegkaa
open Go.RowKit Go.Shelf Go.Eng
theorem ze_97 : (Try.prog.info? 97).bind (·.zero) = some (Value.pointer none) := by kernel_rfl
theorem en_66 : ∀ args w, (callFunc 66 args).run Try.prog w = .ok (.enter 66 args) w := enters_of Try.func66 (by kernel_rfl) rfl
theorem en_54 : ∀ args w, (callFunc 54 args).run Try.prog w = .ok (.enter 54 args) w := enters_of Try.func54 (by kernel_rfl) rfl
theorem en_78 : ∀ args w, (callFunc 78 args).run Try.prog w = .ok (.enter 78 args) w := enters_of Try.func78 (by kernel_rfl) rfl
theorem poss_e_ok (R : List (Int × Int)) (rs : List RunD) (lv : List Value) (vr vu : Value) (w : World) (hm : SlAt w vr 2 R.length (pairs R)) (hx : RunsAt w vu lv rs) (hlen : R.length ≤ 1000000) (hrl : rs.length ≤ 1000000) (he : enterF R rs ≠ 0) :
  Calls Try.prog 53 #[(Value.agg #[vr]), vu] w (Ret fun v w' => v = .tuple #[.pointer none, .int .i64 (enterF R rs)] ∧ Ext NoB w w') := by
 refine calls_enterM Try.func53 rfl fun a0 hA0 => ?_
 replace hA0 : Fr 21 (marks []) [(0, (Value.agg #[vr])), (1, vu)] a0 := hA0
 have hS0 : Sep NoB w w [(marksR []), (sl vr 2 R.length (pairs R)), (sl vu 3 rs.length (vtrips (runV lv rs))), (segsR false lv rs)] := sep_marks (sep_ro ⟨rfl, hm, rfl, hx.runs, rfl, ⟨hx.len, hx.segs⟩, trivial⟩)
 refine c_seq ?_
 refine c_region ?_
 refine stw hA0 (op_box hS0 rfl (hA0.ev rfl) (cs := [vr]) rfl) rfl rfl (by decide) ?_
 rintro a1 _ w3 ⟨b4, rfl, hS5⟩ hA2; clear hA0 hS0 a0
 refine stw hA2 (op_alloc hS5 rfl ze_97 (cs := [(Value.pointer none)]) rfl) rfl rfl (by decide) ?_
 rintro a6 _ w8 ⟨b9, rfl, hS10⟩ hA7; clear hA2 hS5 a1
 refine stw hA7 (op_alloc hS10 rfl ze_29 (cs := [(Value.int .i64 0)]) rfl) rfl rfl (by decide) ?_
 rintro a11 _ w13 ⟨b14, rfl, hS15⟩ hA12; clear hA7 hS10 a6
 refine wl_nil ?_
 refine then_n ?_
 refine c_seq ?_
 refine c_region ?_
 refine st hA12 (op_loadA rfl ty_33 (hA12.ev rfl) (hS15.bk 2 rfl) (l := [vr]) rfl rfl) rfl rfl (by decide) fun a16 hA17 => ?_; clear hA12 a11
 refine st hA17 (op_move rfl (hA17.ev rfl)) rfl rfl (by decide) fun a18 hA19 => ?_; clear hA17 a16
 refine stw hA19 (op_call rfl en_66 (ev2 (hA19.ev rfl) (hA19.ev rfl)) (enter_bad R rs lv vr vu _ (hm.step hS15.ext) (hx.step hS15.ext) (by omega) (by omega) he)) rfl rfl (by decide) ?_
 rintro a20 _ w22 ⟨rfl, hE23⟩ hA21; have hS24 := hS15.step hE23; clear hE23 hA19 hS15 a18
 refine st hA21 (op_move rfl (hA21.ev rfl)) rfl rfl (by decide) fun a25 hA26 => ?_; clear hA21 a20
 refine st hA26 (op_extract rfl (hA26.ev rfl) rfl) rfl rfl (by decide) fun a27 hA28 => ?_; clear hA26 a25
 refine st hA28 (op_extract rfl (hA28.ev rfl) rfl) rfl rfl (by decide) fun a29 hA30 => ?_; clear hA28 a27
 refine stw hA30 (op_alloc hS24 rfl ze_97 (cs := [(Value.pointer none)]) rfl) rfl rfl (by decide) ?_
 rintro a31 _ w33 ⟨b34, rfl, hS35⟩ hA32; clear hA30 hS24 a29
 refine sts hA32 (op_store hS35 rfl ty_97 (hA32.ev rfl) (hA32.ev rfl) (i := 0) rfl (vs := [(Value.pointer none)]) rfl rfl (all_c rfl all_n) (Nat.le_of_ble_eq_true rfl)) rfl rfl ?_
 intro _ w36 hS37 hA38; clear hA32
 have hS39 : Sep NoB w w36 [(blk b34 97 [(Value.pointer none)]), (blk b14 29 [(Value.int .i64 0)]), (blk b9 97 [(Value.pointer none)]), (blk b4 33 [vr]), (marksR []), (sl vr 2 R.length (pairs R)), (sl vu 3 rs.length (vtrips (runV lv rs))), (segsR false lv rs)] := hS37; clear hS37 hS35
 refine st hA38 (op_assign rfl (hA38.ev rfl)) rfl rfl (by decide) fun a40 hA41 => ?_; clear hA38 a31
 refine wl_nil ?_
 refine then_n ?_
 refine c_seq ?_
 refine c_seq ?_
 have hA42 := hA41.as [(7, (Value.int .i64 (enterF R rs))), (6, (bptr b34 0)), (5, (bptr b14 0)), (4, (bptr b9 0))] rfl; clear hA41
 refine c_region ?_
 refine st hA42 (op_move rfl (hA42.ev rfl)) rfl rfl (by decide) fun a43 hA44 => ?_; clear hA42 a40
 refine st hA44 (op_neq rfl (hA44.ev rfl) (evc _ _)) rfl rfl (by decide) fun a45 hA46 => ?_; clear hA44 a43
 have hd47 : ¬ ((enterF R rs) = 0) := he
 rw [decide_eq_false hd47] at hA46
 refine wl_nil ?_
 refine then_n ?_
 refine c_true hA46 rfl ?_
 refine c_seq ?_
 refine c_region ?_
 refine st hA46 (op_move rfl (hA46.ev rfl)) rfl rfl (by decide) fun a48 hA49 => ?_; clear hA46 a45
 refine sts hA49 (op_store hS39 rfl ty_97 (hA49.ev rfl) (evc _ _) (i := 2) rfl (vs := [(Value.pointer none)]) rfl rfl (all_c rfl all_n) (Nat.le_of_ble_eq_true rfl)) rfl rfl ?_
 intro _ w50 hS51 hA52; clear hA49
 have hS53 : Sep NoB w w50 [(blk b34 97 [(Value.pointer none)]), (blk b14 29 [(Value.int .i64 0)]), (blk b9 97 [(Value.pointer none)]), (blk b4 33 [vr]), (marksR []), (sl vr 2 R.length (pairs R)), (sl vu 3 rs.length (vtrips (runV lv rs))), (segsR false lv rs)] := hS51; clear hS51 hS39
 refine sts hA52 (op_store hS53 rfl ty_29 (hA52.ev rfl) (hA52.ev rfl) (i := 1) rfl (vs := [(Value.int .i64 (enterF R rs))]) rfl rfl rfl (Nat.le_of_ble_eq_true rfl)) rfl rfl ?_
 intro _ w54 hS55 hA56; clear hA52
 have hS57 : Sep NoB w w54 [(blk b34 97 [(Value.pointer none)]), (blk b14 29 [(Value.int .i64 (enterF R rs))]), (blk b9 97 [(Value.pointer none)]), (blk b4 33 [vr]), (marksR []), (sl vr 2 R.length (pairs R)), (sl vu 3 rs.length (vtrips (runV lv rs))), (segsR false lv rs)] := hS55; clear hS55 hS53
 refine wl_nil ?_
 refine then_n ?_
 refine c_ret ?_
 refine then_ret ?_
 have hS58 : Sep NoB w w54 [(marksR []), (blk b34 97 [(Value.pointer none)]), (blk b14 29 [(Value.int .i64 (enterF R rs))]), (blk b9 97 [(Value.pointer none)]), (blk b4 33 [vr]), (sl vr 2 R.length (pairs R)), (sl vu 3 rs.length (vtrips (runV lv rs))), (segsR false lv rs)] := hS57.keep [4, 0, 1, 2, 3, 5, 6, 7] (by decide) _ rfl rfl; clear hS57
 refine fin_runM hA56 (.inl rfl) hS58 ?_
 intro w59 hS60; clear hS58
 refine ⟨_, (run_results2 hA56 rfl (.cell1 rfl ty_97 (hS60.bk 2 rfl) rfl) (.cell1 rfl ty_29 (hS60.bk 1 rfl) rfl)), ?_⟩
 exact ⟨rfl, hS60.ext⟩
theorem poss_any (R : List (Int × Int)) (rs : List RunD) (lv : List Value) (vr vu : Value) (w : World) (hm : SlAt w vr 2 R.length (pairs R)) (hx : RunsAt w vu lv rs) (hlen : R.length ≤ 1000000) (hrl : rs.length ≤ 1000000) (he : enterF R rs = 0) :
  Calls Try.prog 53 #[(Value.agg #[vr]), vu] w (Ret fun v w' => (possF R rs = 9 ∧ v = .tuple #[.pointer none, .int .i64 9] ∧ Ext NoB w w') ∨ (possF R rs = 0 ∧ ∃ bj bm, v = .tuple #[bptr bj 0, .int .i64 0] ∧ Sep NoB w w' [blk bj 119 [vr, vu, .map (some bm)], memo bm (KA rs)])) := by
 refine calls_enterM Try.func53 rfl fun a0 hA0 => ?_
 replace hA0 : Fr 21 (marks []) [(0, (Value.agg #[vr])), (1, vu)] a0 := hA0
 have hR := (check_mat (enter_mat he)).1
 have hV := enter_runs he
 have hS0 : Sep NoB w w [(marksR []), (sl vr 2 R.length (pairs R)), (sl vu 3 rs.length (vtrips (runV lv rs))), (segsR false lv rs)] := sep_marks (sep_ro ⟨rfl, hm, rfl, hx.runs, rfl, ⟨hx.len, hx.segs⟩, trivial⟩)
 refine c_seq ?_
 refine c_region ?_
 refine stw hA0 (op_box hS0 rfl (hA0.ev rfl) (cs := [vr]) rfl) rfl rfl (by decide) ?_
 rintro a1 _ w3 ⟨b4, rfl, hS5⟩ hA2; clear hA0 hS0 a0
 refine stw hA2 (op_alloc hS5 rfl ze_97 (cs := [(Value.pointer none)]) rfl) rfl rfl (by decide) ?_
 rintro a6 _ w8 ⟨b9, rfl, hS10⟩ hA7; clear hA2 hS5 a1
 refine stw hA7 (op_alloc hS10 rfl ze_29 (cs := [(Value.int .i64 0)]) rfl) rfl rfl (by decide) ?_
 rintro a11 _ w13 ⟨b14, rfl, hS15⟩ hA12; clear hA7 hS10 a6
 refine wl_nil ?_
 refine then_n ?_
 refine c_seq ?_
 refine c_region ?_
 refine st hA12 (op_loadA rfl ty_33 (hA12.ev rfl) (hS15.bk 2 rfl) (l := [vr]) rfl rfl) rfl rfl (by decide) fun a16 hA17 => ?_; clear hA12 a11
 refine st hA17 (op_move rfl (hA17.ev rfl)) rfl rfl (by decide) fun a18 hA19 => ?_; clear hA17 a16
 refine stw hA19 (op_call rfl en_66 (ev2 (hA19.ev rfl) (hA19.ev rfl)) (enter_ok R rs lv vr vu _ (hm.step hS15.ext) (hx.step hS15.ext) (by omega) (by omega) he)) rfl rfl (by decide) ?_
 rintro a20 _ w22 ⟨bj25, bm26, rfl, hT23⟩ hA21; have hS24 := hS15.callS hT23 rfl; clear hT23 hA19 hS15 a18
 refine st hA21 (op_move rfl (hA21.ev rfl)) rfl rfl (by decide) fun a27 hA28 => ?_; clear hA21 a20
 refine st hA28 (op_extract rfl (hA28.ev rfl) rfl) rfl rfl (by decide) fun a29 hA30 => ?_; clear hA28 a27
 refine st hA30 (op_extract rfl (hA30.ev rfl) rfl) rfl rfl (by decide) fun a31 hA32 => ?_; clear hA30 a29
 refine stw hA32 (op_alloc hS24 rfl ze_97 (cs := [(Value.pointer none)]) rfl) rfl rfl (by decide) ?_
 rintro a33 _ w35 ⟨b36, rfl, hS37⟩ hA34; clear hA32 hS24 a31
 refine sts hA34 (op_store hS37 rfl ty_97 (hA34.ev rfl) (hA34.ev rfl) (i := 0) rfl (vs := [(bptr bj25 0)]) rfl rfl rfl (Nat.le_of_ble_eq_true rfl)) rfl rfl ?_
 intro _ w38 hS39 hA40; clear hA34
 have hS41 : Sep NoB w w38 [(blk b36 97 [(bptr bj25 0)]), (blk bj25 119 [vr, vu, (Value.map (some bm26))]), (memo bm26 (KA rs)), (blk b14 29 [(Value.int .i64 0)]), (blk b9 97 [(Value.pointer none)]), (blk b4 33 [vr]), (marksR []), (sl vr 2 R.length (pairs R)), (sl vu 3 rs.length (vtrips (runV lv rs))), (segsR false lv rs)] := hS39; clear hS39 hS37
 refine st hA40 (op_assign rfl (hA40.ev rfl)) rfl rfl (by decide) fun a42 hA43 => ?_; clear hA40 a33
 refine wl_nil ?_
 refine then_n ?_
 refine c_seq ?_
 refine c_seq ?_
 have hA44 := hA43.as [(7, (Value.int .i64 0)), (6, (bptr b36 0)), (5, (bptr b14 0)), (4, (bptr b9 0))] rfl; clear hA43
 refine c_region ?_
 refine st hA44 (op_move rfl (hA44.ev rfl)) rfl rfl (by decide) fun a45 hA46 => ?_; clear hA44 a42
 refine st hA46 (op_neq rfl (hA46.ev rfl) (evc _ _)) rfl rfl (by decide) fun a47 hA48 => ?_; clear hA46 a45
 refine wl_nil ?_
 refine then_n ?_
 refine c_false hA48 rfl ?_
 refine c_skip ?_
 refine then_n ?_
 refine c_seq ?_
 refine c_seq ?_
 refine c_region ?_
 refine st hA48 (op_load1 rfl ty_97 (hA48.ev rfl) (hS41.bk 0 rfl) rfl) rfl rfl (by decide) fun a49 hA50 => ?_; clear hA48 a47
 refine stw hA50 (op_call rfl en_54 (ev1 (hA50.ev rfl)) (every_ok _ _)) rfl rfl (by decide) ?_
 rintro a51 _ w53 ⟨bx56, rfl, hT54⟩ hA52; have hS55 := hS41.callS hT54 rfl; clear hT54 hA50 hS41 a49
 refine wl_nil ?_
 refine then_n ?_
 refine c_block ?_
 have hA57 := hA52.as [(18, (Value.func (.func 78) #[] #[(bptr bx56 0)])), (6, (bptr b36 0)), (5, (bptr b14 0)), (4, (bptr b9 0))] rfl; clear hA52
 have hS58 : Sep NoB w w53 [(marksR []), (memo bm26 (KA rs)), (blk bx56 97 [(bptr bj25 0)]), (blk b36 97 [(bptr bj25 0)]), (blk bj25 119 [vr, vu, (Value.map (some bm26))]), (blk b14 29 [(Value.int .i64 0)]), (blk b9 97 [(Value.pointer none)]), (blk b4 33 [vr]), (sl vr 2 R.length (pairs R)), (sl vu 3 rs.length (vtrips (runV lv rs))), (segsR false lv rs)] := hS55.keep [7, 3, 0, 1, 2, 4, 5, 6, 8, 9, 10] (by decide) _ rfl rfl; clear hS55
 refine c_rangeG hA57 (memo bm26 (KA rs)) rfl hS58 (hA57.ev rfl) en_78 ((allowedF R rs).length) (fun k => #[.agg (ints ((allowedF R rs).getD k [])).toArray]) (fun _ => rfl) [rob bx56 97 [bptr bj25 0], rob bj25 119 [vr, vu, .map (some bm26)], sl vr 2 R.length (pairs R), sl vu 3 rs.length (vtrips (runV lv rs)), segsR false lv rs] (fun r hr => by simp only [List.mem_cons, List.not_mem_nil, or_false] at hr; rcases hr with rfl | rfl | rfl | rfl | rfl <;> rfl) (every_it bx56 bj25 bm26 R rs lv vr vu R.length hR.1 hR hV hx.len) (fun q L_ => L_ = [(blk bx56 97 [(bptr bj25 0)]), (blk b36 97 [(bptr bj25 0)]), (blk bj25 119 [vr, vu, (Value.map (some bm26))]), (blk b14 29 [(Value.int .i64 0)]), (blk b9 97 [(Value.pointer none)]), (blk b4 33 [vr]), (sl vr 2 R.length (pairs R)), (sl vu 3 rs.length (vtrips (runV lv rs))), (segsR false lv rs)] ∧ (q = 0)) (fun L_ => L_ = [(blk bx56 97 [(bptr bj25 0)]), (blk b36 97 [(bptr bj25 0)]), (blk bj25 119 [vr, vu, (Value.map (some bm26))]), (blk b14 29 [(Value.int .i64 0)]), (blk b9 97 [(bptr bj25 0)]), (blk b4 33 [vr]), (sl vr 2 R.length (pairs R)), (sl vu 3 rs.length (vtrips (runV lv rs))), (segsR false lv rs)] ∧ (0 < (allowedF R rs).length)) (some .ret) ⟨rfl, rfl⟩ (fun q L_ hI_ G_ W_ r1_ r2_ hW_ => by obtain ⟨rfl, hz⟩ := hI_; exact (Sep.keep ((hW_.to_ro (i := 3) rfl).to_ro (i := 5) rfl) [2, 3, 5, 9, 10, 11] (by decide) _ rfl rfl)) (fun L_ hI_ G_ W_ r1_ r2_ hW_ => by obtain ⟨rfl, hn⟩ := hI_; exact (Sep.keep ((hW_.to_ro (i := 3) rfl).to_ro (i := 5) rfl) [2, 3, 5, 9, 10, 11] (by decide) _ rfl rfl)) ?_ ?_ ?_
 ·skip
  intro q hq L_ hL_ G67 hG68 l64 D65 rc66 a59 w60 ha63 hS61; obtain ⟨rfl, hz⟩ := hL_
  have hA62 : Fr 21 [] [(19, (Value.agg (ints ((allowedF R rs).getD q [])).toArray)), (18, (Value.func (.func 78) #[] #[(bptr bx56 0)])), (6, (bptr b36 0)), (5, (bptr b14 0)), (4, (bptr b9 0))] a59 := by rw [ha63]; exact Fr.round1 hA57 (by decide)
  clear ha63 hS58
  refine c_skip ?_
  refine ⟨rfl, _, hS61, ?_⟩; intro w69 hS70; clear hS61
  refine c_block ?_
  refine c_seq ?_
  refine c_region ?_
  refine st hA62 (op_load1 rfl ty_97 (hA62.ev rfl) (hS70.bk 4 rfl) rfl) rfl rfl (by decide) fun a71 hA72 => ?_; clear hA62 a59
  refine sts hA72 (op_store hS70 rfl ty_97 (hA72.ev rfl) (hA72.ev rfl) (i := 7) rfl (vs := [(bptr bj25 0)]) rfl rfl rfl (Nat.le_of_ble_eq_true rfl)) rfl rfl ?_
  intro _ w73 hS74 hA75; clear hA72
  have hS76 : Sep NoB w w73 [(obR l64 (.loop (rc66 .busy none))), (marksR (D65 :: [])), G67, (blk bx56 97 [(bptr bj25 0)]), (blk b36 97 [(bptr bj25 0)]), (blk bj25 119 [vr, vu, (Value.map (some bm26))]), (blk b14 29 [(Value.int .i64 0)]), (blk b9 97 [(bptr bj25 0)]), (blk b4 33 [vr]), (sl vr 2 R.length (pairs R)), (sl vu 3 rs.length (vtrips (runV lv rs))), (segsR false lv rs)] := hS74; clear hS74 hS70
  refine sts hA75 (op_store hS76 rfl ty_29 (hA75.ev rfl) (evc _ _) (i := 6) rfl (vs := [(Value.int .i64 0)]) rfl rfl rfl (Nat.le_of_ble_eq_true rfl)) rfl rfl ?_
  intro _ w77 hS78 hA79; clear hA75
  have hS80 : Sep NoB w w77 [(obR l64 (.loop (rc66 .busy none))), (marksR (D65 :: [])), G67, (blk bx56 97 [(bptr bj25 0)]), (blk b36 97 [(bptr bj25 0)]), (blk bj25 119 [vr, vu, (Value.map (some bm26))]), (blk b14 29 [(Value.int .i64 0)]), (blk b9 97 [(bptr bj25 0)]), (blk b4 33 [vr]), (sl vr 2 R.length (pairs R)), (sl vu 3 rs.length (vtrips (runV lv rs))), (segsR false lv rs)] := hS78; clear hS78 hS76
  refine wl_nil ?_
  refine then_n ?_
  refine c_ret ?_
  refine blk_ret ?_
  exact re_ret rfl ⟨_, rfl, ⟨rfl, (Nat.lt_of_le_of_lt (Nat.zero_le _) hq)⟩⟩ hS80
 ·skip
  intro L_ hL_ D85 a81 w82 hA84 hS83; obtain ⟨rfl, hz⟩ := hL_; clear hA57 hS58
  refine blk_n ?_
  refine then_n ?_
  refine c_seq ?_
  refine c_region ?_
  refine sts hA84 (op_store hS83 rfl ty_97 (hA84.ev rfl) (evc _ _) (i := 6) rfl (vs := [(Value.pointer none)]) rfl rfl (all_c rfl all_n) (Nat.le_of_ble_eq_true rfl)) rfl rfl ?_
  intro _ w86 hS87 hA88; clear hA84
  have hS89 : Sep NoB w w86 [(marksR (D85 :: [])), (memo bm26 (KA rs)), (blk bx56 97 [(bptr bj25 0)]), (blk b36 97 [(bptr bj25 0)]), (blk bj25 119 [vr, vu, (Value.map (some bm26))]), (blk b14 29 [(Value.int .i64 0)]), (blk b9 97 [(Value.pointer none)]), (blk b4 33 [vr]), (sl vr 2 R.length (pairs R)), (sl vu 3 rs.length (vtrips (runV lv rs))), (segsR false lv rs)] := hS87; clear hS87 hS83
  refine sts hA88 (op_store hS89 rfl ty_29 (hA88.ev rfl) (evc _ _) (i := 5) rfl (vs := [(Value.int .i64 9)]) rfl rfl rfl (Nat.le_of_ble_eq_true rfl)) rfl rfl ?_
  intro _ w90 hS91 hA92; clear hA88
  have hS93 : Sep NoB w w90 [(marksR (D85 :: [])), (memo bm26 (KA rs)), (blk bx56 97 [(bptr bj25 0)]), (blk b36 97 [(bptr bj25 0)]), (blk bj25 119 [vr, vu, (Value.map (some bm26))]), (blk b14 29 [(Value.int .i64 9)]), (blk b9 97 [(Value.pointer none)]), (blk b4 33 [vr]), (sl vr 2 R.length (pairs R)), (sl vu 3 rs.length (vtrips (runV lv rs))), (segsR false lv rs)] := hS91; clear hS91 hS89
  refine wl_nil ?_
  refine then_n ?_
  refine c_ret ?_
  refine fin_runM hA92 (.inl rfl) hS93 ?_
  intro w94 hS95; clear hS93
  refine ⟨_, (run_results2 hA92 rfl (.cell1 rfl ty_97 (hS95.bk 5 rfl) rfl) (.cell1 rfl ty_29 (hS95.bk 4 rfl) rfl)), ?_⟩
  exact .inl ⟨poss_9 he hz, rfl, hS95.ext⟩
 ·skip
  intro c_ hc_; cases hc_
  intro L_ hL_ D100 a96 w97 hA99 hS98; obtain ⟨rfl, hn⟩ := hL_; clear hA57 hS58
  refine c_ret ?_
  refine blk_ret ?_
  refine then_ret ?_
  refine fin_runM hA99 (.inl rfl) hS98 ?_
  intro w101 hS102; clear hS98
  refine ⟨_, (run_results2 hA99 rfl (.cell1 rfl ty_97 (hS102.bk 5 rfl) rfl) (.cell1 rfl ty_29 (hS102.bk 4 rfl) rfl)), ?_⟩
  exact .inr ⟨poss_0 he hn, _, _, rfl, hS102.keep [3, 0] (by decide) _ rfl rfl⟩
theorem poss_bad (R : List (Int × Int)) (rs : List RunD) (lv : List Value) (vr vu : Value) (w : World) (hm : SlAt w vr 2 R.length (pairs R)) (hx : RunsAt w vu lv rs) (hlen : R.length ≤ 1000000) (hrl : rs.length ≤ 1000000) (he : possF R rs ≠ 0) : Calls Try.prog 53 #[.agg #[vr], vu] w (Ret fun v w' => v = .tuple #[.pointer none, .int .i64 (possF R rs)] ∧ Ext NoB w w') := by
 by_cases h0 : enterF R rs = 0
 ·exact (poss_any R rs lv vr vu w hm hx hlen hrl h0).mono (Ret.mono fun v w' h => by
   rcases h with ⟨h1, h⟩ | ⟨h, _⟩
   ·rw [h1]; exact h
   ·exact absurd h he)
 ·have := poss_e_ok R rs lv vr vu w hm hx hlen hrl h0
  rw [poss_e h0]; exact this
theorem poss_ok (R : List (Int × Int)) (rs : List RunD) (lv : List Value) (vr vu : Value) (w : World) (hm : SlAt w vr 2 R.length (pairs R)) (hx : RunsAt w vu lv rs) (hlen : R.length ≤ 1000000) (hrl : rs.length ≤ 1000000) (he : possF R rs = 0) : Calls Try.prog 53 #[.agg #[vr], vu] w (Ret fun v w' => ∃ bj bm, v = .tuple #[bptr bj 0, .int .i64 0] ∧ Sep NoB w w' [blk bj 119 [vr, vu, .map (some bm)], memo bm (KA rs)]) :=
 (poss_any R rs lv vr vu w hm hx hlen hrl (poss_is he).1).mono (Ret.mono fun v w' h => by
  rcases h with ⟨h, _⟩ | ⟨_, h⟩
  ·rw [he] at h; exact absurd h (by decide)
  ·exact h)
end Go.Proofs.Ytkkglkdnnfegkaa

namespace Go.Proofs.Ytkkglkdnnfegkaa
open Go.RowKit Go.Eng
def withF (p : Int × Int) (n : Int) (first : Bool) : Int × Int := (if first = true then n else min p.1 n, if first = true then n else max p.2 n)
def midW (old : List (Int × Int)) (l : List Int) (first : Bool) (b : Nat) : List (Int × Int) := (List.range old.length).map fun i => if i < b then withF (old.getD i (0, 0)) (l.getD i 0) first else old.getD i (0, 0)
def outF (A : List (List Int)) (n : Nat) : Nat → List (Int × Int)
  | 0 => List.replicate n (0, 0)
  | k + 1 => midW (outF A n k) (A.getD k []) (decide ((k : Int) = 0)) n
theorem midW_len (old : List (Int × Int)) (l : List Int) (first : Bool) (b : Nat) : (midW old l first b).length = old.length := by simp [midW]
theorem outF_len (A : List (List Int)) (n : Nat) : ∀ k, (outF A n k).length = n
  | 0 => by simp [outF]
  | k + 1 => by rw [outF, midW_len, outF_len A n k]
theorem midW_getD {old : List (Int × Int)} {l : List Int} {first : Bool} {b i : Nat} (hi : i < old.length) : (midW old l first b).getD i (0, 0) = if i < b then withF (old.getD i (0, 0)) (l.getD i 0) first else old.getD i (0, 0) := by
  simp [midW, List.getD, hi]
theorem midW_zero (old : List (Int × Int)) (l : List Int) (first : Bool) : midW old l first 0 = old := by
  apply List.ext_getElem (by simp [midW])
  intro i h1 h2
  simp [midW, List.getD, h2]
theorem midW_set {old : List (Int × Int)} {l : List Int} {first : Bool} {b : Nat} (hb : b < old.length) :
    (midW old l first b).set b (withF ((midW old l first b).getD b (0, 0)) (l.getD b 0) first) = midW old l first (b + 1) := by
  apply List.ext_getElem (by simp [midW])
  intro i h1 h2
  have eb : (midW old l first b).getD b (0, 0) = old.getD b (0, 0) := by rw [midW_getD hb, if_neg (Nat.lt_irrefl b)]
  have hi : i < old.length := by simpa [midW] using h2
  by_cases e : i = b
  · subst e
    rw [List.getElem_set_self, eb]
    simp [midW]
  · rw [List.getElem_set_ne (fun h => e h.symm)]
    simp only [midW, List.getElem_map, List.getElem_range]
    by_cases h3 : i < b
    · rw [if_pos h3, if_pos (by omega)]
    · rw [if_neg h3, if_neg (by omega)]
theorem outF_succ (A : List (List Int)) (n k : Nat) {b : Nat} (hb : n = b) : midW (outF A n k) (A.getD k []) (decide ((k : Int) = 0)) b = outF A n (k + 1) := by subst hb; rfl
theorem fromF_len {R : List (Int × Int)} (hR : MatV R) : ∀ (m : Nat) (arr : List Int) (band : Nat), RatesV arr → (fromF R m arr band).length ≤ 1001 ^ m
  | 0, arr, band, ha => by simp [fromF]
  | m + 1, arr, band, ha => by
    have h1 := lowF_bd hR ha band
    have h2 := hR.2 band
    have hc : cntF R arr band ≤ 1001 := by unfold cntF; omega
    have key : ∀ t, t ≤ cntF R arr band → (fromUpto R m arr band t).length ≤ 1001 ^ m * t := by
      intro t
      induction t with
      | zero => intro _; simp [fromUpto]
      | succ t ih =>
        intro ht
        have := ih (by omega)
        have h3 := fromF_len hR m (arr.set band (lowF R arr band + (t : Int))) (band + 1) (ratesV_set ha (by unfold cntF at ht; omega))
        rw [fromUpto_succ, List.length_append, Nat.mul_succ]; omega
    rw [fromF_end]
    calc _ ≤ 1001 ^ m * cntF R arr band := key _ (Nat.le_refl _)
      _ ≤ 1001 ^ m * 1001 := Nat.mul_le_mul_left _ hc
      _ = 1001 ^ (m + 1) := (Nat.pow_succ ..).symm
theorem lists_len {R : List (Int × Int)} (hR : MatV R) : (listsF R).length ≤ 1003003001 := by
  refine Nat.le_trans (fromF_len hR R.length [0, 0, 0] 0 zero_rates) ?_
  calc 1001 ^ R.length ≤ 1001 ^ 3 := Nat.pow_le_pow_right (by decide) hR.1
    _ = 1003003001 := by decide
theorem allowed_le {R : List (Int × Int)} {rs : List RunD} (hR : MatV R) : (allowedF R rs).length ≤ 1003003001 := Nat.le_trans (List.length_filter_le ..) (lists_len hR)
def ratesF (R : List (Int × Int)) (rs : List RunD) : List (Int × Int) := outF (allowedF R rs) R.length (allowedF R rs).length
end Go.Proofs.Ytkkglkdnnfegkaa

namespace Go.Proofs.Ytkkglkdnnfegkaa
open Go.RowKit Go.Shelf Go.Eng
theorem ze_28 : (Try.prog.info? 28).bind (·.zero) = some (Value.slice none 0 0) := by kernel_rfl
theorem en_53 : ∀ args w, (callFunc 53 args).run Try.prog w = .ok (.enter 53 args) w := enters_of Try.func53 (by kernel_rfl) rfl
theorem el_42 : elK Try.prog 42 = some ((Value.agg #[(Value.int .i64 0), (Value.int .i64 0)]), 2, 16) := by kernel_rfl
theorem en_55 : ∀ args w, (callFunc 55 args).run Try.prog w = .ok (.enter 55 args) w := enters_of Try.func55 (by kernel_rfl) rfl
theorem made_rng {n : Nat} (h : n = 1 ∨ n = 2 ∨ n = 3) : (madeCells (Value.agg #[.int .i64 0, .int .i64 0]).cells (n * 2)).toList = pairs (List.replicate n (0, 0)) := by rcases h with rfl | rfl | rfl <;> kernel_rfl
theorem rates_ok (R : List (Int × Int)) (rs : List RunD) (lv : List Value) (vr vu : Value) (w : World) (hm : SlAt w vr 2 R.length (pairs R)) (hx : RunsAt w vu lv rs) (hlen : R.length ≤ 1000000) (hrl : rs.length ≤ 1000000) (he : possF R rs = 0) :
  Calls Try.prog 18 #[(Value.agg #[vr]), vu] w (Ret fun v w' => ∃ u, v = .tuple #[u, .int .i64 ((allowedF R rs).length : Int), .int .i64 0] ∧ Sep NoB w w' [row u 42 2 R.length (pairs (ratesF R rs))]) := by
 refine calls_enterM Try.func18 rfl fun a0 hA0 => ?_
 replace hA0 : Fr 49 (marks []) [(0, (Value.agg #[vr])), (1, vu)] a0 := hA0
 have hR := (check_mat (enter_mat (poss_is he).1)).1
 have hR1 := (check_mat (enter_mat (poss_is he).1)).2.1
 have hR3 := hR.1
 have hal_ := allowed_le (rs := rs) hR
 have hV := enter_runs (poss_is he).1
 have hS0 : Sep NoB w w [(marksR []), (sl vr 2 R.length (pairs R)), (sl vu 3 rs.length (vtrips (runV lv rs))), (segsR false lv rs)] := sep_marks (sep_ro ⟨rfl, hm, rfl, hx.runs, rfl, ⟨hx.len, hx.segs⟩, trivial⟩)
 refine c_seq ?_
 refine c_region ?_
 refine stw hA0 (op_box hS0 rfl (hA0.ev rfl) (cs := [vr]) rfl) rfl rfl (by decide) ?_
 rintro a1 _ w3 ⟨b4, rfl, hS5⟩ hA2; clear hA0 hS0 a0
 refine stw hA2 (op_alloc hS5 rfl ze_28 (cs := [(Value.slice none 0 0)]) rfl) rfl rfl (by decide) ?_
 rintro a6 _ w8 ⟨b9, rfl, hS10⟩ hA7; clear hA2 hS5 a1
 refine stw hA7 (op_alloc hS10 rfl ze_3 (cs := [(Value.int .i64 0)]) rfl) rfl rfl (by decide) ?_
 rintro a11 _ w13 ⟨b14, rfl, hS15⟩ hA12; clear hA7 hS10 a6
 refine st hA12 (op_assign rfl (evc _ _)) rfl rfl (by decide) fun a16 hA17 => ?_; clear hA12 a11
 refine wl_nil ?_
 refine then_n ?_
 refine c_seq ?_
 refine c_region ?_
 refine st hA17 (op_loadA rfl ty_33 (hA17.ev rfl) (hS15.bk 2 rfl) (l := [vr]) rfl rfl) rfl rfl (by decide) fun a18 hA19 => ?_; clear hA17 a16
 refine st hA19 (op_move rfl (hA19.ev rfl)) rfl rfl (by decide) fun a20 hA21 => ?_; clear hA19 a18
 refine stw hA21 (op_call rfl en_53 (ev2 (hA21.ev rfl) (hA21.ev rfl)) (poss_ok R rs lv vr vu _ (hm.step hS15.ext) (hx.step hS15.ext) (by omega) (by omega) he)) rfl rfl (by decide) ?_
 rintro a22 _ w24 ⟨bj27, bm28, rfl, hT25⟩ hA23; have hS26 := hS15.callS hT25 rfl; clear hT25 hA21 hS15 a20
 refine st hA23 (op_move rfl (hA23.ev rfl)) rfl rfl (by decide) fun a29 hA30 => ?_; clear hA23 a22
 refine st hA30 (op_extract rfl (hA30.ev rfl) rfl) rfl rfl (by decide) fun a31 hA32 => ?_; clear hA30 a29
 refine st hA32 (op_extract rfl (hA32.ev rfl) rfl) rfl rfl (by decide) fun a33 hA34 => ?_; clear hA32 a31
 refine st hA34 (op_assign rfl (hA34.ev rfl)) rfl rfl (by decide) fun a35 hA36 => ?_; clear hA34 a33
 refine st hA36 (op_assign rfl (hA36.ev rfl)) rfl rfl (by decide) fun a37 hA38 => ?_; clear hA36 a35
 refine wl_nil ?_
 refine then_n ?_
 refine c_seq ?_
 refine c_seq ?_
 have hA39 := hA38.as [(6, (Value.int .i64 0)), (7, (bptr bj27 0)), (5, (bptr b14 0)), (4, (bptr b9 0)), (2, (bptr b4 0))] rfl; clear hA38
 refine c_region ?_
 refine st hA39 (op_move rfl (hA39.ev rfl)) rfl rfl (by decide) fun a40 hA41 => ?_; clear hA39 a37
 refine st hA41 (op_neq rfl (hA41.ev rfl) (evc _ _)) rfl rfl (by decide) fun a42 hA43 => ?_; clear hA41 a40
 refine wl_nil ?_
 refine then_n ?_
 refine c_false hA43 rfl ?_
 refine c_skip ?_
 refine then_n ?_
 refine c_seq ?_
 refine c_region ?_
 refine st hA43 (op_field rfl fd_33_0 (hA43.ev rfl)) rfl rfl (by decide) fun a44 hA45 => ?_; clear hA43 a42
 refine st hA45 (op_load1 rfl ty_28 (hA45.ev rfl) (hS26.bk 4 rfl) rfl) rfl rfl (by decide) fun a46 hA47 => ?_; clear hA45 a44
 refine st hA47 (op_lenS rfl un_28 (hA47.ev rfl) (hS26.sk 6 rfl)) rfl rfl (by decide) fun a48 hA49 => ?_; clear hA47 a46
 refine stw hA49 (op_makeFull hS26 rfl un_28 el_42 (hA49.ev rfl) (hA49.ev rfl) (n := R.length) (cs := (pairs (List.replicate R.length (0, 0)))) (made_rng (by omega)) (by omega) (by omega) (by simp only [maxLen]; omega)) rfl rfl (by decide) ?_
 intro a50 v53 w52 hS54 hA51; clear hA49 hS26 a48
 refine sts hA51 (op_store hS54 rfl ty_28 (hA51.ev rfl) (hA51.ev rfl) (i := 4) rfl (vs := [v53]) (isSl_cells (SlAt.isSl (SlAt.of_row (hS54.ok_row 0 rfl)))) rfl (all_c (SlAt.one (SlAt.of_row (hS54.ok_row 0 rfl))) all_n) (Nat.le_of_ble_eq_true rfl)) rfl rfl ?_
 intro _ w55 hS56 hA57; clear hA51
 have hS58 : Sep NoB w w55 [(row v53 42 2 R.length (pairs (List.replicate R.length (0, 0)))), (blk bj27 119 [vr, vu, (Value.map (some bm28))]), (memo bm28 (KA rs)), (blk b14 3 [(Value.int .i64 0)]), (blk b9 28 [v53]), (blk b4 33 [vr]), (marksR []), (sl vr 2 R.length (pairs R)), (sl vu 3 rs.length (vtrips (runV lv rs))), (segsR false lv rs)] := hS56; clear hS56 hS54
 refine wl_nil ?_
 refine then_n ?_
 refine c_seq ?_
 refine c_seq ?_
 have hA59 := hA57.as [(7, (bptr bj27 0)), (5, (bptr b14 0)), (4, (bptr b9 0))] rfl; clear hA57
 refine c_region ?_
 refine st hA59 (op_move rfl (hA59.ev rfl)) rfl rfl (by decide) fun a60 hA61 => ?_; clear hA59 a50
 refine stw hA61 (op_call rfl en_54 (ev1 (hA61.ev rfl)) (every_ok _ _)) rfl rfl (by decide) ?_
 rintro a62 _ w64 ⟨bx67, rfl, hT65⟩ hA63; have hS66 := hS58.callS hT65 rfl; clear hT65 hA61 hS58 a60
 refine wl_nil ?_
 refine then_n ?_
 refine c_block ?_
 have hA68 := hA63.as [(24, (Value.func (.func 78) #[] #[(bptr bx67 0)])), (5, (bptr b14 0)), (4, (bptr b9 0))] rfl; clear hA63
 have hS69 : Sep NoB w w64 [(marksR []), (memo bm28 (KA rs)), (blk bx67 97 [(bptr bj27 0)]), (row v53 42 2 R.length (pairs (List.replicate R.length (0, 0)))), (blk bj27 119 [vr, vu, (Value.map (some bm28))]), (blk b14 3 [(Value.int .i64 0)]), (blk b9 28 [v53]), (blk b4 33 [vr]), (sl vr 2 R.length (pairs R)), (sl vu 3 rs.length (vtrips (runV lv rs))), (segsR false lv rs)] := hS66.keep [7, 3, 0, 1, 2, 4, 5, 6, 8, 9, 10] (by decide) _ rfl rfl; clear hS66
 refine c_rangeG hA68 (memo bm28 (KA rs)) rfl hS69 (hA68.ev rfl) en_78 ((allowedF R rs).length) (fun k => #[.agg (ints ((allowedF R rs).getD k [])).toArray]) (fun _ => rfl) [rob bx67 97 [bptr bj27 0], rob bj27 119 [vr, vu, .map (some bm28)], sl vr 2 R.length (pairs R), sl vu 3 rs.length (vtrips (runV lv rs)), segsR false lv rs] (fun r hr => by simp only [List.mem_cons, List.not_mem_nil, or_false] at hr; rcases hr with rfl | rfl | rfl | rfl | rfl <;> rfl) (every_it bx67 bj27 bm28 R rs lv vr vu R.length hR.1 hR hV hx.len) (fun q L_ => L_ = [(blk bx67 97 [(bptr bj27 0)]), (row v53 42 2 R.length (pairs (outF (allowedF R rs) R.length q))), (blk bj27 119 [vr, vu, (Value.map (some bm28))]), (blk b14 3 [(Value.int .i64 (q : Int))]), (blk b9 28 [v53]), (blk b4 33 [vr]), (sl vr 2 R.length (pairs R)), (sl vu 3 rs.length (vtrips (runV lv rs))), (segsR false lv rs)]) (fun _ => False) none rfl (fun q L_ hI_ G_ W_ r1_ r2_ hW_ => by obtain ⟨rfl⟩ := hI_; exact (Sep.keep ((hW_.to_ro (i := 3) rfl).to_ro (i := 5) rfl) [2, 3, 5, 9, 10, 11] (by decide) _ rfl rfl)) (fun L_ hI_ => hI_.elim) ?_ ?_ (fun _ hc_ => by cases hc_)
 ·skip
  intro q hq L_ hL_ G78 hG79 l75 D76 rc77 a70 w71 ha74 hS72; obtain ⟨rfl⟩ := hL_
  have hA73 : Fr 49 [] [(25, (Value.agg (ints ((allowedF R rs).getD q [])).toArray)), (24, (Value.func (.func 78) #[] #[(bptr bx67 0)])), (5, (bptr b14 0)), (4, (bptr b9 0))] a70 := by rw [ha74]; exact Fr.round1 hA68 (by decide)
  clear ha74 hS69
  have hl3 := (allowed_rates hR hq).1.1
  refine c_region ?_
  refine stw hA73 (op_alloc hS72 rfl ze_104 (cs := [(Value.int .i64 0), (Value.int .i64 0), (Value.int .i64 0)]) rfl) rfl rfl (by decide) ?_
  rintro a80 _ w82 ⟨b83, rfl, hS84⟩ hA81; clear hA73 hS72 a70
  refine sts hA81 (op_store hS84 rfl ty_104 (hA81.ev rfl) (hA81.ev rfl) (i := 0) rfl (vs := (ints ((allowedF R rs).getD q []))) rfl (allowed_len3 hR hq).symm (ints_one _) (by decide)) rfl rfl ?_
  intro _ w85 hS86 hA88; have hS87 := hS86.blk_say (i := 0) rfl (cs' := (ints ((allowedF R rs).getD q []))) (setFrom_all _ _ (Eq.symm (allowed_len3 hR hq).symm)); clear hS86 hA81 hS84
  refine wl_nil ?_
  have hS89 : Sep NoB w w85 [(obR l75 (.loop (rc77 .ready none))), (marksR (D76 :: [])), G78, (blk b83 104 (ints ((allowedF R rs).getD q []))), (blk bx67 97 [(bptr bj27 0)]), (row v53 42 2 R.length (pairs (outF (allowedF R rs) R.length q))), (blk bj27 119 [vr, vu, (Value.map (some bm28))]), (blk b14 3 [(Value.int .i64 (q : Int))]), (blk b9 28 [v53]), (blk b4 33 [vr]), (sl vr 2 R.length (pairs R)), (sl vu 3 rs.length (vtrips (runV lv rs))), (segsR false lv rs)] := hS87.keep [1, 2, 3, 0, 4, 5, 6, 7, 8, 9, 10, 11, 12] (by decide) _ rfl rfl; clear hS87
  refine ⟨rfl, _, hS89, ?_⟩; intro w90 hS91; clear hS89
  refine c_block ?_
  refine c_seq ?_
  refine c_seq ?_
  refine c_region ?_
  refine st hA88 (op_load1 rfl ty_28 (hA88.ev rfl) (hS91.bk 8 rfl) rfl) rfl rfl (by decide) fun a92 hA93 => ?_; clear hA88 a80
  refine st hA93 (op_lenS rfl un_28 (hA93.ev rfl) (SlAt.of_row (hS91.ok_row 5 rfl))) rfl rfl (by decide) fun a94 hA95 => ?_; clear hA93 a92
  refine st hA95 (op_move rfl (evc _ _)) rfl rfl (by decide) fun a96 hA97 => ?_; clear hA95 a94
  refine wl_nil ?_
  refine then_n ?_
  refine c_block ?_
  have hA98 := hA97.as [(28, (Value.int .i64 0)), (27, (Value.int .i64 (R.length : Int))), (8, (bptr b83 0)), (5, (bptr b14 0)), (4, (bptr b9 0))] rfl; clear hA97
  refine c_loop (G := Nat) (fun (k : Nat) a_ w_ => Fr 49 [] [(28, (Value.int .i64 (k : Int))), (27, (Value.int .i64 (R.length : Int))), (8, (bptr b83 0)), (5, (bptr b14 0)), (4, (bptr b9 0))] a_ ∧ Sep NoB w w_ [(obR l75 (.loop (rc77 .busy none))), (marksR (D76 :: [])), G78, (blk b83 104 (ints ((allowedF R rs).getD q []))), (blk bx67 97 [(bptr bj27 0)]), (row v53 42 2 R.length (pairs (midW (outF (allowedF R rs) R.length q) ((allowedF R rs).getD q []) (decide ((q : Int) = 0)) k))), (blk bj27 119 [vr, vu, (Value.map (some bm28))]), (blk b14 3 [(Value.int .i64 (q : Int))]), (blk b9 28 [v53]), (blk b4 33 [vr]), (sl vr 2 R.length (pairs R)), (sl vu 3 rs.length (vtrips (runV lv rs))), (segsR false lv rs)] ∧ (k ≤ R.length)) (fun k => R.length - k) 0 ⟨hA98.as _ rfl, (hS91.row_say (i := 5) rfl rfl (by rw [midW_zero])), by omega⟩ ?_
  clear hA98 hS91 a96
  rintro k a99 w101 ⟨hA100, hS102, hk⟩
  refine c_seq ?_
  refine c_region ?_
  refine st hA100 (op_lss rfl (hA100.ev rfl) (hA100.ev rfl)) rfl rfl (by decide) fun a103 hA104 => ?_; clear hA100 a99
  refine wl_nil ?_
  refine then_n ?_
  refine c_seq ?_
  by_cases hb105 : (k : Int) < (R.length : Int)
  ·skip
   rw [decide_eq_true hb105] at hA104
   refine c_true hA104 rfl ?_
   refine c_skip ?_
   refine then_n ?_
   refine c_seq ?_
   refine c_block ?_
   refine c_seq ?_
   refine c_region ?_
   refine st hA104 (op_move rfl (hA104.ev rfl)) rfl rfl (by decide) fun a106 hA107 => ?_; clear hA104 a103
   refine st hA107 (op_assign rfl (hA107.ev rfl)) rfl rfl (by decide) fun a108 hA109 => ?_; clear hA107 a106
   refine wl_nil ?_
   refine then_n ?_
   have hA110 := hA109.as [(9, (Value.int .i64 (k : Int))), (28, (Value.int .i64 (k : Int))), (27, (Value.int .i64 (R.length : Int))), (8, (bptr b83 0)), (5, (bptr b14 0)), (4, (bptr b9 0))] rfl; clear hA109
   refine c_drawV mixed hA110 hS102 12 [[], [], [], [], [2, 3], [4], [], [6], [7], [], [9], [5, 8, 10]] [(fun (vs111 : Nat → Value) (v_ : Value) (rs_ : List Res) => v_ = v53 ∧ rs_ = []), (fun (vs111 : Nat → Value) (v_ : Value) (rs_ : List Res) => v_ = (Value.int .i64 (k : Int)) ∧ rs_ = []), (fun (vs111 : Nat → Value) (v_ : Value) (rs_ : List Res) => v_ = v53 ∧ rs_ = []), (fun (vs111 : Nat → Value) (v_ : Value) (rs_ : List Res) => v_ = (Value.int .i64 (k : Int)) ∧ rs_ = []), (fun (vs111 : Nat → Value) (v_ : Value) (rs_ : List Res) => v_ = (eptr v53 (k * 2)) ∧ rs_ = []), (fun (vs111 : Nat → Value) (v_ : Value) (rs_ : List Res) => v_ = (Value.agg #[(Value.int .i64 (((midW (outF (allowedF R rs) R.length q) ((allowedF R rs).getD q []) (decide ((q : Int) = 0)) k).getD k (0, 0)).1)), (Value.int .i64 (((midW (outF (allowedF R rs) R.length q) ((allowedF R rs).getD q []) (decide ((q : Int) = 0)) k).getD k (0, 0)).2))]) ∧ rs_ = []), (fun (vs111 : Nat → Value) (v_ : Value) (rs_ : List Res) => v_ = (Value.int .i64 (k : Int)) ∧ rs_ = []), (fun (vs111 : Nat → Value) (v_ : Value) (rs_ : List Res) => v_ = (bptr b83 (0 + k * 1)) ∧ rs_ = []), (fun (vs111 : Nat → Value) (v_ : Value) (rs_ : List Res) => v_ = (Value.int .i64 (((allowedF R rs).getD q []).getD k 0)) ∧ rs_ = []), (fun (vs111 : Nat → Value) (v_ : Value) (rs_ : List Res) => v_ = (Value.int .i64 (q : Int)) ∧ rs_ = []), (fun (vs111 : Nat → Value) (v_ : Value) (rs_ : List Res) => v_ = (Value.bool (decide ((q : Int) = 0))) ∧ rs_ = []), (fun (vs111 : Nat → Value) (v_ : Value) (rs_ : List Res) => v_ = (Value.agg #[(Value.int .i64 (if (decide ((q : Int) = 0)) = true then (((allowedF R rs).getD q []).getD k 0) else min (((midW (outF (allowedF R rs) R.length q) ((allowedF R rs).getD q []) (decide ((q : Int) = 0)) k).getD k (0, 0)).1) (((allowedF R rs).getD q []).getD k 0))), (Value.int .i64 (if (decide ((q : Int) = 0)) = true then (((allowedF R rs).getD q []).getD k 0) else max (((midW (outF (allowedF R rs) R.length q) ((allowedF R rs).getD q []) (decide ((q : Int) = 0)) k).getD k (0, 0)).2) (((allowedF R rs).getD q []).getD k 0)))]) ∧ rs_ = [])] (by decide +kernel) (by decide +kernel) rfl rfl ⟨(fun _ _ _ _ _ h_ => h_), (fun _ _ _ _ _ h_ => h_), (fun _ _ _ _ _ h_ => h_), (fun _ _ _ _ _ h_ => h_), (fun _ _ _ _ _ h_ => h_), (fun _ _ _ _ _ h_ => h_), (fun _ _ _ _ _ h_ => h_), (fun _ _ _ _ _ h_ => h_), (fun _ _ _ _ _ h_ => h_), (fun _ _ _ _ _ h_ => h_), (fun _ _ _ _ _ h_ => h_), (fun _ _ _ _ _ h_ => h_), trivial⟩ ?_ ?_
   ·skip
    refine ⟨fun a w vs111 hA hS hd => ?_, ?_⟩
    ·skip
     exact opG_of rfl (vv (op_load1 rfl ty_28 (hA.ev rfl) (hS.bk 8 rfl) rfl) (And.intro rfl rfl))
    refine ⟨fun a w vs111 hA hS hd => ?_, ?_⟩
    ·skip
     exact opG_of rfl (vv (op_move rfl (hA.ev rfl)) (And.intro rfl rfl))
    refine ⟨fun a w vs111 hA hS hd => ?_, ?_⟩
    ·skip
     exact opG_of rfl (vv (op_load1 rfl ty_28 (hA.ev rfl) (hS.bk 8 rfl) rfl) (And.intro rfl rfl))
    refine ⟨fun a w vs111 hA hS hd => ?_, ?_⟩
    ·skip
     exact opG_of rfl (vv (op_move rfl (hA.ev rfl)) (And.intro rfl rfl))
    refine ⟨fun a w vs111 hA hS hd => ?_, ?_⟩
    ·skip
     obtain ⟨e2, rs2, hy2, hp2⟩ := hd 2 (by decide)
     obtain ⟨hv2, hr2⟩ := hy2; subst hr2
     rw [hv2] at e2
     obtain ⟨e3, rs3, hy3, hp3⟩ := hd 3 (by decide)
     obtain ⟨hv3, hr3⟩ := hy3; subst hr3
     rw [hv3] at e3
     exact opG_of rfl (vv (op_indexS rfl un_28 ty_42 (tmp_ev (slot_ev e2 rfl)) (i := k) (tmp_ev (slot_ev e3 rfl)) (SlAt.of_row (hS.ok_row 5 rfl)) (by decide) (by first | omega | (simp only [midW_len, outF_len]; omega))) (And.intro rfl rfl))
    refine ⟨fun a w vs111 hA hS hd => ?_, ?_⟩
    ·skip
     obtain ⟨e4, rs4, hy4, hp4⟩ := hd 4 (by decide)
     obtain ⟨hv4, hr4⟩ := hy4; subst hr4
     rw [hv4] at e4
     exact opG_of rfl (vv (op_loadAE rfl ty_42 (tmp_ev (slot_ev e4 rfl)) (SlAt.of_row (hS.ok_row 5 rfl)) (pairs_all (by first | omega | (simp only [midW_len, outF_len]; omega))) rfl (by decide)) (And.intro rfl rfl))
    refine ⟨fun a w vs111 hA hS hd => ?_, ?_⟩
    ·skip
     exact opG_of rfl (vv (op_move rfl (hA.ev rfl)) (And.intro rfl rfl))
    refine ⟨fun a w vs111 hA hS hd => ?_, ?_⟩
    ·skip
     obtain ⟨e6, rs6, hy6, hp6⟩ := hd 6 (by decide)
     obtain ⟨hv6, hr6⟩ := hy6; subst hr6
     rw [hv6] at e6
     exact opG_of rfl (vv (op_indexA rfl un_104 ty_3 (hA.ev rfl) (i := k) (tmp_ev (slot_ev e6 rfl)) (by first | omega | (simp only [midW_len, outF_len]; omega))) (And.intro rfl rfl))
    refine ⟨fun a w vs111 hA hS hd => ?_, ?_⟩
    ·skip
     obtain ⟨e7, rs7, hy7, hp7⟩ := hd 7 (by decide)
     obtain ⟨hv7, hr7⟩ := hy7; subst hr7
     rw [hv7] at e7
     exact opG_of rfl (vv (op_load1 rfl ty_3 (tmp_ev (slot_ev e7 rfl)) (hS.bk 3 rfl) (ints_at' (by first | (simp only [List.length_set]; omega) | omega))) (And.intro rfl rfl))
    refine ⟨fun a w vs111 hA hS hd => ?_, ?_⟩
    ·skip
     exact opG_of rfl (vv (op_load1 rfl ty_3 (hA.ev rfl) (hS.bk 7 rfl) rfl) (And.intro rfl rfl))
    refine ⟨fun a w vs111 hA hS hd => ?_, ?_⟩
    ·skip
     obtain ⟨e9, rs9, hy9, hp9⟩ := hd 9 (by decide)
     obtain ⟨hv9, hr9⟩ := hy9; subst hr9
     rw [hv9] at e9
     exact opG_of rfl (vv (op_eql rfl (tmp_ev (slot_ev e9 rfl)) (evc _ _)) (And.intro rfl rfl))
    refine ⟨fun a w vs111 hA hS hd => ?_, ?_⟩
    ·skip
     obtain ⟨e5, rs5, hy5, hp5⟩ := hd 5 (by decide)
     obtain ⟨hv5, hr5⟩ := hy5; subst hr5
     rw [hv5] at e5
     obtain ⟨e8, rs8, hy8, hp8⟩ := hd 8 (by decide)
     obtain ⟨hv8, hr8⟩ := hy8; subst hr8
     rw [hv8] at e8
     obtain ⟨e10, rs10, hy10, hp10⟩ := hd 10 (by decide)
     obtain ⟨hv10, hr10⟩ := hy10; subst hr10
     rw [hv10] at e10
     exact opG_of rfl (vx (op_call rfl en_55 (ev3 (tmp_ev (slot_ev e5 rfl)) (tmp_ev (slot_ev e8 rfl)) (tmp_ev (slot_ev e10 rfl))) (with_ok _ _ _ (decide ((q : Int) = 0)) _)) (And.intro rfl rfl))
    trivial
   intro a112 w113 vs111 rsf117 hA114 hH116 hS115; clear hA110 hS102
   obtain ⟨hs_0, hy_0⟩ := hH116 0 (by decide)
   obtain ⟨hv_0, hr_0⟩ := hy_0
   obtain ⟨hs_1, hy_1⟩ := hH116 1 (by decide)
   obtain ⟨hv_1, hr_1⟩ := hy_1
   obtain ⟨hs_2, hy_2⟩ := hH116 2 (by decide)
   obtain ⟨hv_2, hr_2⟩ := hy_2
   obtain ⟨hs_3, hy_3⟩ := hH116 3 (by decide)
   obtain ⟨hv_3, hr_3⟩ := hy_3
   obtain ⟨hs_4, hy_4⟩ := hH116 4 (by decide)
   obtain ⟨hv_4, hr_4⟩ := hy_4
   obtain ⟨hs_5, hy_5⟩ := hH116 5 (by decide)
   obtain ⟨hv_5, hr_5⟩ := hy_5
   obtain ⟨hs_6, hy_6⟩ := hH116 6 (by decide)
   obtain ⟨hv_6, hr_6⟩ := hy_6
   obtain ⟨hs_7, hy_7⟩ := hH116 7 (by decide)
   obtain ⟨hv_7, hr_7⟩ := hy_7
   obtain ⟨hs_8, hy_8⟩ := hH116 8 (by decide)
   obtain ⟨hv_8, hr_8⟩ := hy_8
   obtain ⟨hs_9, hy_9⟩ := hH116 9 (by decide)
   obtain ⟨hv_9, hr_9⟩ := hy_9
   obtain ⟨hs_10, hy_10⟩ := hH116 10 (by decide)
   obtain ⟨hv_10, hr_10⟩ := hy_10
   obtain ⟨hs_11, hy_11⟩ := hH116 11 (by decide)
   obtain ⟨hv_11, hr_11⟩ := hy_11
   have hS118 : Sep NoB w w113 [(obR l75 (.loop (rc77 .busy none))), (marksR (D76 :: [])), G78, (blk b83 104 (ints ((allowedF R rs).getD q []))), (blk bx67 97 [(bptr bj27 0)]), (row v53 42 2 R.length (pairs (midW (outF (allowedF R rs) R.length q) ((allowedF R rs).getD q []) (decide ((q : Int) = 0)) k))), (blk bj27 119 [vr, vu, (Value.map (some bm28))]), (blk b14 3 [(Value.int .i64 (q : Int))]), (blk b9 28 [v53]), (blk b4 33 [vr]), (sl vr 2 R.length (pairs R)), (sl vu 3 rs.length (vtrips (runV lv rs))), (segsR false lv rs)] := by rw [show catR rsf117 0 12 = ([] : List Res) by (try simp only [catR, hr_0, hr_1, hr_2, hr_3, hr_4, hr_5, hr_6, hr_7, hr_8, hr_9, hr_10, hr_11]); (try rfl)] at hS115; exact hS115
   rw [hv_0] at hs_0
   have hA119 : Fr 49 [] [(31, v53), (9, (Value.int .i64 (k : Int))), (28, (Value.int .i64 (k : Int))), (27, (Value.int .i64 (R.length : Int))), (8, (bptr b83 0)), (5, (bptr b14 0)), (4, (bptr b9 0))] a112 := hA114.add (slot_ev hs_0 rfl); clear hA114
   rw [hv_1] at hs_1
   have hA120 : Fr 49 [] [(32, (Value.int .i64 (k : Int))), (31, v53), (9, (Value.int .i64 (k : Int))), (28, (Value.int .i64 (k : Int))), (27, (Value.int .i64 (R.length : Int))), (8, (bptr b83 0)), (5, (bptr b14 0)), (4, (bptr b9 0))] a112 := hA119.add (slot_ev hs_1 rfl); clear hA119
   rw [hv_11] at hs_11
   have hA121 : Fr 49 [] [(42, (Value.agg #[(Value.int .i64 (if (decide ((q : Int) = 0)) = true then (((allowedF R rs).getD q []).getD k 0) else min (((midW (outF (allowedF R rs) R.length q) ((allowedF R rs).getD q []) (decide ((q : Int) = 0)) k).getD k (0, 0)).1) (((allowedF R rs).getD q []).getD k 0))), (Value.int .i64 (if (decide ((q : Int) = 0)) = true then (((allowedF R rs).getD q []).getD k 0) else max (((midW (outF (allowedF R rs) R.length q) ((allowedF R rs).getD q []) (decide ((q : Int) = 0)) k).getD k (0, 0)).2) (((allowedF R rs).getD q []).getD k 0)))])), (32, (Value.int .i64 (k : Int))), (31, v53), (9, (Value.int .i64 (k : Int))), (28, (Value.int .i64 (k : Int))), (27, (Value.int .i64 (R.length : Int))), (8, (bptr b83 0)), (5, (bptr b14 0)), (4, (bptr b9 0))] a112 := hA120.add (slot_ev hs_11 rfl); clear hA120
   clear hH116 hS115 hs_0 hs_1 hs_2 hs_3 hs_4 hs_5 hs_6 hs_7 hs_8 hs_9 hs_10 hs_11
   clear hr_0
   clear hv_0
   clear hr_1
   clear hv_1
   clear hr_2
   clear hv_2
   clear hr_3
   clear hv_3
   clear hr_4
   clear hv_4
   clear hr_5
   clear hv_5
   clear hr_6
   clear hv_6
   clear hr_7
   clear hv_7
   clear hr_8
   clear hv_8
   clear hr_9
   clear hv_9
   clear hr_10
   clear hv_10
   clear hr_11
   clear hv_11
   refine st hA121 (op_indexS rfl un_28 ty_42 (hA121.ev rfl) (i := k) (hA121.ev rfl) (SlAt.of_row (hS118.ok_row 5 rfl)) (by decide) (by first | omega | (simp only [midW_len, outF_len]; omega))) rfl rfl (by decide) fun a122 hA123 => ?_; clear hA121 a112
   refine sts hA123 (op_storeE hS118 rfl ty_42 (hA123.ev rfl) (hA123.ev rfl) (i := 5) rfl (vs := [(Value.int .i64 (if (decide ((q : Int) = 0)) = true then (((allowedF R rs).getD q []).getD k 0) else min (((midW (outF (allowedF R rs) R.length q) ((allowedF R rs).getD q []) (decide ((q : Int) = 0)) k).getD k (0, 0)).1) (((allowedF R rs).getD q []).getD k 0))), (Value.int .i64 (if (decide ((q : Int) = 0)) = true then (((allowedF R rs).getD q []).getD k 0) else max (((midW (outF (allowedF R rs) R.length q) ((allowedF R rs).getD q []) (decide ((q : Int) = 0)) k).getD k (0, 0)).2) (((allowedF R rs).getD q []).getD k 0)))]) rfl rfl rfl (by simp only [pairs_length, midW_len, outF_len]; omega) (by decide)) rfl rfl ?_
   intro _ w124 hS125 hA127; have hS126 := hS125.row_say (i := 5) rfl (n' := R.length) (xs' := (pairs ((midW (outF (allowedF R rs) R.length q) ((allowedF R rs).getD q []) (decide ((q : Int) = 0)) k).set k (if (decide ((q : Int) = 0)) = true then (((allowedF R rs).getD q []).getD k 0) else min (((midW (outF (allowedF R rs) R.length q) ((allowedF R rs).getD q []) (decide ((q : Int) = 0)) k).getD k (0, 0)).1) (((allowedF R rs).getD q []).getD k 0), if (decide ((q : Int) = 0)) = true then (((allowedF R rs).getD q []).getD k 0) else max (((midW (outF (allowedF R rs) R.length q) ((allowedF R rs).getD q []) (decide ((q : Int) = 0)) k).getD k (0, 0)).2) (((allowedF R rs).getD q []).getD k 0))))) rfl (pairs_set _ _ (_, _)); clear hS125 hA123 hS118
   refine wl_nil ?_
   refine blk_n ?_
   refine then_n ?_
   refine c_region ?_
   refine st hA127 (op_add rfl (hA127.ev rfl) (evc _ _) (by omega) (by omega)) rfl rfl (by decide) fun a128 hA129 => ?_; clear hA127 a122
   refine st hA129 (op_move rfl (hA129.ev rfl)) rfl rfl (by decide) fun a130 hA131 => ?_; clear hA129 a128
   refine wl_nil ?_
   exact then_n ⟨k + 1, ⟨hA131.as _ rfl, (hS126.row_say (i := 5) rfl rfl (congrArg pairs (midW_set (old := (outF (allowedF R rs) R.length q)) (l := (allowedF R rs).getD q []) (first := decide ((q : Int) = 0)) (b := k) (by rw [outF_len]; omega)))), by omega⟩, by omega⟩
  ·skip
   rw [decide_eq_false hb105] at hA104
   refine c_false hA104 rfl ?_
   refine c_exit ?_
   refine then_exit ?_
   refine then_exit ?_
   refine blk_hit ?_
   refine then_n ?_
   refine c_region ?_
   refine st hA104 (op_load1 rfl ty_3 (hA104.ev rfl) (hS102.bk 7 rfl) rfl) rfl rfl (by decide) fun a132 hA133 => ?_; clear hA104 a103
   refine st hA133 (op_add rfl (hA133.ev rfl) (evc _ _) (by omega) (by omega)) rfl rfl (by decide) fun a134 hA135 => ?_; clear hA133 a132
   refine sts hA135 (op_store hS102 rfl ty_3 (hA135.ev rfl) (hA135.ev rfl) (i := 7) rfl (vs := [(Value.int .i64 ((q : Int) + 1))]) rfl rfl rfl (Nat.le_of_ble_eq_true rfl)) rfl rfl ?_
   intro _ w136 hS137 hA138; clear hA135
   have hS139 : Sep NoB w w136 [(obR l75 (.loop (rc77 .busy none))), (marksR (D76 :: [])), G78, (blk b83 104 (ints ((allowedF R rs).getD q []))), (blk bx67 97 [(bptr bj27 0)]), (row v53 42 2 R.length (pairs (midW (outF (allowedF R rs) R.length q) ((allowedF R rs).getD q []) (decide ((q : Int) = 0)) k))), (blk bj27 119 [vr, vu, (Value.map (some bm28))]), (blk b14 3 [(Value.int .i64 ((q : Int) + 1))]), (blk b9 28 [v53]), (blk b4 33 [vr]), (sl vr 2 R.length (pairs R)), (sl vu 3 rs.length (vtrips (runV lv rs))), (segsR false lv rs)] := hS137; clear hS137 hS102
   refine wl_nil ?_
   refine blk_n ?_
   have hS140 : Sep NoB w w136 [(obR l75 (.loop (rc77 .busy none))), (marksR (D76 :: [])), G78, (blk bx67 97 [(bptr bj27 0)]), (row v53 42 2 R.length (pairs (midW (outF (allowedF R rs) R.length q) ((allowedF R rs).getD q []) (decide ((q : Int) = 0)) k))), (blk bj27 119 [vr, vu, (Value.map (some bm28))]), (blk b14 3 [(Value.int .i64 ((q : Int) + 1))]), (blk b9 28 [v53]), (blk b4 33 [vr]), (sl vr 2 R.length (pairs R)), (sl vu 3 rs.length (vtrips (runV lv rs))), (segsR false lv rs)] := hS139.keep [0, 1, 2, 4, 5, 6, 7, 8, 9, 10, 11, 12] (by decide) _ rfl rfl; clear hS139
   exact re_n ⟨_, rfl, rfl⟩ (hS140.row_say (i := 4) rfl rfl (by rw [outF_succ _ _ _ (by omega)]))
 intro L_ hL_ D145 a141 w142 hA144 hS143; obtain ⟨rfl⟩ := hL_; clear hA68 hS69
 refine blk_n ?_
 refine then_n ?_
 refine c_seq ?_
 have hA146 := hA144.as [(5, (bptr b14 0)), (4, (bptr b9 0))] rfl; clear hA144
 refine c_drawF mixed hA146 hS143 2 1 rfl rfl [[], []] [(fun (vs147 : Nat → Value) (v_ : Value) (rs_ : List Res) => v_ = v53 ∧ rs_ = []), (fun (vs147 : Nat → Value) (v_ : Value) (rs_ : List Res) => v_ = (Value.int .i64 ((allowedF R rs).length : Int)) ∧ rs_ = [])] (by decide +kernel) (by decide +kernel) (by decide +kernel) rfl rfl ⟨(fun _ _ _ _ _ h_ => h_), (fun _ _ _ _ _ h_ => h_), trivial⟩ ?_ ?_ ?_
 ·skip
  refine ⟨fun a w vs147 hA hS hd => ?_, ?_⟩
  ·skip
   exact opG_of rfl (vv (op_load1 rfl ty_28 (hA.ev rfl) (hS.bk 6 rfl) rfl) (And.intro rfl rfl))
  refine ⟨fun a w vs147 hA hS hd => ?_, ?_⟩
  ·skip
   exact opG_of rfl (vv (op_load1 rfl ty_3 (hA.ev rfl) (hS.bk 5 rfl) rfl) (And.intro rfl rfl))
  trivial
 ·skip
  intro a148 w149 vs147 rsf153 hA150 hH152 hS151; clear hA146 hS143
  obtain ⟨hs_0, hy_0⟩ := hH152 0 (by decide)
  obtain ⟨hv_0, hr_0⟩ := hy_0
  obtain ⟨hs_1, hy_1⟩ := hH152 1 (by decide)
  obtain ⟨hv_1, hr_1⟩ := hy_1
  have hS154 : Sep NoB w w149 [(marksR (D145 :: [])), (memo bm28 (KA rs)), (blk bx67 97 [(bptr bj27 0)]), (row v53 42 2 R.length (pairs (outF (allowedF R rs) R.length (allowedF R rs).length))), (blk bj27 119 [vr, vu, (Value.map (some bm28))]), (blk b14 3 [(Value.int .i64 ((allowedF R rs).length : Int))]), (blk b9 28 [v53]), (blk b4 33 [vr]), (sl vr 2 R.length (pairs R)), (sl vu 3 rs.length (vtrips (runV lv rs))), (segsR false lv rs)] := by rw [show catR rsf153 0 2 = ([] : List Res) by (try simp only [catR, hr_0, hr_1]); (try rfl)] at hS151; exact hS151
  rw [hv_0] at hs_0
  have hA155 : Fr 49 (marks (D145 :: [])) [(47, v53), (5, (bptr b14 0)), (4, (bptr b9 0))] a148 := hA150.add (slot_ev hs_0 rfl); clear hA150
  rw [hv_1] at hs_1
  have hA156 : Fr 49 (marks (D145 :: [])) [(48, (Value.int .i64 ((allowedF R rs).length : Int))), (47, v53), (5, (bptr b14 0)), (4, (bptr b9 0))] a148 := hA155.add (slot_ev hs_1 rfl); clear hA155
  clear hH152 hS151 hs_0 hs_1
  clear hr_0
  clear hv_0
  clear hr_1
  clear hv_1
  refine sts hA156 (op_store hS154 rfl ty_28 (hA156.ev rfl) (hA156.ev rfl) (i := 6) rfl (vs := [v53]) (isSl_cells (SlAt.isSl (SlAt.of_row (hS154.ok_row 3 rfl)))) rfl (all_c (SlAt.one (SlAt.of_row (hS154.ok_row 3 rfl))) all_n) (Nat.le_of_ble_eq_true rfl)) rfl rfl ?_
  intro _ w157 hS158 hA159; clear hA156
  have hS160 : Sep NoB w w157 [(marksR (D145 :: [])), (memo bm28 (KA rs)), (blk bx67 97 [(bptr bj27 0)]), (row v53 42 2 R.length (pairs (outF (allowedF R rs) R.length (allowedF R rs).length))), (blk bj27 119 [vr, vu, (Value.map (some bm28))]), (blk b14 3 [(Value.int .i64 ((allowedF R rs).length : Int))]), (blk b9 28 [v53]), (blk b4 33 [vr]), (sl vr 2 R.length (pairs R)), (sl vu 3 rs.length (vtrips (runV lv rs))), (segsR false lv rs)] := hS158; clear hS158 hS154
  refine sts hA159 (op_store hS160 rfl ty_3 (hA159.ev rfl) (hA159.ev rfl) (i := 5) rfl (vs := [(Value.int .i64 ((allowedF R rs).length : Int))]) rfl rfl rfl (Nat.le_of_ble_eq_true rfl)) rfl rfl ?_
  intro _ w161 hS162 hA163; clear hA159
  have hS164 : Sep NoB w w161 [(marksR (D145 :: [])), (memo bm28 (KA rs)), (blk bx67 97 [(bptr bj27 0)]), (row v53 42 2 R.length (pairs (outF (allowedF R rs) R.length (allowedF R rs).length))), (blk bj27 119 [vr, vu, (Value.map (some bm28))]), (blk b14 3 [(Value.int .i64 ((allowedF R rs).length : Int))]), (blk b9 28 [v53]), (blk b4 33 [vr]), (sl vr 2 R.length (pairs R)), (sl vu 3 rs.length (vtrips (runV lv rs))), (segsR false lv rs)] := hS162; clear hS162 hS160
  refine st hA163 (op_assign rfl (evc _ _)) rfl rfl (by decide) fun a165 hA166 => ?_; clear hA163 a148
  refine wl_nil ?_
  refine then_n ?_
  refine c_ret ?_
  refine fin_runM hA166 (.inl rfl) hS164 ?_
  intro w167 hS168; clear hS164
  refine ⟨_, (run_results3 hA166 rfl (.cell1 rfl ty_28 (hS168.bk 5 rfl) rfl) (.cell1 rfl ty_3 (hS168.bk 4 rfl) rfl) (.tmp rfl)), ?_⟩
  exact ⟨_, rfl, hS168.keep [2] (by decide) _ rfl rfl⟩
 ·skip
  intro a169 w170 vs147 rsf174 hA171 hH173 hrq hS172; clear hA146 hS143
  obtain ⟨hs_0, hy_0⟩ := hH173 0 (by decide) (by decide)
  obtain ⟨hv_0, hr_0⟩ := hy_0
  have hS175 : Sep NoB w w170 [(marksR (D145 :: [])), (memo bm28 (KA rs)), (blk bx67 97 [(bptr bj27 0)]), (row v53 42 2 R.length (pairs (outF (allowedF R rs) R.length (allowedF R rs).length))), (blk bj27 119 [vr, vu, (Value.map (some bm28))]), (blk b14 3 [(Value.int .i64 ((allowedF R rs).length : Int))]), (blk b9 28 [v53]), (blk b4 33 [vr]), (sl vr 2 R.length (pairs R)), (sl vu 3 rs.length (vtrips (runV lv rs))), (segsR false lv rs)] := by rw [show catR rsf174 0 2 = ([] : List Res) by (try simp only [catR, hr_0, hrq]); (try rfl)] at hS172; exact hS172
  rw [hv_0] at hs_0
  have hA176 : Fr 49 (marks (D145 :: [])) [(47, v53), (5, (bptr b14 0)), (4, (bptr b9 0))] a169 := hA171.add (slot_ev hs_0 rfl); clear hA171
  clear hH173 hS172 hs_0 hrq
  clear hr_0
  clear hv_0
  refine sts hA176 (op_store hS175 rfl ty_28 (hA176.ev rfl) (hA176.ev rfl) (i := 6) rfl (vs := [v53]) (isSl_cells (SlAt.isSl (SlAt.of_row (hS175.ok_row 3 rfl)))) rfl (all_c (SlAt.one (SlAt.of_row (hS175.ok_row 3 rfl))) all_n) (Nat.le_of_ble_eq_true rfl)) rfl rfl ?_
  intro _ w177 hS178 hA179; clear hA176
  have hS180 : Sep NoB w w177 [(marksR (D145 :: [])), (memo bm28 (KA rs)), (blk bx67 97 [(bptr bj27 0)]), (row v53 42 2 R.length (pairs (outF (allowedF R rs) R.length (allowedF R rs).length))), (blk bj27 119 [vr, vu, (Value.map (some bm28))]), (blk b14 3 [(Value.int .i64 ((allowedF R rs).length : Int))]), (blk b9 28 [v53]), (blk b4 33 [vr]), (sl vr 2 R.length (pairs R)), (sl vu 3 rs.length (vtrips (runV lv rs))), (segsR false lv rs)] := hS178; clear hS178 hS175
  refine st hA179 (op_load1 rfl ty_3 (hA179.ev rfl) (hS180.bk 5 rfl) rfl) rfl rfl (by decide) fun a181 hA182 => ?_; clear hA179 a169
  refine sts hA182 (op_store hS180 rfl ty_3 (hA182.ev rfl) (hA182.ev rfl) (i := 5) rfl (vs := [(Value.int .i64 ((allowedF R rs).length : Int))]) rfl rfl rfl (Nat.le_of_ble_eq_true rfl)) rfl rfl ?_
  intro _ w183 hS184 hA185; clear hA182
  have hS186 : Sep NoB w w183 [(marksR (D145 :: [])), (memo bm28 (KA rs)), (blk bx67 97 [(bptr bj27 0)]), (row v53 42 2 R.length (pairs (outF (allowedF R rs) R.length (allowedF R rs).length))), (blk bj27 119 [vr, vu, (Value.map (some bm28))]), (blk b14 3 [(Value.int .i64 ((allowedF R rs).length : Int))]), (blk b9 28 [v53]), (blk b4 33 [vr]), (sl vr 2 R.length (pairs R)), (sl vu 3 rs.length (vtrips (runV lv rs))), (segsR false lv rs)] := hS184; clear hS184 hS180
  refine st hA185 (op_assign rfl (evc _ _)) rfl rfl (by decide) fun a187 hA188 => ?_; clear hA185 a181
  refine wl_nil ?_
  refine then_n ?_
  refine c_ret ?_
  refine fin_runM hA188 (.inl rfl) hS186 ?_
  intro w189 hS190; clear hS186
  refine ⟨_, (run_results3 hA188 rfl (.cell1 rfl ty_28 (hS190.bk 5 rfl) rfl) (.cell1 rfl ty_3 (hS190.bk 4 rfl) rfl) (.tmp rfl)), ?_⟩
  exact ⟨_, rfl, hS190.keep [2] (by decide) _ rfl rfl⟩
end Go.Proofs.Ytkkglkdnnfegkaa

namespace Go.Proofs.Ytkkglkdnnfegkaa
open Go.RowKit Go.Eng
def allSegB (n : Nat) (plan : List Seg) : Bool := (List.range plan.length).all fun i => segB n (plan.getD i (0, 0, 0))
def planF (R : List (Int × Int)) (rs : List RunD) (plan : List Seg) : Int :=
  if possF R rs ≠ 0 then possF R rs else if plan.length ≤ 8 ∧ allSegB R.length plan = true then 0 else 2
theorem plan_p {R : List (Int × Int)} {rs : List RunD} {plan : List Seg} (h : possF R rs ≠ 0) : planF R rs plan = possF R rs := if_pos h
theorem plan_0 {R : List (Int × Int)} {rs : List RunD} {plan : List Seg} (h : possF R rs = 0) (h1 : plan.length ≤ 8) (h2 : allSegB R.length plan = true) : planF R rs plan = 0 := by
  unfold planF; rw [if_neg (fun hh => hh h), if_pos ⟨h1, h2⟩]
theorem plan_2 {R : List (Int × Int)} {rs : List RunD} {plan : List Seg} (h : possF R rs = 0) (h1 : ¬ (plan.length ≤ 8 ∧ allSegB R.length plan = true)) : planF R rs plan = 2 := by
  unfold planF; rw [if_neg (fun hh => hh h), if_neg h1]
theorem plan_2a {R : List (Int × Int)} {rs : List RunD} {plan : List Seg} (h : possF R rs = 0) (h1 : ¬ plan.length ≤ 8) : planF R rs plan = 2 := plan_2 h (fun hh => h1 hh.1)
theorem plan_2b {R : List (Int × Int)} {rs : List RunD} {plan : List Seg} (h : possF R rs = 0) (h1 : allSegB R.length plan = false) : planF R rs plan = 2 := plan_2 h (fun hh => by rw [h1] at hh; exact absurd hh.2 (by decide))
theorem plan_is {R : List (Int × Int)} {rs : List RunD} {plan : List Seg} (h : planF R rs plan = 0) : possF R rs = 0 ∧ plan.length ≤ 8 ∧ ∀ i, i < plan.length → SegV R.length (plan.getD i (0, 0, 0)) := by
  unfold planF at h
  by_cases hp : possF R rs = 0
  · rw [if_neg (fun hh => hh hp)] at h
    by_cases h1 : plan.length ≤ 8 ∧ allSegB R.length plan = true
    · exact ⟨hp, h1.1, fun i hi => segV_of (List.all_eq_true.1 h1.2 i (List.mem_range.2 hi))⟩
    · rw [if_neg h1] at h; exact absurd h (by decide)
  · rw [if_pos hp] at h; exact absurd h hp
def leastF (plan : List Seg) (A : List (List Int)) : Nat → List Int
  | 0 => [0, 0, 0]
  | k + 1 => if k = 0 ∨ stLo plan (A.getD k []) < stLo plan (leastF plan A k) then A.getD k [] else leastF plan A k
def mostF (plan : List Seg) (A : List (List Int)) : Nat → List Int
  | 0 => [0, 0, 0]
  | k + 1 => if k = 0 ∨ stHi plan (mostF plan A k) < stHi plan (A.getD k []) then A.getD k [] else mostF plan A k
section
variable {plan : List Seg} {A : List (List Int)} {q : Nat}
theorem least_a (h : decide (q = 0) = true) : leastF plan A (q + 1) = A.getD q [] := if_pos (.inl (of_decide_eq_true h))
theorem least_b (h : stLo plan (A.getD q []) < stLo plan (leastF plan A q)) : leastF plan A (q + 1) = A.getD q [] := if_pos (.inr h)
theorem least_c (h : decide (q = 0) = false) (h2 : ¬ stLo plan (A.getD q []) < stLo plan (leastF plan A q)) : leastF plan A (q + 1) = leastF plan A q := if_neg (fun hh => hh.elim (of_decide_eq_false h) h2)
theorem most_a (h : decide (q = 0) = true) : mostF plan A (q + 1) = A.getD q [] := if_pos (.inl (of_decide_eq_true h))
theorem most_b (h : stHi plan (mostF plan A q) < stHi plan (A.getD q [])) : mostF plan A (q + 1) = A.getD q [] := if_pos (.inr h)
theorem most_c (h : decide (q = 0) = false) (h2 : ¬ stHi plan (mostF plan A q) < stHi plan (A.getD q [])) : mostF plan A (q + 1) = mostF plan A q := if_neg (fun hh => hh.elim (of_decide_eq_false h) h2)
theorem least_rates (hA : ∀ k, k < A.length → RatesV (A.getD k [])) : ∀ q, q ≤ A.length → RatesV (leastF plan A q)
  | 0, _ => zero_rates
  | q + 1, h => by
    unfold leastF; split
    · exact hA q (by omega)
    · exact least_rates hA q (by omega)
theorem most_rates (hA : ∀ k, k < A.length → RatesV (A.getD k [])) : ∀ q, q ≤ A.length → RatesV (mostF plan A q)
  | 0, _ => zero_rates
  | q + 1, h => by
    unfold mostF; split
    · exact hA q (by omega)
    · exact most_rates hA q (by omega)
end
def leastR (R : List (Int × Int)) (rs : List RunD) (plan : List Seg) : List Int := leastF plan (allowedF R rs) (allowedF R rs).length
def mostR (R : List (Int × Int)) (rs : List RunD) (plan : List Seg) : List Int := mostF plan (allowedF R rs) (allowedF R rs).length
theorem leastR_rates {R : List (Int × Int)} {rs : List RunD} {plan : List Seg} (hR : MatV R) : RatesV (leastR R rs plan) := least_rates (fun _ hk => (allowed_rates hR hk).1) _ (Nat.le_refl _)
theorem mostR_rates {R : List (Int × Int)} {rs : List RunD} {plan : List Seg} (hR : MatV R) : RatesV (mostR R rs plan) := most_rates (fun _ hk => (allowed_rates hR hk).1) _ (Nat.le_refl _)
def lifeU (A : List (List Int)) (band : Nat) (s : Int) : Nat → (Int × Int) × Bool
  | 0 => ((-1, -1), false)
  | k + 1 =>
    if hoursF ((A.getD k []).getD band 0) s = -1 then ((lifeU A band s k).1, true)
    else (withF (lifeU A band s k).1 (hoursF ((A.getD k []).getD band 0) s) (decide ((lifeU A band s k).1.1 = -1) && decide ((lifeU A band s k).1.2 = -1)), (lifeU A band s k).2)
theorem lifeU_y {A : List (List Int)} {band q : Nat} {s : Int} (h : hoursF ((A.getD q []).getD band 0) s = -1) : lifeU A band s (q + 1) = ((lifeU A band s q).1, true) := if_pos h
theorem lifeU_n {A : List (List Int)} {band q : Nat} {s : Int} (h : ¬ hoursF ((A.getD q []).getD band 0) s = -1) : lifeU A band s (q + 1) = (withF (lifeU A band s q).1 (hoursF ((A.getD q []).getD band 0) s) (decide ((lifeU A band s q).1.1 = -1) && decide ((lifeU A band s q).1.2 = -1)), (lifeU A band s q).2) := if_neg h
def lifeR (A : List (List Int)) (band : Nat) (s : Int) : Int × Int := ((lifeU A band s A.length).1.1, if (lifeU A band s A.length).2 = true then -1 else (lifeU A band s A.length).1.2)
def lifeE (R : List (Int × Int)) (rs : List RunD) (band s : Int) : Int :=
  if possF R rs ≠ 0 then possF R rs else if (0 ≤ band ∧ band ≤ (R.length : Int) - 1) ∧ 0 ≤ s ∧ s ≤ 10000000000 then 0 else 2
theorem life_p {R : List (Int × Int)} {rs : List RunD} {band s : Int} (h : possF R rs ≠ 0) : lifeE R rs band s = possF R rs := if_pos h
theorem life_0 {R : List (Int × Int)} {rs : List RunD} {band s : Int} (h : possF R rs = 0) (h1 : (0 ≤ band ∧ band ≤ (R.length : Int) - 1) ∧ 0 ≤ s ∧ s ≤ 10000000000) : lifeE R rs band s = 0 := by
  unfold lifeE; rw [if_neg (fun hh => hh h), if_pos h1]
theorem life_2 {R : List (Int × Int)} {rs : List RunD} {band s : Int} (h : possF R rs = 0) (h1 : ¬ ((0 ≤ band ∧ band ≤ (R.length : Int) - 1) ∧ 0 ≤ s ∧ s ≤ 10000000000)) : lifeE R rs band s = 2 := by
  unfold lifeE; rw [if_neg (fun hh => hh h), if_neg h1]
end Go.Proofs.Ytkkglkdnnfegkaa

namespace Go.Proofs.Ytkkglkdnnfegkaa
open Go.RowKit Go.Shelf Go.Eng
theorem plan_p_ok (R : List (Int × Int)) (rs : List RunD) (lv : List Value) (vr vu : Value) (w : World) (hm : SlAt w vr 2 R.length (pairs R)) (hx : RunsAt w vu lv rs) (hlen : R.length ≤ 1000000) (hrl : rs.length ≤ 1000000) (plan : List Seg) (vp : Value) (hp : SlAt w vp 3 plan.length (trips plan)) (hpl : plan.length ≤ 1000000) (he : possF R rs ≠ 0) :
  Calls Try.prog 58 #[(Value.agg #[vr]), vu, vp] w (Ret fun v w' => v = .tuple #[.pointer none, .int .i64 (possF R rs)] ∧ Ext NoB w w') := by
 refine calls_enter Try.func58 rfl fun a0 hA0 => ?_
 replace hA0 : Fr 32 [] [(0, (Value.agg #[vr])), (1, vu), (2, vp)] a0 := hA0
 have hS0 : Sep NoB w w [(sl vr 2 R.length (pairs R)), (sl vu 3 rs.length (vtrips (runV lv rs))), (segsR false lv rs), (sl vp 3 plan.length (trips plan))] := sep_ro ⟨rfl, hm, rfl, hx.runs, rfl, ⟨hx.len, hx.segs⟩, rfl, hp, trivial⟩
 refine c_seq ?_
 refine c_region ?_
 refine stw hA0 (op_box hS0 rfl (hA0.ev rfl) (cs := [vr]) rfl) rfl rfl (by decide) ?_
 rintro a1 _ w3 ⟨b4, rfl, hS5⟩ hA2; clear hA0 hS0 a0
 refine st hA2 (op_assign rfl (evc _ _)) rfl rfl (by decide) fun a6 hA7 => ?_; clear hA2 a1
 refine st hA7 (op_assign rfl (evc _ _)) rfl rfl (by decide) fun a8 hA9 => ?_; clear hA7 a6
 refine wl_nil ?_
 refine then_n ?_
 refine c_seq ?_
 refine c_region ?_
 refine st hA9 (op_loadA rfl ty_33 (hA9.ev rfl) (hS5.bk 0 rfl) (l := [vr]) rfl rfl) rfl rfl (by decide) fun a10 hA11 => ?_; clear hA9 a8
 refine st hA11 (op_move rfl (hA11.ev rfl)) rfl rfl (by decide) fun a12 hA13 => ?_; clear hA11 a10
 refine stw hA13 (op_call rfl en_53 (ev2 (hA13.ev rfl) (hA13.ev rfl)) (poss_bad R rs lv vr vu _ (hm.step hS5.ext) (hx.step hS5.ext) (by omega) (by omega) he)) rfl rfl (by decide) ?_
 rintro a14 _ w16 ⟨rfl, hE17⟩ hA15; have hS18 := hS5.step hE17; clear hE17 hA13 hS5 a12
 refine st hA15 (op_move rfl (hA15.ev rfl)) rfl rfl (by decide) fun a19 hA20 => ?_; clear hA15 a14
 refine st hA20 (op_extract rfl (hA20.ev rfl) rfl) rfl rfl (by decide) fun a21 hA22 => ?_; clear hA20 a19
 refine st hA22 (op_extract rfl (hA22.ev rfl) rfl) rfl rfl (by decide) fun a23 hA24 => ?_; clear hA22 a21
 refine st hA24 (op_assign rfl (hA24.ev rfl)) rfl rfl (by decide) fun a25 hA26 => ?_; clear hA24 a23
 refine st hA26 (op_assign rfl (hA26.ev rfl)) rfl rfl (by decide) fun a27 hA28 => ?_; clear hA26 a25
 refine wl_nil ?_
 refine then_n ?_
 refine c_seq ?_
 refine c_block ?_
 refine c_seq ?_
 have hA29 := hA28.as [(9, (Value.int .i64 (possF R rs))), (8, (Value.pointer none)), (3, (bptr b4 0)), (2, vp)] rfl; clear hA28
 refine c_region ?_
 refine st hA29 (op_move rfl (hA29.ev rfl)) rfl rfl (by decide) fun a30 hA31 => ?_; clear hA29 a27
 refine st hA31 (op_neq rfl (hA31.ev rfl) (evc _ _)) rfl rfl (by decide) fun a32 hA33 => ?_; clear hA31 a30
 have hd34 : ¬ ((possF R rs) = 0) := he
 rw [decide_eq_false hd34] at hA33
 refine st hA33 (op_assign rfl (hA33.ev rfl)) rfl rfl (by decide) fun a35 hA36 => ?_; clear hA33 a32
 refine wl_nil ?_
 refine then_n ?_
 refine c_true hA36 rfl ?_
 refine c_seq ?_
 have hA37 := hA36.as [(9, (Value.int .i64 (possF R rs)))] rfl; clear hA36
 refine c_region ?_
 refine st hA37 (op_move rfl (hA37.ev rfl)) rfl rfl (by decide) fun a38 hA39 => ?_; clear hA37 a35
 refine st hA39 (op_assign rfl (evc _ _)) rfl rfl (by decide) fun a40 hA41 => ?_; clear hA39 a38
 refine st hA41 (op_assign rfl (hA41.ev rfl)) rfl rfl (by decide) fun a42 hA43 => ?_; clear hA41 a40
 refine wl_nil ?_
 refine then_n ?_
 refine c_ret ?_
 refine blk_ret ?_
 refine then_ret ?_
 refine fin_run hA43 (.inl rfl) (run_results2 hA43 rfl (.tmp rfl) (.tmp rfl)) ?_
 exact ⟨rfl, hS18.ext⟩
theorem plan_any (R : List (Int × Int)) (rs : List RunD) (lv : List Value) (vr vu : Value) (w : World) (hm : SlAt w vr 2 R.length (pairs R)) (hx : RunsAt w vu lv rs) (hlen : R.length ≤ 1000000) (hrl : rs.length ≤ 1000000) (plan : List Seg) (vp : Value) (hp : SlAt w vp 3 plan.length (trips plan)) (hpl : plan.length ≤ 1000000) (he : possF R rs = 0) :
  Calls Try.prog 58 #[(Value.agg #[vr]), vu, vp] w (Ret fun v w' => (planF R rs plan = 2 ∧ v = .tuple #[.pointer none, .int .i64 2] ∧ Ext NoB w w') ∨ (planF R rs plan = 0 ∧ ∃ bj bm, v = .tuple #[bptr bj 0, .int .i64 0] ∧ Sep NoB w w' [blk bj 119 [vr, vu, .map (some bm)], memo bm (KA rs)])) := by
 refine calls_enter Try.func58 rfl fun a0 hA0 => ?_
 replace hA0 : Fr 32 [] [(0, (Value.agg #[vr])), (1, vu), (2, vp)] a0 := hA0
 have hS0 : Sep NoB w w [(sl vr 2 R.length (pairs R)), (sl vu 3 rs.length (vtrips (runV lv rs))), (segsR false lv rs), (sl vp 3 plan.length (trips plan))] := sep_ro ⟨rfl, hm, rfl, hx.runs, rfl, ⟨hx.len, hx.segs⟩, rfl, hp, trivial⟩
 refine c_seq ?_
 refine c_region ?_
 refine stw hA0 (op_box hS0 rfl (hA0.ev rfl) (cs := [vr]) rfl) rfl rfl (by decide) ?_
 rintro a1 _ w3 ⟨b4, rfl, hS5⟩ hA2; clear hA0 hS0 a0
 refine st hA2 (op_assign rfl (evc _ _)) rfl rfl (by decide) fun a6 hA7 => ?_; clear hA2 a1
 refine st hA7 (op_assign rfl (evc _ _)) rfl rfl (by decide) fun a8 hA9 => ?_; clear hA7 a6
 refine wl_nil ?_
 refine then_n ?_
 refine c_seq ?_
 refine c_region ?_
 refine st hA9 (op_loadA rfl ty_33 (hA9.ev rfl) (hS5.bk 0 rfl) (l := [vr]) rfl rfl) rfl rfl (by decide) fun a10 hA11 => ?_; clear hA9 a8
 refine st hA11 (op_move rfl (hA11.ev rfl)) rfl rfl (by decide) fun a12 hA13 => ?_; clear hA11 a10
 refine stw hA13 (op_call rfl en_53 (ev2 (hA13.ev rfl) (hA13.ev rfl)) (poss_ok R rs lv vr vu _ (hm.step hS5.ext) (hx.step hS5.ext) (by omega) (by omega) he)) rfl rfl (by decide) ?_
 rintro a14 _ w16 ⟨bj19, bm20, rfl, hT17⟩ hA15; have hS18 := hS5.callS hT17 rfl; clear hT17 hA13 hS5 a12
 refine st hA15 (op_move rfl (hA15.ev rfl)) rfl rfl (by decide) fun a21 hA22 => ?_; clear hA15 a14
 refine st hA22 (op_extract rfl (hA22.ev rfl) rfl) rfl rfl (by decide) fun a23 hA24 => ?_; clear hA22 a21
 refine st hA24 (op_extract rfl (hA24.ev rfl) rfl) rfl rfl (by decide) fun a25 hA26 => ?_; clear hA24 a23
 refine st hA26 (op_assign rfl (hA26.ev rfl)) rfl rfl (by decide) fun a27 hA28 => ?_; clear hA26 a25
 refine st hA28 (op_assign rfl (hA28.ev rfl)) rfl rfl (by decide) fun a29 hA30 => ?_; clear hA28 a27
 refine wl_nil ?_
 refine then_n ?_
 refine c_seq ?_
 refine c_block ?_
 refine c_seq ?_
 have hA31 := hA30.as [(9, (Value.int .i64 0)), (8, (bptr bj19 0)), (3, (bptr b4 0)), (2, vp)] rfl; clear hA30
 refine c_region ?_
 refine st hA31 (op_move rfl (hA31.ev rfl)) rfl rfl (by decide) fun a32 hA33 => ?_; clear hA31 a29
 refine st hA33 (op_neq rfl (hA33.ev rfl) (evc _ _)) rfl rfl (by decide) fun a34 hA35 => ?_; clear hA33 a32
 refine st hA35 (op_assign rfl (hA35.ev rfl)) rfl rfl (by decide) fun a36 hA37 => ?_; clear hA35 a34
 refine wl_nil ?_
 refine then_n ?_
 refine c_false hA37 rfl ?_
 refine c_seq ?_
 refine c_region ?_
 refine st hA37 (op_move rfl (hA37.ev rfl)) rfl rfl (by decide) fun a38 hA39 => ?_; clear hA37 a36
 refine st hA39 (op_lenS rfl un_58 (hA39.ev rfl) (hS18.sk 6 rfl)) rfl rfl (by decide) fun a40 hA41 => ?_; clear hA39 a38
 refine st hA41 (op_gtr rfl (hA41.ev rfl) (evc _ _)) rfl rfl (by decide) fun a42 hA43 => ?_; clear hA41 a40
 refine st hA43 (op_move rfl (hA43.ev rfl)) rfl rfl (by decide) fun a44 hA45 => ?_; clear hA43 a42
 by_cases hb46 : 8 < (plan.length : Int)
 ·skip
  rw [decide_eq_true hb46] at hA45
  refine skp hA45 rfl rfl rfl rfl rfl (by decide) fun a47 hA48 => ?_; clear hA45 a44
  refine skp hA48 rfl rfl rfl rfl rfl (by decide) fun a49 hA50 => ?_; clear hA48 a47
  refine skp hA50 rfl rfl rfl rfl rfl (by decide) fun a51 hA52 => ?_; clear hA50 a49
  refine skp hA52 rfl rfl rfl rfl rfl (by decide) fun a53 hA54 => ?_; clear hA52 a51
  refine skp hA54 rfl rfl rfl rfl rfl (by decide) fun a55 hA56 => ?_; clear hA54 a53
  refine st hA56 (op_pick_t rfl (hA56.ev rfl) (evc _ _)) rfl rfl (by decide) fun a57 hA58 => ?_; clear hA56 a55
  refine st hA58 (op_assign rfl (hA58.ev rfl)) rfl rfl (by decide) fun a59 hA60 => ?_; clear hA58 a57
  refine wl_nil ?_
  refine then_n ?_
  refine c_true hA60 rfl ?_
  refine c_seq ?_
  have hA61 := hA60.as [] rfl; clear hA60
  refine c_region ?_
  refine st hA61 (op_assign rfl (evc _ _)) rfl rfl (by decide) fun a62 hA63 => ?_; clear hA61 a59
  refine st hA63 (op_assign rfl (evc _ _)) rfl rfl (by decide) fun a64 hA65 => ?_; clear hA63 a62
  refine wl_nil ?_
  refine then_n ?_
  refine c_ret ?_
  refine blk_ret ?_
  refine then_ret ?_
  refine fin_run hA65 (.inl rfl) (run_results2 hA65 rfl (.tmp rfl) (.tmp rfl)) ?_
  exact .inl ⟨by first | exact plan_2a he (by omega) | exact plan_2b he (by assumption), rfl, hS18.ext⟩
 ·skip
  rw [decide_eq_false hb46] at hA45
  refine stg hA45 (op_move rfl (hA45.ev rfl)) rfl rfl rfl rfl (by decide) fun a66 hA67 => ?_; clear hA45 a44
  refine stg hA67 (op_loadA rfl ty_33 (hA67.ev rfl) (hS18.bk 2 rfl) (l := [vr]) rfl rfl) rfl rfl rfl rfl (by decide) fun a68 hA69 => ?_; clear hA67 a66
  refine stg hA69 (op_makeFunc rfl (ev1 (hA69.ev rfl)) ev0) rfl rfl rfl rfl (by decide) fun a70 hA71 => ?_; clear hA69 a68
  refine stwg hA71 (op_call rfl en_79 (ev2 (hA71.ev rfl) (hA71.ev rfl)) (callsB (all_seg plan _ 80 #[(Value.agg #[vr])] #[] (fun i => segB R.length (plan.getD i (0, 0, 0))) _ (hS18.sk 6 rfl) (by omega) ⟨en_80, fun i hi W hW => segment_ok R vr _ _ _ W (hm.step (hS18.ext.trans hW)) hlen⟩) (allSegB R.length plan) rfl)) rfl rfl rfl rfl (by decide) ?_
  rintro a72 _ w74 ⟨rfl, hE75⟩ hA73; have hS76 := hS18.step hE75; clear hE75 hA71 hS18 a70
  refine stg hA73 (op_not rfl (hA73.ev rfl)) rfl rfl rfl rfl (by decide) fun a77 hA78 => ?_; clear hA73 a72
  refine st hA78 (op_pick_f rfl (hA78.ev rfl) (hA78.ev rfl)) rfl rfl (by decide) fun a79 hA80 => ?_; clear hA78 a77
  refine st hA80 (op_assign rfl (hA80.ev rfl)) rfl rfl (by decide) fun a81 hA82 => ?_; clear hA80 a79
  refine wl_nil ?_
  refine then_n ?_
  rcases Bool.eq_false_or_eq_true ((allSegB R.length plan)) with hb83 | hb83
  ·skip
   rw [hb83] at hA82
   refine c_false hA82 rfl ?_
   refine c_skip ?_
   refine blk_n ?_
   refine then_n ?_
   refine c_seq ?_
   have hA84 := hA82.as [(8, (bptr bj19 0))] rfl; clear hA82
   refine c_region ?_
   refine st hA84 (op_move rfl (hA84.ev rfl)) rfl rfl (by decide) fun a85 hA86 => ?_; clear hA84 a81
   refine st hA86 (op_assign rfl (hA86.ev rfl)) rfl rfl (by decide) fun a87 hA88 => ?_; clear hA86 a85
   refine st hA88 (op_assign rfl (evc _ _)) rfl rfl (by decide) fun a89 hA90 => ?_; clear hA88 a87
   refine wl_nil ?_
   refine then_n ?_
   refine c_ret ?_
   refine fin_run hA90 (.inl rfl) (run_results2 hA90 rfl (.tmp rfl) (.tmp rfl)) ?_
   exact .inr ⟨plan_0 he (by omega) (by assumption), _, _, rfl, hS76.keep [0, 1] (by decide) _ rfl rfl⟩
  ·skip
   rw [hb83] at hA82
   refine c_true hA82 rfl ?_
   refine c_seq ?_
   have hA91 := hA82.as [] rfl; clear hA82
   refine c_region ?_
   refine st hA91 (op_assign rfl (evc _ _)) rfl rfl (by decide) fun a92 hA93 => ?_; clear hA91 a81
   refine st hA93 (op_assign rfl (evc _ _)) rfl rfl (by decide) fun a94 hA95 => ?_; clear hA93 a92
   refine wl_nil ?_
   refine then_n ?_
   refine c_ret ?_
   refine blk_ret ?_
   refine then_ret ?_
   refine fin_run hA95 (.inl rfl) (run_results2 hA95 rfl (.tmp rfl) (.tmp rfl)) ?_
   exact .inl ⟨by first | exact plan_2a he (by omega) | exact plan_2b he (by assumption), rfl, hS76.ext⟩
theorem plan_bad (R : List (Int × Int)) (rs : List RunD) (lv : List Value) (vr vu : Value) (w : World) (hm : SlAt w vr 2 R.length (pairs R)) (hx : RunsAt w vu lv rs) (hlen : R.length ≤ 1000000) (hrl : rs.length ≤ 1000000) (plan : List Seg) (vp : Value) (hp : SlAt w vp 3 plan.length (trips plan)) (hpl : plan.length ≤ 1000000) (he : planF R rs plan ≠ 0) : Calls Try.prog 58 #[.agg #[vr], vu, vp] w (Ret fun v w' => v = .tuple #[.pointer none, .int .i64 (planF R rs plan)] ∧ Ext NoB w w') := by
 by_cases h0 : possF R rs = 0
 ·exact (plan_any R rs lv vr vu w hm hx hlen hrl plan vp hp hpl h0).mono (Ret.mono fun v w' h => by
   rcases h with ⟨h1, h⟩ | ⟨h, _⟩
   ·rw [h1]; exact h
   ·exact absurd h he)
 ·have := plan_p_ok R rs lv vr vu w hm hx hlen hrl plan vp hp hpl h0
  rw [plan_p h0]; exact this
theorem plan_ok (R : List (Int × Int)) (rs : List RunD) (lv : List Value) (vr vu : Value) (w : World) (hm : SlAt w vr 2 R.length (pairs R)) (hx : RunsAt w vu lv rs) (hlen : R.length ≤ 1000000) (hrl : rs.length ≤ 1000000) (plan : List Seg) (vp : Value) (hp : SlAt w vp 3 plan.length (trips plan)) (hpl : plan.length ≤ 1000000) (he : planF R rs plan = 0) : Calls Try.prog 58 #[.agg #[vr], vu, vp] w (Ret fun v w' => ∃ bj bm, v = .tuple #[bptr bj 0, .int .i64 0] ∧ Sep NoB w w' [blk bj 119 [vr, vu, .map (some bm)], memo bm (KA rs)]) :=
 (plan_any R rs lv vr vu w hm hx hlen hrl plan vp hp hpl (plan_is he).1).mono (Ret.mono fun v w' h => by
  rcases h with ⟨h, _⟩ | ⟨_, h⟩
  ·rw [he] at h; exact absurd h (by decide)
  ·exact h)
end Go.Proofs.Ytkkglkdnnfegkaa

namespace Go.Proofs.Ytkkglkdnnfegkaa
open Go.RowKit Go.Shelf Go.Eng
theorem ty_4 : tyK Try.prog 4 = some (false, 1) := by kernel_rfl
theorem bd_fv_42_0_i64i64 (x0 x1 : Int) (w : World) : (Instr.field 42 (.agg #[(.int .i64 x0), (.int .i64 x1)]) 0).run Try.prog w = .ok (.int .i64 x0) w := by kernel_rfl
theorem bd_fv_42_1_i64i64 (x0 x1 : Int) (w : World) : (Instr.field 42 (.agg #[(.int .i64 x0), (.int .i64 x1)]) 1).run Try.prog w = .ok (.int .i64 x1) w := by kernel_rfl
theorem ends_ok (bj bm : Nat) (R : List (Int × Int)) (rs : List RunD) (lv : List Value) (vr vu vp : Value) (plan : List Seg) (w : World) (hR : MatV R) (hV : RunsV R.length rs) (hl : lv.length = rs.length) (hpl : plan.length ≤ 8) (hs : ∀ i, i < plan.length → SegV R.length (plan.getD i (0, 0, 0))) (hJ : Sep (fun b => b = bm) w w [(memo bm (KA rs)), (rob bj 119 [vr, vu, (Value.map (some bm))]), (sl vr 2 R.length (pairs R)), (sl vu 3 rs.length (vtrips (runV lv rs))), (segsR false lv rs), (sl vp 3 plan.length (trips plan))]) :
  Calls Try.prog 59 #[(bptr bj 0), vp] w (Ret fun v w' => v = .tuple #[.agg (ints (leastR R rs plan)).toArray, .agg (ints (mostR R rs plan)).toArray] ∧ Ext (fun b => b = bm) w w' ∧ (memo bm (KA rs)).p w') := by
 refine calls_enterM Try.func59 rfl fun a0 hA0 => ?_
 replace hA0 : Fr 43 (marks []) [(0, (bptr bj 0)), (1, vp)] a0 := hA0
 have hS0 : Sep (fun b => b = bm) w w [(marksR []), (memo bm (KA rs)), (rob bj 119 [vr, vu, (Value.map (some bm))]), (sl vr 2 R.length (pairs R)), (sl vu 3 rs.length (vtrips (runV lv rs))), (segsR false lv rs), (sl vp 3 plan.length (trips plan))] := sep_marks (hJ)
 refine c_seq ?_
 refine c_region ?_
 refine stw hA0 (op_box hS0 rfl (hA0.ev rfl) (cs := [vp]) (isSl_cells (SlAt.isSl (hS0.sk 6 rfl)))) rfl rfl (by decide) ?_
 rintro a1 _ w3 ⟨b4, rfl, hS5⟩ hA2; clear hA0 hS0 a0
 refine stw hA2 (op_alloc hS5 rfl ze_104 (cs := (ints ([0, 0, 0]))) rfl) rfl rfl (by decide) ?_
 rintro a6 _ w8 ⟨b9, rfl, hS10⟩ hA7; clear hA2 hS5 a1
 refine stw hA7 (op_alloc hS10 rfl ze_104 (cs := (ints ([0, 0, 0]))) rfl) rfl rfl (by decide) ?_
 rintro a11 _ w13 ⟨b14, rfl, hS15⟩ hA12; clear hA7 hS10 a6
 refine wl_nil ?_
 refine then_n ?_
 refine c_seq ?_
 refine c_region ?_
 refine stw hA12 (op_alloc hS15 rfl ze_4 (cs := [(Value.bool false)]) rfl) rfl rfl (by decide) ?_
 rintro a16 _ w18 ⟨b19, rfl, hS20⟩ hA17; clear hA12 hS15 a11
 refine sts hA17 (op_store hS20 rfl ty_4 (hA17.ev rfl) (evc _ _) (i := 0) rfl (vs := [(Value.bool true)]) rfl rfl rfl (Nat.le_of_ble_eq_true rfl)) rfl rfl ?_
 intro _ w21 hS22 hA23; clear hA17
 have hS24 : Sep (fun b => b = bm) w w21 [(blk b19 4 [(Value.bool true)]), (blk b14 104 (ints ([0, 0, 0]))), (blk b9 104 (ints ([0, 0, 0]))), (blk b4 58 [vp]), (marksR []), (memo bm (KA rs)), (rob bj 119 [vr, vu, (Value.map (some bm))]), (sl vr 2 R.length (pairs R)), (sl vu 3 rs.length (vtrips (runV lv rs))), (segsR false lv rs), (sl vp 3 plan.length (trips plan))] := hS22; clear hS22 hS20
 refine wl_nil ?_
 refine then_n ?_
 refine c_seq ?_
 refine c_seq ?_
 refine c_region ?_
 refine st hA23 (op_move rfl (hA23.ev rfl)) rfl rfl (by decide) fun a25 hA26 => ?_; clear hA23 a16
 refine stw hA26 (op_call rfl en_54 (ev1 (hA26.ev rfl)) (every_ok _ _)) rfl rfl (by decide) ?_
 rintro a27 _ w29 ⟨bx32, rfl, hT30⟩ hA28; have hS31 := hS24.callS hT30 rfl; clear hT30 hA26 hS24 a25
 refine wl_nil ?_
 refine then_n ?_
 refine c_block ?_
 have hA33 := hA28.as [(11, (Value.func (.func 78) #[] #[(bptr bx32 0)])), (6, (bptr b19 0)), (5, (bptr b14 0)), (4, (bptr b9 0)), (3, (bptr b4 0))] rfl; clear hA28
 have hS34 : Sep (fun b => b = bm) w w29 [(marksR []), (memo bm (KA rs)), (blk bx32 97 [(bptr bj 0)]), (blk b19 4 [(Value.bool true)]), (blk b14 104 (ints ([0, 0, 0]))), (blk b9 104 (ints ([0, 0, 0]))), (blk b4 58 [vp]), (rob bj 119 [vr, vu, (Value.map (some bm))]), (sl vr 2 R.length (pairs R)), (sl vu 3 rs.length (vtrips (runV lv rs))), (segsR false lv rs), (sl vp 3 plan.length (trips plan))] := hS31.keep [5, 6, 0, 1, 2, 3, 4, 7, 8, 9, 10, 11] (by decide) _ rfl rfl; clear hS31
 refine c_rangeG hA33 (memo bm (KA rs)) rfl hS34 (hA33.ev rfl) en_78 ((allowedF R rs).length) (fun k => #[.agg (ints ((allowedF R rs).getD k [])).toArray]) (fun _ => rfl) [rob bx32 97 [bptr bj 0], rob bj 119 [vr, vu, .map (some bm)], sl vr 2 R.length (pairs R), sl vu 3 rs.length (vtrips (runV lv rs)), segsR false lv rs] (fun r hr => by simp only [List.mem_cons, List.not_mem_nil, or_false] at hr; rcases hr with rfl | rfl | rfl | rfl | rfl <;> rfl) (every_it bx32 bj bm R rs lv vr vu R.length hR.1 hR hV hl) (fun q L_ => L_ = [(blk bx32 97 [(bptr bj 0)]), (blk b19 4 [(Value.bool (decide (q = 0)))]), (blk b14 104 (ints (mostF plan (allowedF R rs) q))), (blk b9 104 (ints (leastF plan (allowedF R rs) q))), (blk b4 58 [vp]), (rob bj 119 [vr, vu, (Value.map (some bm))]), (sl vr 2 R.length (pairs R)), (sl vu 3 rs.length (vtrips (runV lv rs))), (segsR false lv rs), (sl vp 3 plan.length (trips plan))]) (fun _ => False) none rfl (fun q L_ hI_ G_ W_ r1_ r2_ hW_ => by obtain ⟨rfl⟩ := hI_; exact (Sep.keep (hW_.to_ro (i := 3) rfl) [2, 3, 8, 9, 10, 11] (by decide) _ rfl rfl)) (fun L_ hI_ => hI_.elim) ?_ ?_ (fun _ hc_ => by cases hc_)
 ·skip
  intro q hq L_ hL_ G43 hG44 l40 D41 rc42 a35 w36 ha39 hS37; obtain ⟨rfl⟩ := hL_
  have hA38 : Fr 43 [] [(12, (Value.agg (ints ((allowedF R rs).getD q [])).toArray)), (11, (Value.func (.func 78) #[] #[(bptr bx32 0)])), (6, (bptr b19 0)), (5, (bptr b14 0)), (4, (bptr b9 0)), (3, (bptr b4 0))] a35 := by rw [ha39]; exact Fr.round1 hA33 (by decide)
  clear ha39 hS34
  have hl3 := (allowed_rates hR hq).1.1
  refine c_region ?_
  refine stw hA38 (op_alloc hS37 rfl ze_104 (cs := [(Value.int .i64 0), (Value.int .i64 0), (Value.int .i64 0)]) rfl) rfl rfl (by decide) ?_
  rintro a45 _ w47 ⟨b48, rfl, hS49⟩ hA46; clear hA38 hS37 a35
  refine sts hA46 (op_store hS49 rfl ty_104 (hA46.ev rfl) (hA46.ev rfl) (i := 0) rfl (vs := (ints ((allowedF R rs).getD q []))) rfl (allowed_len3 hR hq).symm (ints_one _) (by decide)) rfl rfl ?_
  intro _ w50 hS51 hA53; have hS52 := hS51.blk_say (i := 0) rfl (cs' := (ints ((allowedF R rs).getD q []))) (setFrom_all _ _ (Eq.symm (allowed_len3 hR hq).symm)); clear hS51 hA46 hS49
  refine wl_nil ?_
  have hS54 : Sep (fun b => b = bm) w w50 [(obR l40 (.loop (rc42 .ready none))), (marksR (D41 :: [])), G43, (blk b48 104 (ints ((allowedF R rs).getD q []))), (blk bx32 97 [(bptr bj 0)]), (blk b19 4 [(Value.bool (decide (q = 0)))]), (blk b14 104 (ints (mostF plan (allowedF R rs) q))), (blk b9 104 (ints (leastF plan (allowedF R rs) q))), (blk b4 58 [vp]), (rob bj 119 [vr, vu, (Value.map (some bm))]), (sl vr 2 R.length (pairs R)), (sl vu 3 rs.length (vtrips (runV lv rs))), (segsR false lv rs), (sl vp 3 plan.length (trips plan))] := hS52.keep [1, 2, 3, 0, 4, 5, 6, 7, 8, 9, 10, 11, 12, 13] (by decide) _ rfl rfl; clear hS52
  refine ⟨rfl, _, hS54, ?_⟩; intro w55 hS56; clear hS54
  refine c_block ?_
  refine c_seq ?_
  refine c_seq ?_
  refine c_region ?_
  refine st hA53 (op_load1 rfl ty_58 (hA53.ev rfl) (hS56.bk 8 rfl) rfl) rfl rfl (by decide) fun a57 hA58 => ?_; clear hA53 a45
  refine st hA58 (op_loadA rfl ty_104 (hA58.ev rfl) (hS56.bk 3 rfl) (l := (ints ((allowedF R rs).getD q []))) (drop_take_all _ _ (allowed_len3 hR hq).symm) (allowed_len3 hR hq).symm) rfl rfl (by decide) fun a59 hA60 => ?_; clear hA58 a57
  refine stw hA60 (op_call rfl en_60 (ev2 (hA60.ev rfl) (hA60.ev rfl)) (stretch_ok plan _ ((allowedF R rs).getD q []) R.length _ (by omega) hR.1 (allowed_rates hR hq).1 hs (hS56.sk 13 rfl))) rfl rfl (by decide) ?_
  rintro a61 _ w63 ⟨rfl, hE64⟩ hA62; have hS65 := hS56.step hE64; clear hE64 hA60 hS56 a59
  refine stw hA62 (op_alloc hS65 rfl ze_42 (cs := [(Value.int .i64 0), (Value.int .i64 0)]) rfl) rfl rfl (by decide) ?_
  rintro a66 _ w68 ⟨b69, rfl, hS70⟩ hA67; clear hA62 hS65 a61
  refine sts hA67 (op_store hS70 rfl ty_42 (hA67.ev rfl) (hA67.ev rfl) (i := 0) rfl (vs := [(Value.int .i64 (stLo plan ((allowedF R rs).getD q []))), (Value.int .i64 (stHi plan ((allowedF R rs).getD q [])))]) rfl rfl rfl (Nat.le_of_ble_eq_true rfl)) rfl rfl ?_
  intro _ w71 hS72 hA73; clear hA67
  have hS74 : Sep (fun b => b = bm) w w71 [(blk b69 42 [(Value.int .i64 (stLo plan ((allowedF R rs).getD q []))), (Value.int .i64 (stHi plan ((allowedF R rs).getD q [])))]), (obR l40 (.loop (rc42 .busy none))), (marksR (D41 :: [])), G43, (blk b48 104 (ints ((allowedF R rs).getD q []))), (blk bx32 97 [(bptr bj 0)]), (blk b19 4 [(Value.bool (decide (q = 0)))]), (blk b14 104 (ints (mostF plan (allowedF R rs) q))), (blk b9 104 (ints (leastF plan (allowedF R rs) q))), (blk b4 58 [vp]), (rob bj 119 [vr, vu, (Value.map (some bm))]), (sl vr 2 R.length (pairs R)), (sl vu 3 rs.length (vtrips (runV lv rs))), (segsR false lv rs), (sl vp 3 plan.length (trips plan))] := hS72; clear hS72 hS70
  refine wl_nil ?_
  refine then_n ?_
  refine c_seq ?_
  have hA75 := hA73.as [(8, (bptr b69 0)), (7, (bptr b48 0)), (6, (bptr b19 0)), (5, (bptr b14 0)), (4, (bptr b9 0)), (3, (bptr b4 0))] rfl; clear hA73
  rcases Bool.eq_false_or_eq_true ((decide (q = 0))) with hb77 | hb77
  ·skip
   have hA78 := hA75.as [(8, (bptr b69 0)), (7, (bptr b48 0)), (6, (bptr b19 0)), (5, (bptr b14 0)), (4, (bptr b9 0)), (3, (bptr b4 0))] rfl; clear hA75
   refine c_drawV mixed hA78 hS74 8 [[], [0], [1], [1, 2], [1], [1], [1, 4, 5], [1, 6]] [(fun (vs79 : Nat → Value) (v_ : Value) (rs_ : List Res) => v_ = (Value.bool true) ∧ rs_ = []), (fun (vs79 : Nat → Value) (v_ : Value) (rs_ : List Res) => v_ = (Value.bool true) ∧ rs_ = []), (fun (vs79 : Nat → Value) (v_ : Value) (rs_ : List Res) => v_ = undef ∧ rs_ = []), (fun (vs79 : Nat → Value) (v_ : Value) (rs_ : List Res) => v_ = undef ∧ rs_ = []), (fun (vs79 : Nat → Value) (v_ : Value) (rs_ : List Res) => v_ = undef ∧ rs_ = []), (fun (vs79 : Nat → Value) (v_ : Value) (rs_ : List Res) => v_ = undef ∧ rs_ = []), (fun (vs79 : Nat → Value) (v_ : Value) (rs_ : List Res) => v_ = undef ∧ rs_ = []), (fun (vs79 : Nat → Value) (v_ : Value) (rs_ : List Res) => v_ = undef ∧ rs_ = [])] (by decide +kernel) (by decide +kernel) rfl rfl ⟨(fun _ _ _ _ _ h_ => h_), (fun _ _ _ _ _ h_ => h_), (fun _ _ _ _ _ h_ => h_), (fun _ _ _ _ _ h_ => h_), (fun _ _ _ _ _ h_ => h_), (fun _ _ _ _ _ h_ => h_), (fun _ _ _ _ _ h_ => h_), (fun _ _ _ _ _ h_ => h_), trivial⟩ ?_ ?_
   ·skip
    refine ⟨fun a w vs79 hA hS hd => ?_, ?_⟩
    ·skip
     exact opG_of rfl (vv (op_load1 rfl ty_4 (hA.ev rfl) (hS.bk 6 rfl) rfl) (And.intro (by show Value.bool _ = _; simp only [hb77, decide_true, decide_false, Bool.not_true, Bool.not_false]) rfl))
    refine ⟨fun a w vs79 hA hS hd => ?_, ?_⟩
    ·skip
     obtain ⟨e0, rs0, hy0, hp0⟩ := hd 0 (by decide)
     obtain ⟨hv0, hr0⟩ := hy0; subst hr0
     rw [hv0] at e0
     exact opG_of rfl (vv (op_move rfl (tmp_ev (slot_ev e0 rfl))) (And.intro rfl rfl))
    refine ⟨fun a w vs79 hA hS hd => ?_, ?_⟩
    ·skip
     obtain ⟨e1, rs1, hy1, hp1⟩ := hd 1 (by decide)
     obtain ⟨hv1, hr1⟩ := hy1; subst hr1
     rw [hv1] at e1
     exact opG_no rfl rfl (slot_ev e1 rfl) rfl (vskip (And.intro rfl rfl))
    refine ⟨fun a w vs79 hA hS hd => ?_, ?_⟩
    ·skip
     obtain ⟨e1, rs1, hy1, hp1⟩ := hd 1 (by decide)
     obtain ⟨hv1, hr1⟩ := hy1; subst hr1
     rw [hv1] at e1
     obtain ⟨e2, rs2, hy2, hp2⟩ := hd 2 (by decide)
     obtain ⟨hv2, hr2⟩ := hy2; subst hr2
     rw [hv2] at e2
     exact opG_no rfl rfl (slot_ev e1 rfl) rfl (vskip (And.intro rfl rfl))
    refine ⟨fun a w vs79 hA hS hd => ?_, ?_⟩
    ·skip
     obtain ⟨e1, rs1, hy1, hp1⟩ := hd 1 (by decide)
     obtain ⟨hv1, hr1⟩ := hy1; subst hr1
     rw [hv1] at e1
     exact opG_no rfl rfl (slot_ev e1 rfl) rfl (vskip (And.intro rfl rfl))
    refine ⟨fun a w vs79 hA hS hd => ?_, ?_⟩
    ·skip
     obtain ⟨e1, rs1, hy1, hp1⟩ := hd 1 (by decide)
     obtain ⟨hv1, hr1⟩ := hy1; subst hr1
     rw [hv1] at e1
     exact opG_no rfl rfl (slot_ev e1 rfl) rfl (vskip (And.intro rfl rfl))
    refine ⟨fun a w vs79 hA hS hd => ?_, ?_⟩
    ·skip
     obtain ⟨e1, rs1, hy1, hp1⟩ := hd 1 (by decide)
     obtain ⟨hv1, hr1⟩ := hy1; subst hr1
     rw [hv1] at e1
     obtain ⟨e4, rs4, hy4, hp4⟩ := hd 4 (by decide)
     obtain ⟨hv4, hr4⟩ := hy4; subst hr4
     rw [hv4] at e4
     obtain ⟨e5, rs5, hy5, hp5⟩ := hd 5 (by decide)
     obtain ⟨hv5, hr5⟩ := hy5; subst hr5
     rw [hv5] at e5
     exact opG_no rfl rfl (slot_ev e1 rfl) rfl (vskip (And.intro rfl rfl))
    refine ⟨fun a w vs79 hA hS hd => ?_, ?_⟩
    ·skip
     obtain ⟨e1, rs1, hy1, hp1⟩ := hd 1 (by decide)
     obtain ⟨hv1, hr1⟩ := hy1; subst hr1
     rw [hv1] at e1
     obtain ⟨e6, rs6, hy6, hp6⟩ := hd 6 (by decide)
     obtain ⟨hv6, hr6⟩ := hy6; subst hr6
     rw [hv6] at e6
     exact opG_no rfl rfl (slot_ev e1 rfl) rfl (vskip (And.intro rfl rfl))
    trivial
   intro a80 w81 vs79 rsf85 hA82 hH84 hS83; clear hA78 hS74
   obtain ⟨hs_0, hy_0⟩ := hH84 0 (by decide)
   obtain ⟨hv_0, hr_0⟩ := hy_0
   obtain ⟨hs_1, hy_1⟩ := hH84 1 (by decide)
   obtain ⟨hv_1, hr_1⟩ := hy_1
   obtain ⟨hs_2, hy_2⟩ := hH84 2 (by decide)
   obtain ⟨hv_2, hr_2⟩ := hy_2
   obtain ⟨hs_3, hy_3⟩ := hH84 3 (by decide)
   obtain ⟨hv_3, hr_3⟩ := hy_3
   obtain ⟨hs_4, hy_4⟩ := hH84 4 (by decide)
   obtain ⟨hv_4, hr_4⟩ := hy_4
   obtain ⟨hs_5, hy_5⟩ := hH84 5 (by decide)
   obtain ⟨hv_5, hr_5⟩ := hy_5
   obtain ⟨hs_6, hy_6⟩ := hH84 6 (by decide)
   obtain ⟨hv_6, hr_6⟩ := hy_6
   obtain ⟨hs_7, hy_7⟩ := hH84 7 (by decide)
   obtain ⟨hv_7, hr_7⟩ := hy_7
   have hS86 : Sep (fun b => b = bm) w w81 [(blk b69 42 [(Value.int .i64 (stLo plan ((allowedF R rs).getD q []))), (Value.int .i64 (stHi plan ((allowedF R rs).getD q [])))]), (obR l40 (.loop (rc42 .busy none))), (marksR (D41 :: [])), G43, (blk b48 104 (ints ((allowedF R rs).getD q []))), (blk bx32 97 [(bptr bj 0)]), (blk b19 4 [(Value.bool (decide (q = 0)))]), (blk b14 104 (ints (mostF plan (allowedF R rs) q))), (blk b9 104 (ints (leastF plan (allowedF R rs) q))), (blk b4 58 [vp]), (rob bj 119 [vr, vu, (Value.map (some bm))]), (sl vr 2 R.length (pairs R)), (sl vu 3 rs.length (vtrips (runV lv rs))), (segsR false lv rs), (sl vp 3 plan.length (trips plan))] := by rw [show catR rsf85 0 8 = ([] : List Res) by (try simp only [catR, hr_0, hr_1, hr_2, hr_3, hr_4, hr_5, hr_6, hr_7]); (try rfl)] at hS83; exact hS83
   rw [hv_1] at hs_1
   have hA87 : Fr 43 [] [(17, (Value.bool true)), (8, (bptr b69 0)), (7, (bptr b48 0)), (6, (bptr b19 0)), (5, (bptr b14 0)), (4, (bptr b9 0)), (3, (bptr b4 0))] a80 := hA82.add (slot_ev hs_1 rfl); clear hA82
   rw [hv_3] at hs_3
   have hA88 : Fr 43 [] [(19, undef), (17, (Value.bool true)), (8, (bptr b69 0)), (7, (bptr b48 0)), (6, (bptr b19 0)), (5, (bptr b14 0)), (4, (bptr b9 0)), (3, (bptr b4 0))] a80 := hA87.add (slot_ev hs_3 rfl); clear hA87
   rw [hv_7] at hs_7
   have hA89 : Fr 43 [] [(23, undef), (19, undef), (17, (Value.bool true)), (8, (bptr b69 0)), (7, (bptr b48 0)), (6, (bptr b19 0)), (5, (bptr b14 0)), (4, (bptr b9 0)), (3, (bptr b4 0))] a80 := hA88.add (slot_ev hs_7 rfl); clear hA88
   clear hH84 hS83 hs_0 hs_1 hs_2 hs_3 hs_4 hs_5 hs_6 hs_7
   clear hr_0
   clear hv_0
   clear hr_1
   clear hv_1
   clear hr_2
   clear hv_2
   clear hr_3
   clear hv_3
   clear hr_4
   clear hv_4
   clear hr_5
   clear hv_5
   clear hr_6
   clear hv_6
   clear hr_7
   clear hv_7
   refine skp hA89 rfl rfl rfl rfl rfl (by decide) fun a90 hA91 => ?_; clear hA89 a80
   refine st hA91 (op_pick_t rfl (hA91.ev rfl) (evc _ _)) rfl rfl (by decide) fun a92 hA93 => ?_; clear hA91 a90
   refine wl_nil ?_
   refine then_n ?_
   refine c_true hA93 rfl ?_
   have hA94 := hA93.as [(7, (bptr b48 0)), (6, (bptr b19 0)), (5, (bptr b14 0)), (4, (bptr b9 0)), (3, (bptr b4 0))] rfl; clear hA93
   refine c_region ?_
   refine st hA94 (op_loadA rfl ty_104 (hA94.ev rfl) (hS86.bk 4 rfl) (l := (ints ((allowedF R rs).getD q []))) (drop_take_all _ _ (allowed_len3 hR hq).symm) (allowed_len3 hR hq).symm) rfl rfl (by decide) fun a95 hA96 => ?_; clear hA94 a92
   refine sts hA96 (op_store hS86 rfl ty_104 (hA96.ev rfl) (hA96.ev rfl) (i := 8) rfl (vs := (ints ((allowedF R rs).getD q []))) rfl (allowed_len3 hR hq).symm (ints_one _) (by first | (simp only [ints, List.length_map, List.length_set]; omega) | (have h2_ := (show (ints (leastF plan (allowedF R rs) q)).length = 3 from (by rw [ints, List.length_map]; exact (least_rates (fun k hk => (allowed_rates hR hk).1) _ (by omega)).1)); omega))) rfl rfl ?_
   intro _ w97 hS98 hA100; have hS99 := hS98.blk_say (i := 8) rfl (cs' := (ints ((allowedF R rs).getD q []))) (setFrom_all _ _ (by first | (simp only [ints, List.length_map, List.length_set]; omega) | (have h1_ := (show (ints ((allowedF R rs).getD q [])).length = 3 from (allowed_len3 hR hq).symm); have h2_ := (show (ints (leastF plan (allowedF R rs) q)).length = 3 from (by rw [ints, List.length_map]; exact (least_rates (fun k hk => (allowed_rates hR hk).1) _ (by omega)).1)); omega))); clear hS98 hA96 hS86
   refine wl_nil ?_
   refine then_n ?_
   refine c_seq ?_
   refine c_seq ?_
   refine c_region ?_
   refine st hA100 (op_load1 rfl ty_58 (hA100.ev rfl) (hS99.bk 9 rfl) rfl) rfl rfl (by decide) fun a101 hA102 => ?_; clear hA100 a95
   refine st hA102 (op_loadA rfl ty_104 (hA102.ev rfl) (hS99.bk 4 rfl) (l := (ints ((allowedF R rs).getD q []))) (drop_take_all _ _ (allowed_len3 hR hq).symm) (allowed_len3 hR hq).symm) rfl rfl (by decide) fun a103 hA104 => ?_; clear hA102 a101
   refine stw hA104 (op_call rfl en_60 (ev2 (hA104.ev rfl) (hA104.ev rfl)) (stretch_ok plan _ ((allowedF R rs).getD q []) R.length _ (by omega) hR.1 (allowed_rates hR hq).1 hs (hS99.sk 14 rfl))) rfl rfl (by decide) ?_
   rintro a105 _ w107 ⟨rfl, hE108⟩ hA106; have hS109 := hS99.step hE108; clear hE108 hA104 hS99 a103
   refine stw hA106 (op_alloc hS109 rfl ze_42 (cs := [(Value.int .i64 0), (Value.int .i64 0)]) rfl) rfl rfl (by decide) ?_
   rintro a110 _ w112 ⟨b113, rfl, hS114⟩ hA111; clear hA106 hS109 a105
   refine sts hA111 (op_store hS114 rfl ty_42 (hA111.ev rfl) (hA111.ev rfl) (i := 0) rfl (vs := [(Value.int .i64 (stLo plan ((allowedF R rs).getD q []))), (Value.int .i64 (stHi plan ((allowedF R rs).getD q [])))]) rfl rfl rfl (Nat.le_of_ble_eq_true rfl)) rfl rfl ?_
   intro _ w115 hS116 hA117; clear hA111
   have hS118 : Sep (fun b => b = bm) w w115 [(blk b113 42 [(Value.int .i64 (stLo plan ((allowedF R rs).getD q []))), (Value.int .i64 (stHi plan ((allowedF R rs).getD q [])))]), (blk b69 42 [(Value.int .i64 (stLo plan ((allowedF R rs).getD q []))), (Value.int .i64 (stHi plan ((allowedF R rs).getD q [])))]), (obR l40 (.loop (rc42 .busy none))), (marksR (D41 :: [])), G43, (blk b48 104 (ints ((allowedF R rs).getD q []))), (blk bx32 97 [(bptr bj 0)]), (blk b19 4 [(Value.bool (decide (q = 0)))]), (blk b14 104 (ints (mostF plan (allowedF R rs) q))), (blk b9 104 (ints ((allowedF R rs).getD q []))), (blk b4 58 [vp]), (rob bj 119 [vr, vu, (Value.map (some bm))]), (sl vr 2 R.length (pairs R)), (sl vu 3 rs.length (vtrips (runV lv rs))), (segsR false lv rs), (sl vp 3 plan.length (trips plan))] := hS116; clear hS116 hS114
   refine wl_nil ?_
   refine then_n ?_
   refine c_seq ?_
   have hA119 := hA117.as [(9, (bptr b113 0)), (7, (bptr b48 0)), (6, (bptr b19 0)), (5, (bptr b14 0)), (3, (bptr b4 0))] rfl; clear hA117
   refine c_drawV mixed hA119 hS118 8 [[], [0], [1], [1, 2], [1], [1], [1, 4, 5], [1, 6]] [(fun (vs120 : Nat → Value) (v_ : Value) (rs_ : List Res) => v_ = (Value.bool true) ∧ rs_ = []), (fun (vs120 : Nat → Value) (v_ : Value) (rs_ : List Res) => v_ = (Value.bool true) ∧ rs_ = []), (fun (vs120 : Nat → Value) (v_ : Value) (rs_ : List Res) => v_ = undef ∧ rs_ = []), (fun (vs120 : Nat → Value) (v_ : Value) (rs_ : List Res) => v_ = undef ∧ rs_ = []), (fun (vs120 : Nat → Value) (v_ : Value) (rs_ : List Res) => v_ = undef ∧ rs_ = []), (fun (vs120 : Nat → Value) (v_ : Value) (rs_ : List Res) => v_ = undef ∧ rs_ = []), (fun (vs120 : Nat → Value) (v_ : Value) (rs_ : List Res) => v_ = undef ∧ rs_ = []), (fun (vs120 : Nat → Value) (v_ : Value) (rs_ : List Res) => v_ = undef ∧ rs_ = [])] (by decide +kernel) (by decide +kernel) rfl rfl ⟨(fun _ _ _ _ _ h_ => h_), (fun _ _ _ _ _ h_ => h_), (fun _ _ _ _ _ h_ => h_), (fun _ _ _ _ _ h_ => h_), (fun _ _ _ _ _ h_ => h_), (fun _ _ _ _ _ h_ => h_), (fun _ _ _ _ _ h_ => h_), (fun _ _ _ _ _ h_ => h_), trivial⟩ ?_ ?_
   ·skip
    refine ⟨fun a w vs120 hA hS hd => ?_, ?_⟩
    ·skip
     exact opG_of rfl (vv (op_load1 rfl ty_4 (hA.ev rfl) (hS.bk 7 rfl) rfl) (And.intro (by show Value.bool _ = _; simp only [hb77, decide_true, decide_false, Bool.not_true, Bool.not_false]) rfl))
    refine ⟨fun a w vs120 hA hS hd => ?_, ?_⟩
    ·skip
     obtain ⟨e0, rs0, hy0, hp0⟩ := hd 0 (by decide)
     obtain ⟨hv0, hr0⟩ := hy0; subst hr0
     rw [hv0] at e0
     exact opG_of rfl (vv (op_move rfl (tmp_ev (slot_ev e0 rfl))) (And.intro rfl rfl))
    refine ⟨fun a w vs120 hA hS hd => ?_, ?_⟩
    ·skip
     obtain ⟨e1, rs1, hy1, hp1⟩ := hd 1 (by decide)
     obtain ⟨hv1, hr1⟩ := hy1; subst hr1
     rw [hv1] at e1
     exact opG_no rfl rfl (slot_ev e1 rfl) rfl (vskip (And.intro rfl rfl))
    refine ⟨fun a w vs120 hA hS hd => ?_, ?_⟩
    ·skip
     obtain ⟨e1, rs1, hy1, hp1⟩ := hd 1 (by decide)
     obtain ⟨hv1, hr1⟩ := hy1; subst hr1
     rw [hv1] at e1
     obtain ⟨e2, rs2, hy2, hp2⟩ := hd 2 (by decide)
     obtain ⟨hv2, hr2⟩ := hy2; subst hr2
     rw [hv2] at e2
     exact opG_no rfl rfl (slot_ev e1 rfl) rfl (vskip (And.intro rfl rfl))
    refine ⟨fun a w vs120 hA hS hd => ?_, ?_⟩
    ·skip
     obtain ⟨e1, rs1, hy1, hp1⟩ := hd 1 (by decide)
     obtain ⟨hv1, hr1⟩ := hy1; subst hr1
     rw [hv1] at e1
     exact opG_no rfl rfl (slot_ev e1 rfl) rfl (vskip (And.intro rfl rfl))
    refine ⟨fun a w vs120 hA hS hd => ?_, ?_⟩
    ·skip
     obtain ⟨e1, rs1, hy1, hp1⟩ := hd 1 (by decide)
     obtain ⟨hv1, hr1⟩ := hy1; subst hr1
     rw [hv1] at e1
     exact opG_no rfl rfl (slot_ev e1 rfl) rfl (vskip (And.intro rfl rfl))
    refine ⟨fun a w vs120 hA hS hd => ?_, ?_⟩
    ·skip
     obtain ⟨e1, rs1, hy1, hp1⟩ := hd 1 (by decide)
     obtain ⟨hv1, hr1⟩ := hy1; subst hr1
     rw [hv1] at e1
     obtain ⟨e4, rs4, hy4, hp4⟩ := hd 4 (by decide)
     obtain ⟨hv4, hr4⟩ := hy4; subst hr4
     rw [hv4] at e4
     obtain ⟨e5, rs5, hy5, hp5⟩ := hd 5 (by decide)
     obtain ⟨hv5, hr5⟩ := hy5; subst hr5
     rw [hv5] at e5
     exact opG_no rfl rfl (slot_ev e1 rfl) rfl (vskip (And.intro rfl rfl))
    refine ⟨fun a w vs120 hA hS hd => ?_, ?_⟩
    ·skip
     obtain ⟨e1, rs1, hy1, hp1⟩ := hd 1 (by decide)
     obtain ⟨hv1, hr1⟩ := hy1; subst hr1
     rw [hv1] at e1
     obtain ⟨e6, rs6, hy6, hp6⟩ := hd 6 (by decide)
     obtain ⟨hv6, hr6⟩ := hy6; subst hr6
     rw [hv6] at e6
     exact opG_no rfl rfl (slot_ev e1 rfl) rfl (vskip (And.intro rfl rfl))
    trivial
   intro a121 w122 vs120 rsf126 hA123 hH125 hS124; clear hA119 hS118
   obtain ⟨hs_0, hy_0⟩ := hH125 0 (by decide)
   obtain ⟨hv_0, hr_0⟩ := hy_0
   obtain ⟨hs_1, hy_1⟩ := hH125 1 (by decide)
   obtain ⟨hv_1, hr_1⟩ := hy_1
   obtain ⟨hs_2, hy_2⟩ := hH125 2 (by decide)
   obtain ⟨hv_2, hr_2⟩ := hy_2
   obtain ⟨hs_3, hy_3⟩ := hH125 3 (by decide)
   obtain ⟨hv_3, hr_3⟩ := hy_3
   obtain ⟨hs_4, hy_4⟩ := hH125 4 (by decide)
   obtain ⟨hv_4, hr_4⟩ := hy_4
   obtain ⟨hs_5, hy_5⟩ := hH125 5 (by decide)
   obtain ⟨hv_5, hr_5⟩ := hy_5
   obtain ⟨hs_6, hy_6⟩ := hH125 6 (by decide)
   obtain ⟨hv_6, hr_6⟩ := hy_6
   obtain ⟨hs_7, hy_7⟩ := hH125 7 (by decide)
   obtain ⟨hv_7, hr_7⟩ := hy_7
   have hS127 : Sep (fun b => b = bm) w w122 [(blk b113 42 [(Value.int .i64 (stLo plan ((allowedF R rs).getD q []))), (Value.int .i64 (stHi plan ((allowedF R rs).getD q [])))]), (blk b69 42 [(Value.int .i64 (stLo plan ((allowedF R rs).getD q []))), (Value.int .i64 (stHi plan ((allowedF R rs).getD q [])))]), (obR l40 (.loop (rc42 .busy none))), (marksR (D41 :: [])), G43, (blk b48 104 (ints ((allowedF R rs).getD q []))), (blk bx32 97 [(bptr bj 0)]), (blk b19 4 [(Value.bool (decide (q = 0)))]), (blk b14 104 (ints (mostF plan (allowedF R rs) q))), (blk b9 104 (ints ((allowedF R rs).getD q []))), (blk b4 58 [vp]), (rob bj 119 [vr, vu, (Value.map (some bm))]), (sl vr 2 R.length (pairs R)), (sl vu 3 rs.length (vtrips (runV lv rs))), (segsR false lv rs), (sl vp 3 plan.length (trips plan))] := by rw [show catR rsf126 0 8 = ([] : List Res) by (try simp only [catR, hr_0, hr_1, hr_2, hr_3, hr_4, hr_5, hr_6, hr_7]); (try rfl)] at hS124; exact hS124
   rw [hv_1] at hs_1
   have hA128 : Fr 43 [] [(31, (Value.bool true)), (9, (bptr b113 0)), (7, (bptr b48 0)), (6, (bptr b19 0)), (5, (bptr b14 0)), (3, (bptr b4 0))] a121 := hA123.add (slot_ev hs_1 rfl); clear hA123
   rw [hv_3] at hs_3
   have hA129 : Fr 43 [] [(33, undef), (31, (Value.bool true)), (9, (bptr b113 0)), (7, (bptr b48 0)), (6, (bptr b19 0)), (5, (bptr b14 0)), (3, (bptr b4 0))] a121 := hA128.add (slot_ev hs_3 rfl); clear hA128
   rw [hv_7] at hs_7
   have hA130 : Fr 43 [] [(37, undef), (33, undef), (31, (Value.bool true)), (9, (bptr b113 0)), (7, (bptr b48 0)), (6, (bptr b19 0)), (5, (bptr b14 0)), (3, (bptr b4 0))] a121 := hA129.add (slot_ev hs_7 rfl); clear hA129
   clear hH125 hS124 hs_0 hs_1 hs_2 hs_3 hs_4 hs_5 hs_6 hs_7
   clear hr_0
   clear hv_0
   clear hr_1
   clear hv_1
   clear hr_2
   clear hv_2
   clear hr_3
   clear hv_3
   clear hr_4
   clear hv_4
   clear hr_5
   clear hv_5
   clear hr_6
   clear hv_6
   clear hr_7
   clear hv_7
   refine skp hA130 rfl rfl rfl rfl rfl (by decide) fun a131 hA132 => ?_; clear hA130 a121
   refine st hA132 (op_pick_t rfl (hA132.ev rfl) (evc _ _)) rfl rfl (by decide) fun a133 hA134 => ?_; clear hA132 a131
   refine wl_nil ?_
   refine then_n ?_
   refine c_true hA134 rfl ?_
   have hA135 := hA134.as [(7, (bptr b48 0)), (6, (bptr b19 0)), (5, (bptr b14 0))] rfl; clear hA134
   refine c_region ?_
   refine st hA135 (op_loadA rfl ty_104 (hA135.ev rfl) (hS127.bk 5 rfl) (l := (ints ((allowedF R rs).getD q []))) (drop_take_all _ _ (allowed_len3 hR hq).symm) (allowed_len3 hR hq).symm) rfl rfl (by decide) fun a136 hA137 => ?_; clear hA135 a133
   refine sts hA137 (op_store hS127 rfl ty_104 (hA137.ev rfl) (hA137.ev rfl) (i := 8) rfl (vs := (ints ((allowedF R rs).getD q []))) rfl (allowed_len3 hR hq).symm (ints_one _) (by first | (simp only [ints, List.length_map, List.length_set]; omega) | (have h2_ := (show (ints (mostF plan (allowedF R rs) q)).length = 3 from (by rw [ints, List.length_map]; exact (most_rates (fun k hk => (allowed_rates hR hk).1) _ (by omega)).1)); omega))) rfl rfl ?_
   intro _ w138 hS139 hA141; have hS140 := hS139.blk_say (i := 8) rfl (cs' := (ints ((allowedF R rs).getD q []))) (setFrom_all _ _ (by first | (simp only [ints, List.length_map, List.length_set]; omega) | (have h1_ := (show (ints ((allowedF R rs).getD q [])).length = 3 from (allowed_len3 hR hq).symm); have h2_ := (show (ints (mostF plan (allowedF R rs) q)).length = 3 from (by rw [ints, List.length_map]; exact (most_rates (fun k hk => (allowed_rates hR hk).1) _ (by omega)).1)); omega))); clear hS139 hA137 hS127
   refine wl_nil ?_
   refine then_n ?_
   refine c_region ?_
   refine sts hA141 (op_store hS140 rfl ty_4 (hA141.ev rfl) (evc _ _) (i := 7) rfl (vs := [(Value.bool false)]) rfl rfl rfl (Nat.le_of_ble_eq_true rfl)) rfl rfl ?_
   intro _ w142 hS143 hA144; clear hA141
   have hS145 : Sep (fun b => b = bm) w w142 [(blk b113 42 [(Value.int .i64 (stLo plan ((allowedF R rs).getD q []))), (Value.int .i64 (stHi plan ((allowedF R rs).getD q [])))]), (blk b69 42 [(Value.int .i64 (stLo plan ((allowedF R rs).getD q []))), (Value.int .i64 (stHi plan ((allowedF R rs).getD q [])))]), (obR l40 (.loop (rc42 .busy none))), (marksR (D41 :: [])), G43, (blk b48 104 (ints ((allowedF R rs).getD q []))), (blk bx32 97 [(bptr bj 0)]), (blk b19 4 [(Value.bool false)]), (blk b14 104 (ints ((allowedF R rs).getD q []))), (blk b9 104 (ints ((allowedF R rs).getD q []))), (blk b4 58 [vp]), (rob bj 119 [vr, vu, (Value.map (some bm))]), (sl vr 2 R.length (pairs R)), (sl vu 3 rs.length (vtrips (runV lv rs))), (segsR false lv rs), (sl vp 3 plan.length (trips plan))] := hS143; clear hS143 hS140
   refine wl_nil ?_
   refine blk_n ?_
   have hS146 : Sep (fun b => b = bm) w w142 [(obR l40 (.loop (rc42 .busy none))), (marksR (D41 :: [])), G43, (blk bx32 97 [(bptr bj 0)]), (blk b19 4 [(Value.bool false)]), (blk b14 104 (ints ((allowedF R rs).getD q []))), (blk b9 104 (ints ((allowedF R rs).getD q []))), (blk b4 58 [vp]), (rob bj 119 [vr, vu, (Value.map (some bm))]), (sl vr 2 R.length (pairs R)), (sl vu 3 rs.length (vtrips (runV lv rs))), (segsR false lv rs), (sl vp 3 plan.length (trips plan))] := hS145.keep [2, 3, 4, 6, 7, 8, 9, 10, 11, 12, 13, 14, 15] (by decide) _ rfl rfl; clear hS145
   exact re_n ⟨_, rfl, rfl⟩ (((hS146.blk_say (i := 6) rfl (cs' := ints (leastF plan (allowedF R rs) (q + 1))) (congrArg ints (by first | exact (least_a (by assumption)).symm | exact (least_b (by assumption)).symm | exact (least_c (by assumption) (by assumption)).symm))).blk_say (i := 5) rfl (cs' := ints (mostF plan (allowedF R rs) (q + 1))) (congrArg ints (by first | exact (most_a (by assumption)).symm | exact (most_b (by assumption)).symm | exact (most_c (by assumption) (by assumption)).symm))).blk_say (i := 4) rfl (cs' := [Value.bool (decide (q + 1 = 0))]) (by rw [decide_eq_false (Nat.succ_ne_zero q)]))
  ·skip
   have hA147 := hA75.as [(8, (bptr b69 0)), (7, (bptr b48 0)), (6, (bptr b19 0)), (5, (bptr b14 0)), (4, (bptr b9 0)), (3, (bptr b4 0))] rfl; clear hA75
   refine c_drawV mixed hA147 hS74 8 [[], [0], [1], [1, 2], [1], [1], [1, 4, 5], [1, 6]] [(fun (vs148 : Nat → Value) (v_ : Value) (rs_ : List Res) => v_ = (Value.bool false) ∧ rs_ = []), (fun (vs148 : Nat → Value) (v_ : Value) (rs_ : List Res) => v_ = (Value.bool false) ∧ rs_ = []), (fun (vs148 : Nat → Value) (v_ : Value) (rs_ : List Res) => v_ = (bptr b69 0) ∧ rs_ = []), (fun (vs148 : Nat → Value) (v_ : Value) (rs_ : List Res) => v_ = (Value.int .i64 (stLo plan ((allowedF R rs).getD q []))) ∧ rs_ = []), (fun (vs148 : Nat → Value) (v_ : Value) (rs_ : List Res) => v_ = vp ∧ rs_ = []), (fun (vs148 : Nat → Value) (v_ : Value) (rs_ : List Res) => v_ = (Value.agg (ints (leastF plan (allowedF R rs) q)).toArray) ∧ rs_ = []), (fun (vs148 : Nat → Value) (v_ : Value) (rs_ : List Res) => v_ = (Value.agg #[(Value.int .i64 (stLo plan (leastF plan (allowedF R rs) q))), (Value.int .i64 (stHi plan (leastF plan (allowedF R rs) q)))]) ∧ rs_ = []), (fun (vs148 : Nat → Value) (v_ : Value) (rs_ : List Res) => v_ = (Value.int .i64 (stLo plan (leastF plan (allowedF R rs) q))) ∧ rs_ = [])] (by decide +kernel) (by decide +kernel) rfl rfl ⟨(fun _ _ _ _ _ h_ => h_), (fun _ _ _ _ _ h_ => h_), (fun _ _ _ _ _ h_ => h_), (fun _ _ _ _ _ h_ => h_), (fun _ _ _ _ _ h_ => h_), (fun _ _ _ _ _ h_ => h_), (fun _ _ _ _ _ h_ => h_), (fun _ _ _ _ _ h_ => h_), trivial⟩ ?_ ?_
   ·skip
    refine ⟨fun a w vs148 hA hS hd => ?_, ?_⟩
    ·skip
     exact opG_of rfl (vv (op_load1 rfl ty_4 (hA.ev rfl) (hS.bk 6 rfl) rfl) (And.intro (by show Value.bool _ = _; simp only [hb77, decide_true, decide_false, Bool.not_true, Bool.not_false]) rfl))
    refine ⟨fun a w vs148 hA hS hd => ?_, ?_⟩
    ·skip
     obtain ⟨e0, rs0, hy0, hp0⟩ := hd 0 (by decide)
     obtain ⟨hv0, hr0⟩ := hy0; subst hr0
     rw [hv0] at e0
     exact opG_of rfl (vv (op_move rfl (tmp_ev (slot_ev e0 rfl))) (And.intro rfl rfl))
    refine ⟨fun a w vs148 hA hS hd => ?_, ?_⟩
    ·skip
     obtain ⟨e1, rs1, hy1, hp1⟩ := hd 1 (by decide)
     obtain ⟨hv1, hr1⟩ := hy1; subst hr1
     rw [hv1] at e1
     exact opG_yes rfl rfl (slot_ev e1 rfl) (vv (op_field rfl fd_42_0 (hA.ev rfl)) (And.intro rfl rfl))
    refine ⟨fun a w vs148 hA hS hd => ?_, ?_⟩
    ·skip
     obtain ⟨e1, rs1, hy1, hp1⟩ := hd 1 (by decide)
     obtain ⟨hv1, hr1⟩ := hy1; subst hr1
     rw [hv1] at e1
     obtain ⟨e2, rs2, hy2, hp2⟩ := hd 2 (by decide)
     obtain ⟨hv2, hr2⟩ := hy2; subst hr2
     rw [hv2] at e2
     exact opG_yes rfl rfl (slot_ev e1 rfl) (vv (op_load1 rfl ty_3 (tmp_ev (slot_ev e2 rfl)) (hS.bk 0 rfl) rfl) (And.intro rfl rfl))
    refine ⟨fun a w vs148 hA hS hd => ?_, ?_⟩
    ·skip
     obtain ⟨e1, rs1, hy1, hp1⟩ := hd 1 (by decide)
     obtain ⟨hv1, hr1⟩ := hy1; subst hr1
     rw [hv1] at e1
     exact opG_yes rfl rfl (slot_ev e1 rfl) (vv (op_load1 rfl ty_58 (hA.ev rfl) (hS.bk 9 rfl) rfl) (And.intro rfl rfl))
    refine ⟨fun a w vs148 hA hS hd => ?_, ?_⟩
    ·skip
     obtain ⟨e1, rs1, hy1, hp1⟩ := hd 1 (by decide)
     obtain ⟨hv1, hr1⟩ := hy1; subst hr1
     rw [hv1] at e1
     exact opG_yes rfl rfl (slot_ev e1 rfl) (vv (op_loadA rfl ty_104 (hA.ev rfl) (hS.bk 8 rfl) (l := (ints (leastF plan (allowedF R rs) q))) (drop_take_all _ _ (by rw [ints, List.length_map]; exact (least_rates (fun k hk => (allowed_rates hR hk).1) _ (by omega)).1)) (by rw [ints, List.length_map]; exact (least_rates (fun k hk => (allowed_rates hR hk).1) _ (by omega)).1)) (And.intro rfl rfl))
    refine ⟨fun a w vs148 hA hS hd => ?_, ?_⟩
    ·skip
     obtain ⟨e1, rs1, hy1, hp1⟩ := hd 1 (by decide)
     obtain ⟨hv1, hr1⟩ := hy1; subst hr1
     rw [hv1] at e1
     obtain ⟨e4, rs4, hy4, hp4⟩ := hd 4 (by decide)
     obtain ⟨hv4, hr4⟩ := hy4; subst hr4
     rw [hv4] at e4
     obtain ⟨e5, rs5, hy5, hp5⟩ := hd 5 (by decide)
     obtain ⟨hv5, hr5⟩ := hy5; subst hr5
     rw [hv5] at e5
     exact opG_yes rfl rfl (slot_ev e1 rfl) (vx (op_call rfl en_60 (ev2 (tmp_ev (slot_ev e4 rfl)) (tmp_ev (slot_ev e5 rfl))) (stretch_ok plan _ (leastF plan (allowedF R rs) q) R.length _ (by omega) hR.1 (least_rates (fun k hk => (allowed_rates hR hk).1) q (by omega)) hs (hS.sk 14 rfl))) (And.intro rfl rfl))
    refine ⟨fun a w vs148 hA hS hd => ?_, ?_⟩
    ·skip
     obtain ⟨e1, rs1, hy1, hp1⟩ := hd 1 (by decide)
     obtain ⟨hv1, hr1⟩ := hy1; subst hr1
     rw [hv1] at e1
     obtain ⟨e6, rs6, hy6, hp6⟩ := hd 6 (by decide)
     obtain ⟨hv6, hr6⟩ := hy6; subst hr6
     rw [hv6] at e6
     exact opG_yes rfl rfl (slot_ev e1 rfl) (vv (op_fieldV rfl (tmp_ev (slot_ev e6 rfl)) (bd_fv_42_0_i64i64 _ _)) (And.intro rfl rfl))
    trivial
   intro a149 w150 vs148 rsf154 hA151 hH153 hS152; clear hA147 hS74
   obtain ⟨hs_0, hy_0⟩ := hH153 0 (by decide)
   obtain ⟨hv_0, hr_0⟩ := hy_0
   obtain ⟨hs_1, hy_1⟩ := hH153 1 (by decide)
   obtain ⟨hv_1, hr_1⟩ := hy_1
   obtain ⟨hs_2, hy_2⟩ := hH153 2 (by decide)
   obtain ⟨hv_2, hr_2⟩ := hy_2
   obtain ⟨hs_3, hy_3⟩ := hH153 3 (by decide)
   obtain ⟨hv_3, hr_3⟩ := hy_3
   obtain ⟨hs_4, hy_4⟩ := hH153 4 (by decide)
   obtain ⟨hv_4, hr_4⟩ := hy_4
   obtain ⟨hs_5, hy_5⟩ := hH153 5 (by decide)
   obtain ⟨hv_5, hr_5⟩ := hy_5
   obtain ⟨hs_6, hy_6⟩ := hH153 6 (by decide)
   obtain ⟨hv_6, hr_6⟩ := hy_6
   obtain ⟨hs_7, hy_7⟩ := hH153 7 (by decide)
   obtain ⟨hv_7, hr_7⟩ := hy_7
   have hS155 : Sep (fun b => b = bm) w w150 [(blk b69 42 [(Value.int .i64 (stLo plan ((allowedF R rs).getD q []))), (Value.int .i64 (stHi plan ((allowedF R rs).getD q [])))]), (obR l40 (.loop (rc42 .busy none))), (marksR (D41 :: [])), G43, (blk b48 104 (ints ((allowedF R rs).getD q []))), (blk bx32 97 [(bptr bj 0)]), (blk b19 4 [(Value.bool (decide (q = 0)))]), (blk b14 104 (ints (mostF plan (allowedF R rs) q))), (blk b9 104 (ints (leastF plan (allowedF R rs) q))), (blk b4 58 [vp]), (rob bj 119 [vr, vu, (Value.map (some bm))]), (sl vr 2 R.length (pairs R)), (sl vu 3 rs.length (vtrips (runV lv rs))), (segsR false lv rs), (sl vp 3 plan.length (trips plan))] := by rw [show catR rsf154 0 8 = ([] : List Res) by (try simp only [catR, hr_0, hr_1, hr_2, hr_3, hr_4, hr_5, hr_6, hr_7]); (try rfl)] at hS152; exact hS152
   rw [hv_1] at hs_1
   have hA156 : Fr 43 [] [(17, (Value.bool false)), (8, (bptr b69 0)), (7, (bptr b48 0)), (6, (bptr b19 0)), (5, (bptr b14 0)), (4, (bptr b9 0)), (3, (bptr b4 0))] a149 := hA151.add (slot_ev hs_1 rfl); clear hA151
   rw [hv_3] at hs_3
   have hA157 : Fr 43 [] [(19, (Value.int .i64 (stLo plan ((allowedF R rs).getD q [])))), (17, (Value.bool false)), (8, (bptr b69 0)), (7, (bptr b48 0)), (6, (bptr b19 0)), (5, (bptr b14 0)), (4, (bptr b9 0)), (3, (bptr b4 0))] a149 := hA156.add (slot_ev hs_3 rfl); clear hA156
   rw [hv_7] at hs_7
   have hA158 : Fr 43 [] [(23, (Value.int .i64 (stLo plan (leastF plan (allowedF R rs) q)))), (19, (Value.int .i64 (stLo plan ((allowedF R rs).getD q [])))), (17, (Value.bool false)), (8, (bptr b69 0)), (7, (bptr b48 0)), (6, (bptr b19 0)), (5, (bptr b14 0)), (4, (bptr b9 0)), (3, (bptr b4 0))] a149 := hA157.add (slot_ev hs_7 rfl); clear hA157
   clear hH153 hS152 hs_0 hs_1 hs_2 hs_3 hs_4 hs_5 hs_6 hs_7
   clear hr_0
   clear hv_0
   clear hr_1
   clear hv_1
   clear hr_2
   clear hv_2
   clear hr_3
   clear hv_3
   clear hr_4
   clear hv_4
   clear hr_5
   clear hv_5
   clear hr_6
   clear hv_6
   clear hr_7
   clear hv_7
   refine stg hA158 (op_lss rfl (hA158.ev rfl) (hA158.ev rfl)) rfl rfl rfl rfl (by decide) fun a159 hA160 => ?_; clear hA158 a149
   refine st hA160 (op_pick_f rfl (hA160.ev rfl) (hA160.ev rfl)) rfl rfl (by decide) fun a161 hA162 => ?_; clear hA160 a159
   refine wl_nil ?_
   refine then_n ?_
   by_cases hb163 : (stLo plan ((allowedF R rs).getD q [])) < (stLo plan (leastF plan (allowedF R rs) q))
   ·skip
    rw [decide_eq_true hb163] at hA162
    refine c_true hA162 rfl ?_
    have hA164 := hA162.as [(7, (bptr b48 0)), (6, (bptr b19 0)), (5, (bptr b14 0)), (4, (bptr b9 0)), (3, (bptr b4 0))] rfl; clear hA162
    refine c_region ?_
    refine st hA164 (op_loadA rfl ty_104 (hA164.ev rfl) (hS155.bk 4 rfl) (l := (ints ((allowedF R rs).getD q []))) (drop_take_all _ _ (allowed_len3 hR hq).symm) (allowed_len3 hR hq).symm) rfl rfl (by decide) fun a165 hA166 => ?_; clear hA164 a161
    refine sts hA166 (op_store hS155 rfl ty_104 (hA166.ev rfl) (hA166.ev rfl) (i := 8) rfl (vs := (ints ((allowedF R rs).getD q []))) rfl (allowed_len3 hR hq).symm (ints_one _) (by first | (simp only [ints, List.length_map, List.length_set]; omega) | (have h2_ := (show (ints (leastF plan (allowedF R rs) q)).length = 3 from (by rw [ints, List.length_map]; exact (least_rates (fun k hk => (allowed_rates hR hk).1) _ (by omega)).1)); omega))) rfl rfl ?_
    intro _ w167 hS168 hA170; have hS169 := hS168.blk_say (i := 8) rfl (cs' := (ints ((allowedF R rs).getD q []))) (setFrom_all _ _ (by first | (simp only [ints, List.length_map, List.length_set]; omega) | (have h1_ := (show (ints ((allowedF R rs).getD q [])).length = 3 from (allowed_len3 hR hq).symm); have h2_ := (show (ints (leastF plan (allowedF R rs) q)).length = 3 from (by rw [ints, List.length_map]; exact (least_rates (fun k hk => (allowed_rates hR hk).1) _ (by omega)).1)); omega))); clear hS168 hA166 hS155
    refine wl_nil ?_
    refine then_n ?_
    refine c_seq ?_
    refine c_seq ?_
    refine c_region ?_
    refine st hA170 (op_load1 rfl ty_58 (hA170.ev rfl) (hS169.bk 9 rfl) rfl) rfl rfl (by decide) fun a171 hA172 => ?_; clear hA170 a165
    refine st hA172 (op_loadA rfl ty_104 (hA172.ev rfl) (hS169.bk 4 rfl) (l := (ints ((allowedF R rs).getD q []))) (drop_take_all _ _ (allowed_len3 hR hq).symm) (allowed_len3 hR hq).symm) rfl rfl (by decide) fun a173 hA174 => ?_; clear hA172 a171
    refine stw hA174 (op_call rfl en_60 (ev2 (hA174.ev rfl) (hA174.ev rfl)) (stretch_ok plan _ ((allowedF R rs).getD q []) R.length _ (by omega) hR.1 (allowed_rates hR hq).1 hs (hS169.sk 14 rfl))) rfl rfl (by decide) ?_
    rintro a175 _ w177 ⟨rfl, hE178⟩ hA176; have hS179 := hS169.step hE178; clear hE178 hA174 hS169 a173
    refine stw hA176 (op_alloc hS179 rfl ze_42 (cs := [(Value.int .i64 0), (Value.int .i64 0)]) rfl) rfl rfl (by decide) ?_
    rintro a180 _ w182 ⟨b183, rfl, hS184⟩ hA181; clear hA176 hS179 a175
    refine sts hA181 (op_store hS184 rfl ty_42 (hA181.ev rfl) (hA181.ev rfl) (i := 0) rfl (vs := [(Value.int .i64 (stLo plan ((allowedF R rs).getD q []))), (Value.int .i64 (stHi plan ((allowedF R rs).getD q [])))]) rfl rfl rfl (Nat.le_of_ble_eq_true rfl)) rfl rfl ?_
    intro _ w185 hS186 hA187; clear hA181
    have hS188 : Sep (fun b => b = bm) w w185 [(blk b183 42 [(Value.int .i64 (stLo plan ((allowedF R rs).getD q []))), (Value.int .i64 (stHi plan ((allowedF R rs).getD q [])))]), (blk b69 42 [(Value.int .i64 (stLo plan ((allowedF R rs).getD q []))), (Value.int .i64 (stHi plan ((allowedF R rs).getD q [])))]), (obR l40 (.loop (rc42 .busy none))), (marksR (D41 :: [])), G43, (blk b48 104 (ints ((allowedF R rs).getD q []))), (blk bx32 97 [(bptr bj 0)]), (blk b19 4 [(Value.bool (decide (q = 0)))]), (blk b14 104 (ints (mostF plan (allowedF R rs) q))), (blk b9 104 (ints ((allowedF R rs).getD q []))), (blk b4 58 [vp]), (rob bj 119 [vr, vu, (Value.map (some bm))]), (sl vr 2 R.length (pairs R)), (sl vu 3 rs.length (vtrips (runV lv rs))), (segsR false lv rs), (sl vp 3 plan.length (trips plan))] := hS186; clear hS186 hS184
    refine wl_nil ?_
    refine then_n ?_
    refine c_seq ?_
    have hA189 := hA187.as [(9, (bptr b183 0)), (7, (bptr b48 0)), (6, (bptr b19 0)), (5, (bptr b14 0)), (3, (bptr b4 0))] rfl; clear hA187
    refine c_drawV mixed hA189 hS188 8 [[], [0], [1], [1, 2], [1], [1], [1, 4, 5], [1, 6]] [(fun (vs190 : Nat → Value) (v_ : Value) (rs_ : List Res) => v_ = (Value.bool false) ∧ rs_ = []), (fun (vs190 : Nat → Value) (v_ : Value) (rs_ : List Res) => v_ = (Value.bool false) ∧ rs_ = []), (fun (vs190 : Nat → Value) (v_ : Value) (rs_ : List Res) => v_ = (bptr b183 1) ∧ rs_ = []), (fun (vs190 : Nat → Value) (v_ : Value) (rs_ : List Res) => v_ = (Value.int .i64 (stHi plan ((allowedF R rs).getD q []))) ∧ rs_ = []), (fun (vs190 : Nat → Value) (v_ : Value) (rs_ : List Res) => v_ = vp ∧ rs_ = []), (fun (vs190 : Nat → Value) (v_ : Value) (rs_ : List Res) => v_ = (Value.agg (ints (mostF plan (allowedF R rs) q)).toArray) ∧ rs_ = []), (fun (vs190 : Nat → Value) (v_ : Value) (rs_ : List Res) => v_ = (Value.agg #[(Value.int .i64 (stLo plan (mostF plan (allowedF R rs) q))), (Value.int .i64 (stHi plan (mostF plan (allowedF R rs) q)))]) ∧ rs_ = []), (fun (vs190 : Nat → Value) (v_ : Value) (rs_ : List Res) => v_ = (Value.int .i64 (stHi plan (mostF plan (allowedF R rs) q))) ∧ rs_ = [])] (by decide +kernel) (by decide +kernel) rfl rfl ⟨(fun _ _ _ _ _ h_ => h_), (fun _ _ _ _ _ h_ => h_), (fun _ _ _ _ _ h_ => h_), (fun _ _ _ _ _ h_ => h_), (fun _ _ _ _ _ h_ => h_), (fun _ _ _ _ _ h_ => h_), (fun _ _ _ _ _ h_ => h_), (fun _ _ _ _ _ h_ => h_), trivial⟩ ?_ ?_
    ·skip
     refine ⟨fun a w vs190 hA hS hd => ?_, ?_⟩
     ·skip
      exact opG_of rfl (vv (op_load1 rfl ty_4 (hA.ev rfl) (hS.bk 7 rfl) rfl) (And.intro (by show Value.bool _ = _; simp only [hb77, decide_true, decide_false, Bool.not_true, Bool.not_false]) rfl))
     refine ⟨fun a w vs190 hA hS hd => ?_, ?_⟩
     ·skip
      obtain ⟨e0, rs0, hy0, hp0⟩ := hd 0 (by decide)
      obtain ⟨hv0, hr0⟩ := hy0; subst hr0
      rw [hv0] at e0
      exact opG_of rfl (vv (op_move rfl (tmp_ev (slot_ev e0 rfl))) (And.intro rfl rfl))
     refine ⟨fun a w vs190 hA hS hd => ?_, ?_⟩
     ·skip
      obtain ⟨e1, rs1, hy1, hp1⟩ := hd 1 (by decide)
      obtain ⟨hv1, hr1⟩ := hy1; subst hr1
      rw [hv1] at e1
      exact opG_yes rfl rfl (slot_ev e1 rfl) (vv (op_field rfl fd_42_1 (hA.ev rfl)) (And.intro rfl rfl))
     refine ⟨fun a w vs190 hA hS hd => ?_, ?_⟩
     ·skip
      obtain ⟨e1, rs1, hy1, hp1⟩ := hd 1 (by decide)
      obtain ⟨hv1, hr1⟩ := hy1; subst hr1
      rw [hv1] at e1
      obtain ⟨e2, rs2, hy2, hp2⟩ := hd 2 (by decide)
      obtain ⟨hv2, hr2⟩ := hy2; subst hr2
      rw [hv2] at e2
      exact opG_yes rfl rfl (slot_ev e1 rfl) (vv (op_load1 rfl ty_3 (tmp_ev (slot_ev e2 rfl)) (hS.bk 0 rfl) rfl) (And.intro rfl rfl))
     refine ⟨fun a w vs190 hA hS hd => ?_, ?_⟩
     ·skip
      obtain ⟨e1, rs1, hy1, hp1⟩ := hd 1 (by decide)
      obtain ⟨hv1, hr1⟩ := hy1; subst hr1
      rw [hv1] at e1
      exact opG_yes rfl rfl (slot_ev e1 rfl) (vv (op_load1 rfl ty_58 (hA.ev rfl) (hS.bk 10 rfl) rfl) (And.intro rfl rfl))
     refine ⟨fun a w vs190 hA hS hd => ?_, ?_⟩
     ·skip
      obtain ⟨e1, rs1, hy1, hp1⟩ := hd 1 (by decide)
      obtain ⟨hv1, hr1⟩ := hy1; subst hr1
      rw [hv1] at e1
      exact opG_yes rfl rfl (slot_ev e1 rfl) (vv (op_loadA rfl ty_104 (hA.ev rfl) (hS.bk 8 rfl) (l := (ints (mostF plan (allowedF R rs) q))) (drop_take_all _ _ (by rw [ints, List.length_map]; exact (most_rates (fun k hk => (allowed_rates hR hk).1) _ (by omega)).1)) (by rw [ints, List.length_map]; exact (most_rates (fun k hk => (allowed_rates hR hk).1) _ (by omega)).1)) (And.intro rfl rfl))
     refine ⟨fun a w vs190 hA hS hd => ?_, ?_⟩
     ·skip
      obtain ⟨e1, rs1, hy1, hp1⟩ := hd 1 (by decide)
      obtain ⟨hv1, hr1⟩ := hy1; subst hr1
      rw [hv1] at e1
      obtain ⟨e4, rs4, hy4, hp4⟩ := hd 4 (by decide)
      obtain ⟨hv4, hr4⟩ := hy4; subst hr4
      rw [hv4] at e4
      obtain ⟨e5, rs5, hy5, hp5⟩ := hd 5 (by decide)
      obtain ⟨hv5, hr5⟩ := hy5; subst hr5
      rw [hv5] at e5
      exact opG_yes rfl rfl (slot_ev e1 rfl) (vx (op_call rfl en_60 (ev2 (tmp_ev (slot_ev e4 rfl)) (tmp_ev (slot_ev e5 rfl))) (stretch_ok plan _ (mostF plan (allowedF R rs) q) R.length _ (by omega) hR.1 (most_rates (fun k hk => (allowed_rates hR hk).1) q (by omega)) hs (hS.sk 15 rfl))) (And.intro rfl rfl))
     refine ⟨fun a w vs190 hA hS hd => ?_, ?_⟩
     ·skip
      obtain ⟨e1, rs1, hy1, hp1⟩ := hd 1 (by decide)
      obtain ⟨hv1, hr1⟩ := hy1; subst hr1
      rw [hv1] at e1
      obtain ⟨e6, rs6, hy6, hp6⟩ := hd 6 (by decide)
      obtain ⟨hv6, hr6⟩ := hy6; subst hr6
      rw [hv6] at e6
      exact opG_yes rfl rfl (slot_ev e1 rfl) (vv (op_fieldV rfl (tmp_ev (slot_ev e6 rfl)) (bd_fv_42_1_i64i64 _ _)) (And.intro rfl rfl))
     trivial
    intro a191 w192 vs190 rsf196 hA193 hH195 hS194; clear hA189 hS188
    obtain ⟨hs_0, hy_0⟩ := hH195 0 (by decide)
    obtain ⟨hv_0, hr_0⟩ := hy_0
    obtain ⟨hs_1, hy_1⟩ := hH195 1 (by decide)
    obtain ⟨hv_1, hr_1⟩ := hy_1
    obtain ⟨hs_2, hy_2⟩ := hH195 2 (by decide)
    obtain ⟨hv_2, hr_2⟩ := hy_2
    obtain ⟨hs_3, hy_3⟩ := hH195 3 (by decide)
    obtain ⟨hv_3, hr_3⟩ := hy_3
    obtain ⟨hs_4, hy_4⟩ := hH195 4 (by decide)
    obtain ⟨hv_4, hr_4⟩ := hy_4
    obtain ⟨hs_5, hy_5⟩ := hH195 5 (by decide)
    obtain ⟨hv_5, hr_5⟩ := hy_5
    obtain ⟨hs_6, hy_6⟩ := hH195 6 (by decide)
    obtain ⟨hv_6, hr_6⟩ := hy_6
    obtain ⟨hs_7, hy_7⟩ := hH195 7 (by decide)
    obtain ⟨hv_7, hr_7⟩ := hy_7
    have hS197 : Sep (fun b => b = bm) w w192 [(blk b183 42 [(Value.int .i64 (stLo plan ((allowedF R rs).getD q []))), (Value.int .i64 (stHi plan ((allowedF R rs).getD q [])))]), (blk b69 42 [(Value.int .i64 (stLo plan ((allowedF R rs).getD q []))), (Value.int .i64 (stHi plan ((allowedF R rs).getD q [])))]), (obR l40 (.loop (rc42 .busy none))), (marksR (D41 :: [])), G43, (blk b48 104 (ints ((allowedF R rs).getD q []))), (blk bx32 97 [(bptr bj 0)]), (blk b19 4 [(Value.bool (decide (q = 0)))]), (blk b14 104 (ints (mostF plan (allowedF R rs) q))), (blk b9 104 (ints ((allowedF R rs).getD q []))), (blk b4 58 [vp]), (rob bj 119 [vr, vu, (Value.map (some bm))]), (sl vr 2 R.length (pairs R)), (sl vu 3 rs.length (vtrips (runV lv rs))), (segsR false lv rs), (sl vp 3 plan.length (trips plan))] := by rw [show catR rsf196 0 8 = ([] : List Res) by (try simp only [catR, hr_0, hr_1, hr_2, hr_3, hr_4, hr_5, hr_6, hr_7]); (try rfl)] at hS194; exact hS194
    rw [hv_1] at hs_1
    have hA198 : Fr 43 [] [(31, (Value.bool false)), (9, (bptr b183 0)), (7, (bptr b48 0)), (6, (bptr b19 0)), (5, (bptr b14 0)), (3, (bptr b4 0))] a191 := hA193.add (slot_ev hs_1 rfl); clear hA193
    rw [hv_3] at hs_3
    have hA199 : Fr 43 [] [(33, (Value.int .i64 (stHi plan ((allowedF R rs).getD q [])))), (31, (Value.bool false)), (9, (bptr b183 0)), (7, (bptr b48 0)), (6, (bptr b19 0)), (5, (bptr b14 0)), (3, (bptr b4 0))] a191 := hA198.add (slot_ev hs_3 rfl); clear hA198
    rw [hv_7] at hs_7
    have hA200 : Fr 43 [] [(37, (Value.int .i64 (stHi plan (mostF plan (allowedF R rs) q)))), (33, (Value.int .i64 (stHi plan ((allowedF R rs).getD q [])))), (31, (Value.bool false)), (9, (bptr b183 0)), (7, (bptr b48 0)), (6, (bptr b19 0)), (5, (bptr b14 0)), (3, (bptr b4 0))] a191 := hA199.add (slot_ev hs_7 rfl); clear hA199
    clear hH195 hS194 hs_0 hs_1 hs_2 hs_3 hs_4 hs_5 hs_6 hs_7
    clear hr_0
    clear hv_0
    clear hr_1
    clear hv_1
    clear hr_2
    clear hv_2
    clear hr_3
    clear hv_3
    clear hr_4
    clear hv_4
    clear hr_5
    clear hv_5
    clear hr_6
    clear hv_6
    clear hr_7
    clear hv_7
    refine stg hA200 (op_gtr rfl (hA200.ev rfl) (hA200.ev rfl)) rfl rfl rfl rfl (by decide) fun a201 hA202 => ?_; clear hA200 a191
    refine st hA202 (op_pick_f rfl (hA202.ev rfl) (hA202.ev rfl)) rfl rfl (by decide) fun a203 hA204 => ?_; clear hA202 a201
    refine wl_nil ?_
    refine then_n ?_
    by_cases hb205 : (stHi plan (mostF plan (allowedF R rs) q)) < (stHi plan ((allowedF R rs).getD q []))
    ·skip
     rw [decide_eq_true hb205] at hA204
     refine c_true hA204 rfl ?_
     have hA206 := hA204.as [(7, (bptr b48 0)), (6, (bptr b19 0)), (5, (bptr b14 0))] rfl; clear hA204
     refine c_region ?_
     refine st hA206 (op_loadA rfl ty_104 (hA206.ev rfl) (hS197.bk 5 rfl) (l := (ints ((allowedF R rs).getD q []))) (drop_take_all _ _ (allowed_len3 hR hq).symm) (allowed_len3 hR hq).symm) rfl rfl (by decide) fun a207 hA208 => ?_; clear hA206 a203
     refine sts hA208 (op_store hS197 rfl ty_104 (hA208.ev rfl) (hA208.ev rfl) (i := 8) rfl (vs := (ints ((allowedF R rs).getD q []))) rfl (allowed_len3 hR hq).symm (ints_one _) (by first | (simp only [ints, List.length_map, List.length_set]; omega) | (have h2_ := (show (ints (mostF plan (allowedF R rs) q)).length = 3 from (by rw [ints, List.length_map]; exact (most_rates (fun k hk => (allowed_rates hR hk).1) _ (by omega)).1)); omega))) rfl rfl ?_
     intro _ w209 hS210 hA212; have hS211 := hS210.blk_say (i := 8) rfl (cs' := (ints ((allowedF R rs).getD q []))) (setFrom_all _ _ (by first | (simp only [ints, List.length_map, List.length_set]; omega) | (have h1_ := (show (ints ((allowedF R rs).getD q [])).length = 3 from (allowed_len3 hR hq).symm); have h2_ := (show (ints (mostF plan (allowedF R rs) q)).length = 3 from (by rw [ints, List.length_map]; exact (most_rates (fun k hk => (allowed_rates hR hk).1) _ (by omega)).1)); omega))); clear hS210 hA208 hS197
     refine wl_nil ?_
     refine then_n ?_
     refine c_region ?_
     refine sts hA212 (op_store hS211 rfl ty_4 (hA212.ev rfl) (evc _ _) (i := 7) rfl (vs := [(Value.bool false)]) rfl rfl rfl (Nat.le_of_ble_eq_true rfl)) rfl rfl ?_
     intro _ w213 hS214 hA215; clear hA212
     have hS216 : Sep (fun b => b = bm) w w213 [(blk b183 42 [(Value.int .i64 (stLo plan ((allowedF R rs).getD q []))), (Value.int .i64 (stHi plan ((allowedF R rs).getD q [])))]), (blk b69 42 [(Value.int .i64 (stLo plan ((allowedF R rs).getD q []))), (Value.int .i64 (stHi plan ((allowedF R rs).getD q [])))]), (obR l40 (.loop (rc42 .busy none))), (marksR (D41 :: [])), G43, (blk b48 104 (ints ((allowedF R rs).getD q []))), (blk bx32 97 [(bptr bj 0)]), (blk b19 4 [(Value.bool false)]), (blk b14 104 (ints ((allowedF R rs).getD q []))), (blk b9 104 (ints ((allowedF R rs).getD q []))), (blk b4 58 [vp]), (rob bj 119 [vr, vu, (Value.map (some bm))]), (sl vr 2 R.length (pairs R)), (sl vu 3 rs.length (vtrips (runV lv rs))), (segsR false lv rs), (sl vp 3 plan.length (trips plan))] := hS214; clear hS214 hS211
     refine wl_nil ?_
     refine blk_n ?_
     have hS217 : Sep (fun b => b = bm) w w213 [(obR l40 (.loop (rc42 .busy none))), (marksR (D41 :: [])), G43, (blk bx32 97 [(bptr bj 0)]), (blk b19 4 [(Value.bool false)]), (blk b14 104 (ints ((allowedF R rs).getD q []))), (blk b9 104 (ints ((allowedF R rs).getD q []))), (blk b4 58 [vp]), (rob bj 119 [vr, vu, (Value.map (some bm))]), (sl vr 2 R.length (pairs R)), (sl vu 3 rs.length (vtrips (runV lv rs))), (segsR false lv rs), (sl vp 3 plan.length (trips plan))] := hS216.keep [2, 3, 4, 6, 7, 8, 9, 10, 11, 12, 13, 14, 15] (by decide) _ rfl rfl; clear hS216
     exact re_n ⟨_, rfl, rfl⟩ (((hS217.blk_say (i := 6) rfl (cs' := ints (leastF plan (allowedF R rs) (q + 1))) (congrArg ints (by first | exact (least_a (by assumption)).symm | exact (least_b (by assumption)).symm | exact (least_c (by assumption) (by assumption)).symm))).blk_say (i := 5) rfl (cs' := ints (mostF plan (allowedF R rs) (q + 1))) (congrArg ints (by first | exact (most_a (by assumption)).symm | exact (most_b (by assumption)).symm | exact (most_c (by assumption) (by assumption)).symm))).blk_say (i := 4) rfl (cs' := [Value.bool (decide (q + 1 = 0))]) (by rw [decide_eq_false (Nat.succ_ne_zero q)]))
    ·skip
     rw [decide_eq_false hb205] at hA204
     refine c_false hA204 rfl ?_
     refine c_skip ?_
     refine then_n ?_
     have hA218 := hA204.as [(6, (bptr b19 0))] rfl; clear hA204
     refine c_region ?_
     refine sts hA218 (op_store hS197 rfl ty_4 (hA218.ev rfl) (evc _ _) (i := 7) rfl (vs := [(Value.bool false)]) rfl rfl rfl (Nat.le_of_ble_eq_true rfl)) rfl rfl ?_
     intro _ w219 hS220 hA221; clear hA218
     have hS222 : Sep (fun b => b = bm) w w219 [(blk b183 42 [(Value.int .i64 (stLo plan ((allowedF R rs).getD q []))), (Value.int .i64 (stHi plan ((allowedF R rs).getD q [])))]), (blk b69 42 [(Value.int .i64 (stLo plan ((allowedF R rs).getD q []))), (Value.int .i64 (stHi plan ((allowedF R rs).getD q [])))]), (obR l40 (.loop (rc42 .busy none))), (marksR (D41 :: [])), G43, (blk b48 104 (ints ((allowedF R rs).getD q []))), (blk bx32 97 [(bptr bj 0)]), (blk b19 4 [(Value.bool false)]), (blk b14 104 (ints (mostF plan (allowedF R rs) q))), (blk b9 104 (ints ((allowedF R rs).getD q []))), (blk b4 58 [vp]), (rob bj 119 [vr, vu, (Value.map (some bm))]), (sl vr 2 R.length (pairs R)), (sl vu 3 rs.length (vtrips (runV lv rs))), (segsR false lv rs), (sl vp 3 plan.length (trips plan))] := hS220; clear hS220 hS197
     refine wl_nil ?_
     refine blk_n ?_
     have hS223 : Sep (fun b => b = bm) w w219 [(obR l40 (.loop (rc42 .busy none))), (marksR (D41 :: [])), G43, (blk bx32 97 [(bptr bj 0)]), (blk b19 4 [(Value.bool false)]), (blk b14 104 (ints (mostF plan (allowedF R rs) q))), (blk b9 104 (ints ((allowedF R rs).getD q []))), (blk b4 58 [vp]), (rob bj 119 [vr, vu, (Value.map (some bm))]), (sl vr 2 R.length (pairs R)), (sl vu 3 rs.length (vtrips (runV lv rs))), (segsR false lv rs), (sl vp 3 plan.length (trips plan))] := hS222.keep [2, 3, 4, 6, 7, 8, 9, 10, 11, 12, 13, 14, 15] (by decide) _ rfl rfl; clear hS222
     exact re_n ⟨_, rfl, rfl⟩ (((hS223.blk_say (i := 6) rfl (cs' := ints (leastF plan (allowedF R rs) (q + 1))) (congrArg ints (by first | exact (least_a (by assumption)).symm | exact (least_b (by assumption)).symm | exact (least_c (by assumption) (by assumption)).symm))).blk_say (i := 5) rfl (cs' := ints (mostF plan (allowedF R rs) (q + 1))) (congrArg ints (by first | exact (most_a (by assumption)).symm | exact (most_b (by assumption)).symm | exact (most_c (by assumption) (by assumption)).symm))).blk_say (i := 4) rfl (cs' := [Value.bool (decide (q + 1 = 0))]) (by rw [decide_eq_false (Nat.succ_ne_zero q)]))
   ·skip
    rw [decide_eq_false hb163] at hA162
    refine c_false hA162 rfl ?_
    refine c_skip ?_
    refine then_n ?_
    refine c_seq ?_
    refine c_seq ?_
    have hA224 := hA162.as [(7, (bptr b48 0)), (6, (bptr b19 0)), (5, (bptr b14 0)), (3, (bptr b4 0))] rfl; clear hA162
    refine c_region ?_
    refine st hA224 (op_load1 rfl ty_58 (hA224.ev rfl) (hS155.bk 9 rfl) rfl) rfl rfl (by decide) fun a225 hA226 => ?_; clear hA224 a161
    refine st hA226 (op_loadA rfl ty_104 (hA226.ev rfl) (hS155.bk 4 rfl) (l := (ints ((allowedF R rs).getD q []))) (drop_take_all _ _ (allowed_len3 hR hq).symm) (allowed_len3 hR hq).symm) rfl rfl (by decide) fun a227 hA228 => ?_; clear hA226 a225
    refine stw hA228 (op_call rfl en_60 (ev2 (hA228.ev rfl) (hA228.ev rfl)) (stretch_ok plan _ ((allowedF R rs).getD q []) R.length _ (by omega) hR.1 (allowed_rates hR hq).1 hs (hS155.sk 14 rfl))) rfl rfl (by decide) ?_
    rintro a229 _ w231 ⟨rfl, hE232⟩ hA230; have hS233 := hS155.step hE232; clear hE232 hA228 hS155 a227
    refine stw hA230 (op_alloc hS233 rfl ze_42 (cs := [(Value.int .i64 0), (Value.int .i64 0)]) rfl) rfl rfl (by decide) ?_
    rintro a234 _ w236 ⟨b237, rfl, hS238⟩ hA235; clear hA230 hS233 a229
    refine sts hA235 (op_store hS238 rfl ty_42 (hA235.ev rfl) (hA235.ev rfl) (i := 0) rfl (vs := [(Value.int .i64 (stLo plan ((allowedF R rs).getD q []))), (Value.int .i64 (stHi plan ((allowedF R rs).getD q [])))]) rfl rfl rfl (Nat.le_of_ble_eq_true rfl)) rfl rfl ?_
    intro _ w239 hS240 hA241; clear hA235
    have hS242 : Sep (fun b => b = bm) w w239 [(blk b237 42 [(Value.int .i64 (stLo plan ((allowedF R rs).getD q []))), (Value.int .i64 (stHi plan ((allowedF R rs).getD q [])))]), (blk b69 42 [(Value.int .i64 (stLo plan ((allowedF R rs).getD q []))), (Value.int .i64 (stHi plan ((allowedF R rs).getD q [])))]), (obR l40 (.loop (rc42 .busy none))), (marksR (D41 :: [])), G43, (blk b48 104 (ints ((allowedF R rs).getD q []))), (blk bx32 97 [(bptr bj 0)]), (blk b19 4 [(Value.bool (decide (q = 0)))]), (blk b14 104 (ints (mostF plan (allowedF R rs) q))), (blk b9 104 (ints (leastF plan (allowedF R rs) q))), (blk b4 58 [vp]), (rob bj 119 [vr, vu, (Value.map (some bm))]), (sl vr 2 R.length (pairs R)), (sl vu 3 rs.length (vtrips (runV lv rs))), (segsR false lv rs), (sl vp 3 plan.length (trips plan))] := hS240; clear hS240 hS238
    refine wl_nil ?_
    refine then_n ?_
    refine c_seq ?_
    have hA243 := hA241.as [(9, (bptr b237 0)), (7, (bptr b48 0)), (6, (bptr b19 0)), (5, (bptr b14 0)), (3, (bptr b4 0))] rfl; clear hA241
    refine c_drawV mixed hA243 hS242 8 [[], [0], [1], [1, 2], [1], [1], [1, 4, 5], [1, 6]] [(fun (vs244 : Nat → Value) (v_ : Value) (rs_ : List Res) => v_ = (Value.bool false) ∧ rs_ = []), (fun (vs244 : Nat → Value) (v_ : Value) (rs_ : List Res) => v_ = (Value.bool false) ∧ rs_ = []), (fun (vs244 : Nat → Value) (v_ : Value) (rs_ : List Res) => v_ = (bptr b237 1) ∧ rs_ = []), (fun (vs244 : Nat → Value) (v_ : Value) (rs_ : List Res) => v_ = (Value.int .i64 (stHi plan ((allowedF R rs).getD q []))) ∧ rs_ = []), (fun (vs244 : Nat → Value) (v_ : Value) (rs_ : List Res) => v_ = vp ∧ rs_ = []), (fun (vs244 : Nat → Value) (v_ : Value) (rs_ : List Res) => v_ = (Value.agg (ints (mostF plan (allowedF R rs) q)).toArray) ∧ rs_ = []), (fun (vs244 : Nat → Value) (v_ : Value) (rs_ : List Res) => v_ = (Value.agg #[(Value.int .i64 (stLo plan (mostF plan (allowedF R rs) q))), (Value.int .i64 (stHi plan (mostF plan (allowedF R rs) q)))]) ∧ rs_ = []), (fun (vs244 : Nat → Value) (v_ : Value) (rs_ : List Res) => v_ = (Value.int .i64 (stHi plan (mostF plan (allowedF R rs) q))) ∧ rs_ = [])] (by decide +kernel) (by decide +kernel) rfl rfl ⟨(fun _ _ _ _ _ h_ => h_), (fun _ _ _ _ _ h_ => h_), (fun _ _ _ _ _ h_ => h_), (fun _ _ _ _ _ h_ => h_), (fun _ _ _ _ _ h_ => h_), (fun _ _ _ _ _ h_ => h_), (fun _ _ _ _ _ h_ => h_), (fun _ _ _ _ _ h_ => h_), trivial⟩ ?_ ?_
    ·skip
     refine ⟨fun a w vs244 hA hS hd => ?_, ?_⟩
     ·skip
      exact opG_of rfl (vv (op_load1 rfl ty_4 (hA.ev rfl) (hS.bk 7 rfl) rfl) (And.intro (by show Value.bool _ = _; simp only [hb77, decide_true, decide_false, Bool.not_true, Bool.not_false]) rfl))
     refine ⟨fun a w vs244 hA hS hd => ?_, ?_⟩
     ·skip
      obtain ⟨e0, rs0, hy0, hp0⟩ := hd 0 (by decide)
      obtain ⟨hv0, hr0⟩ := hy0; subst hr0
      rw [hv0] at e0
      exact opG_of rfl (vv (op_move rfl (tmp_ev (slot_ev e0 rfl))) (And.intro rfl rfl))
     refine ⟨fun a w vs244 hA hS hd => ?_, ?_⟩
     ·skip
      obtain ⟨e1, rs1, hy1, hp1⟩ := hd 1 (by decide)
      obtain ⟨hv1, hr1⟩ := hy1; subst hr1
      rw [hv1] at e1
      exact opG_yes rfl rfl (slot_ev e1 rfl) (vv (op_field rfl fd_42_1 (hA.ev rfl)) (And.intro rfl rfl))
     refine ⟨fun a w vs244 hA hS hd => ?_, ?_⟩
     ·skip
      obtain ⟨e1, rs1, hy1, hp1⟩ := hd 1 (by decide)
      obtain ⟨hv1, hr1⟩ := hy1; subst hr1
      rw [hv1] at e1
      obtain ⟨e2, rs2, hy2, hp2⟩ := hd 2 (by decide)
      obtain ⟨hv2, hr2⟩ := hy2; subst hr2
      rw [hv2] at e2
      exact opG_yes rfl rfl (slot_ev e1 rfl) (vv (op_load1 rfl ty_3 (tmp_ev (slot_ev e2 rfl)) (hS.bk 0 rfl) rfl) (And.intro rfl rfl))
     refine ⟨fun a w vs244 hA hS hd => ?_, ?_⟩
     ·skip
      obtain ⟨e1, rs1, hy1, hp1⟩ := hd 1 (by decide)
      obtain ⟨hv1, hr1⟩ := hy1; subst hr1
      rw [hv1] at e1
      exact opG_yes rfl rfl (slot_ev e1 rfl) (vv (op_load1 rfl ty_58 (hA.ev rfl) (hS.bk 10 rfl) rfl) (And.intro rfl rfl))
     refine ⟨fun a w vs244 hA hS hd => ?_, ?_⟩
     ·skip
      obtain ⟨e1, rs1, hy1, hp1⟩ := hd 1 (by decide)
      obtain ⟨hv1, hr1⟩ := hy1; subst hr1
      rw [hv1] at e1
      exact opG_yes rfl rfl (slot_ev e1 rfl) (vv (op_loadA rfl ty_104 (hA.ev rfl) (hS.bk 8 rfl) (l := (ints (mostF plan (allowedF R rs) q))) (drop_take_all _ _ (by rw [ints, List.length_map]; exact (most_rates (fun k hk => (allowed_rates hR hk).1) _ (by omega)).1)) (by rw [ints, List.length_map]; exact (most_rates (fun k hk => (allowed_rates hR hk).1) _ (by omega)).1)) (And.intro rfl rfl))
     refine ⟨fun a w vs244 hA hS hd => ?_, ?_⟩
     ·skip
      obtain ⟨e1, rs1, hy1, hp1⟩ := hd 1 (by decide)
      obtain ⟨hv1, hr1⟩ := hy1; subst hr1
      rw [hv1] at e1
      obtain ⟨e4, rs4, hy4, hp4⟩ := hd 4 (by decide)
      obtain ⟨hv4, hr4⟩ := hy4; subst hr4
      rw [hv4] at e4
      obtain ⟨e5, rs5, hy5, hp5⟩ := hd 5 (by decide)
      obtain ⟨hv5, hr5⟩ := hy5; subst hr5
      rw [hv5] at e5
      exact opG_yes rfl rfl (slot_ev e1 rfl) (vx (op_call rfl en_60 (ev2 (tmp_ev (slot_ev e4 rfl)) (tmp_ev (slot_ev e5 rfl))) (stretch_ok plan _ (mostF plan (allowedF R rs) q) R.length _ (by omega) hR.1 (most_rates (fun k hk => (allowed_rates hR hk).1) q (by omega)) hs (hS.sk 15 rfl))) (And.intro rfl rfl))
     refine ⟨fun a w vs244 hA hS hd => ?_, ?_⟩
     ·skip
      obtain ⟨e1, rs1, hy1, hp1⟩ := hd 1 (by decide)
      obtain ⟨hv1, hr1⟩ := hy1; subst hr1
      rw [hv1] at e1
      obtain ⟨e6, rs6, hy6, hp6⟩ := hd 6 (by decide)
      obtain ⟨hv6, hr6⟩ := hy6; subst hr6
      rw [hv6] at e6
      exact opG_yes rfl rfl (slot_ev e1 rfl) (vv (op_fieldV rfl (tmp_ev (slot_ev e6 rfl)) (bd_fv_42_1_i64i64 _ _)) (And.intro rfl rfl))
     trivial
    intro a245 w246 vs244 rsf250 hA247 hH249 hS248; clear hA243 hS242
    obtain ⟨hs_0, hy_0⟩ := hH249 0 (by decide)
    obtain ⟨hv_0, hr_0⟩ := hy_0
    obtain ⟨hs_1, hy_1⟩ := hH249 1 (by decide)
    obtain ⟨hv_1, hr_1⟩ := hy_1
    obtain ⟨hs_2, hy_2⟩ := hH249 2 (by decide)
    obtain ⟨hv_2, hr_2⟩ := hy_2
    obtain ⟨hs_3, hy_3⟩ := hH249 3 (by decide)
    obtain ⟨hv_3, hr_3⟩ := hy_3
    obtain ⟨hs_4, hy_4⟩ := hH249 4 (by decide)
    obtain ⟨hv_4, hr_4⟩ := hy_4
    obtain ⟨hs_5, hy_5⟩ := hH249 5 (by decide)
    obtain ⟨hv_5, hr_5⟩ := hy_5
    obtain ⟨hs_6, hy_6⟩ := hH249 6 (by decide)
    obtain ⟨hv_6, hr_6⟩ := hy_6
    obtain ⟨hs_7, hy_7⟩ := hH249 7 (by decide)
    obtain ⟨hv_7, hr_7⟩ := hy_7
    have hS251 : Sep (fun b => b = bm) w w246 [(blk b237 42 [(Value.int .i64 (stLo plan ((allowedF R rs).getD q []))), (Value.int .i64 (stHi plan ((allowedF R rs).getD q [])))]), (blk b69 42 [(Value.int .i64 (stLo plan ((allowedF R rs).getD q []))), (Value.int .i64 (stHi plan ((allowedF R rs).getD q [])))]), (obR l40 (.loop (rc42 .busy none))), (marksR (D41 :: [])), G43, (blk b48 104 (ints ((allowedF R rs).getD q []))), (blk bx32 97 [(bptr bj 0)]), (blk b19 4 [(Value.bool (decide (q = 0)))]), (blk b14 104 (ints (mostF plan (allowedF R rs) q))), (blk b9 104 (ints (leastF plan (allowedF R rs) q))), (blk b4 58 [vp]), (rob bj 119 [vr, vu, (Value.map (some bm))]), (sl vr 2 R.length (pairs R)), (sl vu 3 rs.length (vtrips (runV lv rs))), (segsR false lv rs), (sl vp 3 plan.length (trips plan))] := by rw [show catR rsf250 0 8 = ([] : List Res) by (try simp only [catR, hr_0, hr_1, hr_2, hr_3, hr_4, hr_5, hr_6, hr_7]); (try rfl)] at hS248; exact hS248
    rw [hv_1] at hs_1
    have hA252 : Fr 43 [] [(31, (Value.bool false)), (9, (bptr b237 0)), (7, (bptr b48 0)), (6, (bptr b19 0)), (5, (bptr b14 0)), (3, (bptr b4 0))] a245 := hA247.add (slot_ev hs_1 rfl); clear hA247
    rw [hv_3] at hs_3
    have hA253 : Fr 43 [] [(33, (Value.int .i64 (stHi plan ((allowedF R rs).getD q [])))), (31, (Value.bool false)), (9, (bptr b237 0)), (7, (bptr b48 0)), (6, (bptr b19 0)), (5, (bptr b14 0)), (3, (bptr b4 0))] a245 := hA252.add (slot_ev hs_3 rfl); clear hA252
    rw [hv_7] at hs_7
    have hA254 : Fr 43 [] [(37, (Value.int .i64 (stHi plan (mostF plan (allowedF R rs) q)))), (33, (Value.int .i64 (stHi plan ((allowedF R rs).getD q [])))), (31, (Value.bool false)), (9, (bptr b237 0)), (7, (bptr b48 0)), (6, (bptr b19 0)), (5, (bptr b14 0)), (3, (bptr b4 0))] a245 := hA253.add (slot_ev hs_7 rfl); clear hA253
    clear hH249 hS248 hs_0 hs_1 hs_2 hs_3 hs_4 hs_5 hs_6 hs_7
    clear hr_0
    clear hv_0
    clear hr_1
    clear hv_1
    clear hr_2
    clear hv_2
    clear hr_3
    clear hv_3
    clear hr_4
    clear hv_4
    clear hr_5
    clear hv_5
    clear hr_6
    clear hv_6
    clear hr_7
    clear hv_7
    refine stg hA254 (op_gtr rfl (hA254.ev rfl) (hA254.ev rfl)) rfl rfl rfl rfl (by decide) fun a255 hA256 => ?_; clear hA254 a245
    refine st hA256 (op_pick_f rfl (hA256.ev rfl) (hA256.ev rfl)) rfl rfl (by decide) fun a257 hA258 => ?_; clear hA256 a255
    refine wl_nil ?_
    refine then_n ?_
    by_cases hb259 : (stHi plan (mostF plan (allowedF R rs) q)) < (stHi plan ((allowedF R rs).getD q []))
    ·skip
     rw [decide_eq_true hb259] at hA258
     refine c_true hA258 rfl ?_
     have hA260 := hA258.as [(7, (bptr b48 0)), (6, (bptr b19 0)), (5, (bptr b14 0))] rfl; clear hA258
     refine c_region ?_
     refine st hA260 (op_loadA rfl ty_104 (hA260.ev rfl) (hS251.bk 5 rfl) (l := (ints ((allowedF R rs).getD q []))) (drop_take_all _ _ (allowed_len3 hR hq).symm) (allowed_len3 hR hq).symm) rfl rfl (by decide) fun a261 hA262 => ?_; clear hA260 a257
     refine sts hA262 (op_store hS251 rfl ty_104 (hA262.ev rfl) (hA262.ev rfl) (i := 8) rfl (vs := (ints ((allowedF R rs).getD q []))) rfl (allowed_len3 hR hq).symm (ints_one _) (by first | (simp only [ints, List.length_map, List.length_set]; omega) | (have h2_ := (show (ints (mostF plan (allowedF R rs) q)).length = 3 from (by rw [ints, List.length_map]; exact (most_rates (fun k hk => (allowed_rates hR hk).1) _ (by omega)).1)); omega))) rfl rfl ?_
     intro _ w263 hS264 hA266; have hS265 := hS264.blk_say (i := 8) rfl (cs' := (ints ((allowedF R rs).getD q []))) (setFrom_all _ _ (by first | (simp only [ints, List.length_map, List.length_set]; omega) | (have h1_ := (show (ints ((allowedF R rs).getD q [])).length = 3 from (allowed_len3 hR hq).symm); have h2_ := (show (ints (mostF plan (allowedF R rs) q)).length = 3 from (by rw [ints, List.length_map]; exact (most_rates (fun k hk => (allowed_rates hR hk).1) _ (by omega)).1)); omega))); clear hS264 hA262 hS251
     refine wl_nil ?_
     refine then_n ?_
     refine c_region ?_
     refine sts hA266 (op_store hS265 rfl ty_4 (hA266.ev rfl) (evc _ _) (i := 7) rfl (vs := [(Value.bool false)]) rfl rfl rfl (Nat.le_of_ble_eq_true rfl)) rfl rfl ?_
     intro _ w267 hS268 hA269; clear hA266
     have hS270 : Sep (fun b => b = bm) w w267 [(blk b237 42 [(Value.int .i64 (stLo plan ((allowedF R rs).getD q []))), (Value.int .i64 (stHi plan ((allowedF R rs).getD q [])))]), (blk b69 42 [(Value.int .i64 (stLo plan ((allowedF R rs).getD q []))), (Value.int .i64 (stHi plan ((allowedF R rs).getD q [])))]), (obR l40 (.loop (rc42 .busy none))), (marksR (D41 :: [])), G43, (blk b48 104 (ints ((allowedF R rs).getD q []))), (blk bx32 97 [(bptr bj 0)]), (blk b19 4 [(Value.bool false)]), (blk b14 104 (ints ((allowedF R rs).getD q []))), (blk b9 104 (ints (leastF plan (allowedF R rs) q))), (blk b4 58 [vp]), (rob bj 119 [vr, vu, (Value.map (some bm))]), (sl vr 2 R.length (pairs R)), (sl vu 3 rs.length (vtrips (runV lv rs))), (segsR false lv rs), (sl vp 3 plan.length (trips plan))] := hS268; clear hS268 hS265
     refine wl_nil ?_
     refine blk_n ?_
     have hS271 : Sep (fun b => b = bm) w w267 [(obR l40 (.loop (rc42 .busy none))), (marksR (D41 :: [])), G43, (blk bx32 97 [(bptr bj 0)]), (blk b19 4 [(Value.bool false)]), (blk b14 104 (ints ((allowedF R rs).getD q []))), (blk b9 104 (ints (leastF plan (allowedF R rs) q))), (blk b4 58 [vp]), (rob bj 119 [vr, vu, (Value.map (some bm))]), (sl vr 2 R.length (pairs R)), (sl vu 3 rs.length (vtrips (runV lv rs))), (segsR false lv rs), (sl vp 3 plan.length (trips plan))] := hS270.keep [2, 3, 4, 6, 7, 8, 9, 10, 11, 12, 13, 14, 15] (by decide) _ rfl rfl; clear hS270
     exact re_n ⟨_, rfl, rfl⟩ (((hS271.blk_say (i := 6) rfl (cs' := ints (leastF plan (allowedF R rs) (q + 1))) (congrArg ints (by first | exact (least_a (by assumption)).symm | exact (least_b (by assumption)).symm | exact (least_c (by assumption) (by assumption)).symm))).blk_say (i := 5) rfl (cs' := ints (mostF plan (allowedF R rs) (q + 1))) (congrArg ints (by first | exact (most_a (by assumption)).symm | exact (most_b (by assumption)).symm | exact (most_c (by assumption) (by assumption)).symm))).blk_say (i := 4) rfl (cs' := [Value.bool (decide (q + 1 = 0))]) (by rw [decide_eq_false (Nat.succ_ne_zero q)]))
    ·skip
     rw [decide_eq_false hb259] at hA258
     refine c_false hA258 rfl ?_
     refine c_skip ?_
     refine then_n ?_
     have hA272 := hA258.as [(6, (bptr b19 0))] rfl; clear hA258
     refine c_region ?_
     refine sts hA272 (op_store hS251 rfl ty_4 (hA272.ev rfl) (evc _ _) (i := 7) rfl (vs := [(Value.bool false)]) rfl rfl rfl (Nat.le_of_ble_eq_true rfl)) rfl rfl ?_
     intro _ w273 hS274 hA275; clear hA272
     have hS276 : Sep (fun b => b = bm) w w273 [(blk b237 42 [(Value.int .i64 (stLo plan ((allowedF R rs).getD q []))), (Value.int .i64 (stHi plan ((allowedF R rs).getD q [])))]), (blk b69 42 [(Value.int .i64 (stLo plan ((allowedF R rs).getD q []))), (Value.int .i64 (stHi plan ((allowedF R rs).getD q [])))]), (obR l40 (.loop (rc42 .busy none))), (marksR (D41 :: [])), G43, (blk b48 104 (ints ((allowedF R rs).getD q []))), (blk bx32 97 [(bptr bj 0)]), (blk b19 4 [(Value.bool false)]), (blk b14 104 (ints (mostF plan (allowedF R rs) q))), (blk b9 104 (ints (leastF plan (allowedF R rs) q))), (blk b4 58 [vp]), (rob bj 119 [vr, vu, (Value.map (some bm))]), (sl vr 2 R.length (pairs R)), (sl vu 3 rs.length (vtrips (runV lv rs))), (segsR false lv rs), (sl vp 3 plan.length (trips plan))] := hS274; clear hS274 hS251
     refine wl_nil ?_
     refine blk_n ?_
     have hS277 : Sep (fun b => b = bm) w w273 [(obR l40 (.loop (rc42 .busy none))), (marksR (D41 :: [])), G43, (blk bx32 97 [(bptr bj 0)]), (blk b19 4 [(Value.bool false)]), (blk b14 104 (ints (mostF plan (allowedF R rs) q))), (blk b9 104 (ints (leastF plan (allowedF R rs) q))), (blk b4 58 [vp]), (rob bj 119 [vr, vu, (Value.map (some bm))]), (sl vr 2 R.length (pairs R)), (sl vu 3 rs.length (vtrips (runV lv rs))), (segsR false lv rs), (sl vp 3 plan.length (trips plan))] := hS276.keep [2, 3, 4, 6, 7, 8, 9, 10, 11, 12, 13, 14, 15] (by decide) _ rfl rfl; clear hS276
     exact re_n ⟨_, rfl, rfl⟩ (((hS277.blk_say (i := 6) rfl (cs' := ints (leastF plan (allowedF R rs) (q + 1))) (congrArg ints (by first | exact (least_a (by assumption)).symm | exact (least_b (by assumption)).symm | exact (least_c (by assumption) (by assumption)).symm))).blk_say (i := 5) rfl (cs' := ints (mostF plan (allowedF R rs) (q + 1))) (congrArg ints (by first | exact (most_a (by assumption)).symm | exact (most_b (by assumption)).symm | exact (most_c (by assumption) (by assumption)).symm))).blk_say (i := 4) rfl (cs' := [Value.bool (decide (q + 1 = 0))]) (by rw [decide_eq_false (Nat.succ_ne_zero q)]))
 intro L_ hL_ D282 a278 w279 hA281 hS280; obtain ⟨rfl⟩ := hL_; clear hA33 hS34
 refine blk_n ?_
 refine then_n ?_
 refine c_seq ?_
 have hA283 := hA281.as [(5, (bptr b14 0)), (4, (bptr b9 0))] rfl; clear hA281
 refine c_drawF mixed hA283 hS280 2 1 rfl rfl [[], []] [(fun (vs284 : Nat → Value) (v_ : Value) (rs_ : List Res) => v_ = (Value.agg (ints (leastF plan (allowedF R rs) (allowedF R rs).length)).toArray) ∧ rs_ = []), (fun (vs284 : Nat → Value) (v_ : Value) (rs_ : List Res) => v_ = (Value.agg (ints (mostF plan (allowedF R rs) (allowedF R rs).length)).toArray) ∧ rs_ = [])] (by decide +kernel) (by decide +kernel) (by decide +kernel) rfl rfl ⟨(fun _ _ _ _ _ h_ => h_), (fun _ _ _ _ _ h_ => h_), trivial⟩ ?_ ?_ ?_
 ·skip
  refine ⟨fun a w vs284 hA hS hd => ?_, ?_⟩
  ·skip
   exact opG_of rfl (vv (op_loadA rfl ty_104 (hA.ev rfl) (hS.bk 5 rfl) (l := (ints (leastF plan (allowedF R rs) (allowedF R rs).length))) (drop_take_all _ _ (by rw [ints, List.length_map]; exact (least_rates (fun k hk => (allowed_rates hR hk).1) _ (by omega)).1)) (by rw [ints, List.length_map]; exact (least_rates (fun k hk => (allowed_rates hR hk).1) _ (by omega)).1)) (And.intro rfl rfl))
  refine ⟨fun a w vs284 hA hS hd => ?_, ?_⟩
  ·skip
   exact opG_of rfl (vv (op_loadA rfl ty_104 (hA.ev rfl) (hS.bk 4 rfl) (l := (ints (mostF plan (allowedF R rs) (allowedF R rs).length))) (drop_take_all _ _ (by rw [ints, List.length_map]; exact (most_rates (fun k hk => (allowed_rates hR hk).1) _ (by omega)).1)) (by rw [ints, List.length_map]; exact (most_rates (fun k hk => (allowed_rates hR hk).1) _ (by omega)).1)) (And.intro rfl rfl))
  trivial
 ·skip
  intro a285 w286 vs284 rsf290 hA287 hH289 hS288; clear hA283 hS280
  obtain ⟨hs_0, hy_0⟩ := hH289 0 (by decide)
  obtain ⟨hv_0, hr_0⟩ := hy_0
  obtain ⟨hs_1, hy_1⟩ := hH289 1 (by decide)
  obtain ⟨hv_1, hr_1⟩ := hy_1
  have hS291 : Sep (fun b => b = bm) w w286 [(marksR (D282 :: [])), (memo bm (KA rs)), (blk bx32 97 [(bptr bj 0)]), (blk b19 4 [(Value.bool (decide ((allowedF R rs).length = 0)))]), (blk b14 104 (ints (mostF plan (allowedF R rs) (allowedF R rs).length))), (blk b9 104 (ints (leastF plan (allowedF R rs) (allowedF R rs).length))), (blk b4 58 [vp]), (rob bj 119 [vr, vu, (Value.map (some bm))]), (sl vr 2 R.length (pairs R)), (sl vu 3 rs.length (vtrips (runV lv rs))), (segsR false lv rs), (sl vp 3 plan.length (trips plan))] := by rw [show catR rsf290 0 2 = ([] : List Res) by (try simp only [catR, hr_0, hr_1]); (try rfl)] at hS288; exact hS288
  rw [hv_0] at hs_0
  have hA292 : Fr 43 (marks (D282 :: [])) [(41, (Value.agg (ints (leastF plan (allowedF R rs) (allowedF R rs).length)).toArray)), (5, (bptr b14 0)), (4, (bptr b9 0))] a285 := hA287.add (slot_ev hs_0 rfl); clear hA287
  rw [hv_1] at hs_1
  have hA293 : Fr 43 (marks (D282 :: [])) [(42, (Value.agg (ints (mostF plan (allowedF R rs) (allowedF R rs).length)).toArray)), (41, (Value.agg (ints (leastF plan (allowedF R rs) (allowedF R rs).length)).toArray)), (5, (bptr b14 0)), (4, (bptr b9 0))] a285 := hA292.add (slot_ev hs_1 rfl); clear hA292
  clear hH289 hS288 hs_0 hs_1
  clear hr_0
  clear hv_0
  clear hr_1
  clear hv_1
  refine sts hA293 (op_store hS291 rfl ty_104 (hA293.ev rfl) (hA293.ev rfl) (i := 5) rfl (vs := (ints (leastF plan (allowedF R rs) (allowedF R rs).length))) rfl (by rw [ints, List.length_map]; exact (least_rates (fun k hk => (allowed_rates hR hk).1) _ (by omega)).1) (ints_one _) (by first | (simp only [ints, List.length_map, List.length_set]; omega) | (have h2_ := (show (ints (leastF plan (allowedF R rs) (allowedF R rs).length)).length = 3 from (by rw [ints, List.length_map]; exact (least_rates (fun k hk => (allowed_rates hR hk).1) _ (by omega)).1)); omega))) rfl rfl ?_
  intro _ w294 hS295 hA297; have hS296 := hS295.blk_say (i := 5) rfl (cs' := (ints (leastF plan (allowedF R rs) (allowedF R rs).length))) (setFrom_all _ _ (by first | (simp only [ints, List.length_map, List.length_set]; omega) | (have h1_ := (show (ints (leastF plan (allowedF R rs) (allowedF R rs).length)).length = 3 from (by rw [ints, List.length_map]; exact (least_rates (fun k hk => (allowed_rates hR hk).1) _ (by omega)).1)); have h2_ := (show (ints (leastF plan (allowedF R rs) (allowedF R rs).length)).length = 3 from (by rw [ints, List.length_map]; exact (least_rates (fun k hk => (allowed_rates hR hk).1) _ (by omega)).1)); omega))); clear hS295 hA293 hS291
  refine sts hA297 (op_store hS296 rfl ty_104 (hA297.ev rfl) (hA297.ev rfl) (i := 4) rfl (vs := (ints (mostF plan (allowedF R rs) (allowedF R rs).length))) rfl (by rw [ints, List.length_map]; exact (most_rates (fun k hk => (allowed_rates hR hk).1) _ (by omega)).1) (ints_one _) (by first | (simp only [ints, List.length_map, List.length_set]; omega) | (have h2_ := (show (ints (mostF plan (allowedF R rs) (allowedF R rs).length)).length = 3 from (by rw [ints, List.length_map]; exact (most_rates (fun k hk => (allowed_rates hR hk).1) _ (by omega)).1)); omega))) rfl rfl ?_
  intro _ w298 hS299 hA301; have hS300 := hS299.blk_say (i := 4) rfl (cs' := (ints (mostF plan (allowedF R rs) (allowedF R rs).length))) (setFrom_all _ _ (by first | (simp only [ints, List.length_map, List.length_set]; omega) | (have h1_ := (show (ints (mostF plan (allowedF R rs) (allowedF R rs).length)).length = 3 from (by rw [ints, List.length_map]; exact (most_rates (fun k hk => (allowed_rates hR hk).1) _ (by omega)).1)); have h2_ := (show (ints (mostF plan (allowedF R rs) (allowedF R rs).length)).length = 3 from (by rw [ints, List.length_map]; exact (most_rates (fun k hk => (allowed_rates hR hk).1) _ (by omega)).1)); omega))); clear hS299 hA297 hS296
  refine wl_nil ?_
  refine then_n ?_
  refine c_ret ?_
  refine fin_runM hA301 (.inl rfl) hS300 ?_
  intro w302 hS303; clear hS300
  refine ⟨_, (run_results2 hA301 rfl (.cellA rfl ty_104 (hS303.bk 4 rfl) (l := (ints (leastF plan (allowedF R rs) (allowedF R rs).length))) (drop_take_all _ _ (by rw [ints, List.length_map]; exact (least_rates (fun k hk => (allowed_rates hR hk).1) _ (by omega)).1)) (by rw [ints, List.length_map]; exact (least_rates (fun k hk => (allowed_rates hR hk).1) _ (by omega)).1)) (.cellA rfl ty_104 (hS303.bk 3 rfl) (l := (ints (mostF plan (allowedF R rs) (allowedF R rs).length))) (drop_take_all _ _ (by rw [ints, List.length_map]; exact (most_rates (fun k hk => (allowed_rates hR hk).1) _ (by omega)).1)) (by rw [ints, List.length_map]; exact (most_rates (fun k hk => (allowed_rates hR hk).1) _ (by omega)).1))), ?_⟩
  exact ⟨rfl, hS303.ext, hS303.ok 0 _ rfl⟩
 ·skip
  intro a304 w305 vs284 rsf309 hA306 hH308 hrq hS307; clear hA283 hS280
  obtain ⟨hs_0, hy_0⟩ := hH308 0 (by decide) (by decide)
  obtain ⟨hv_0, hr_0⟩ := hy_0
  have hS310 : Sep (fun b => b = bm) w w305 [(marksR (D282 :: [])), (memo bm (KA rs)), (blk bx32 97 [(bptr bj 0)]), (blk b19 4 [(Value.bool (decide ((allowedF R rs).length = 0)))]), (blk b14 104 (ints (mostF plan (allowedF R rs) (allowedF R rs).length))), (blk b9 104 (ints (leastF plan (allowedF R rs) (allowedF R rs).length))), (blk b4 58 [vp]), (rob bj 119 [vr, vu, (Value.map (some bm))]), (sl vr 2 R.length (pairs R)), (sl vu 3 rs.length (vtrips (runV lv rs))), (segsR false lv rs), (sl vp 3 plan.length (trips plan))] := by rw [show catR rsf309 0 2 = ([] : List Res) by (try simp only [catR, hr_0, hrq]); (try rfl)] at hS307; exact hS307
  rw [hv_0] at hs_0
  have hA311 : Fr 43 (marks (D282 :: [])) [(41, (Value.agg (ints (leastF plan (allowedF R rs) (allowedF R rs).length)).toArray)), (5, (bptr b14 0)), (4, (bptr b9 0))] a304 := hA306.add (slot_ev hs_0 rfl); clear hA306
  clear hH308 hS307 hs_0 hrq
  clear hr_0
  clear hv_0
  refine sts hA311 (op_store hS310 rfl ty_104 (hA311.ev rfl) (hA311.ev rfl) (i := 5) rfl (vs := (ints (leastF plan (allowedF R rs) (allowedF R rs).length))) rfl (by rw [ints, List.length_map]; exact (least_rates (fun k hk => (allowed_rates hR hk).1) _ (by omega)).1) (ints_one _) (by first | (simp only [ints, List.length_map, List.length_set]; omega) | (have h2_ := (show (ints (leastF plan (allowedF R rs) (allowedF R rs).length)).length = 3 from (by rw [ints, List.length_map]; exact (least_rates (fun k hk => (allowed_rates hR hk).1) _ (by omega)).1)); omega))) rfl rfl ?_
  intro _ w312 hS313 hA315; have hS314 := hS313.blk_say (i := 5) rfl (cs' := (ints (leastF plan (allowedF R rs) (allowedF R rs).length))) (setFrom_all _ _ (by first | (simp only [ints, List.length_map, List.length_set]; omega) | (have h1_ := (show (ints (leastF plan (allowedF R rs) (allowedF R rs).length)).length = 3 from (by rw [ints, List.length_map]; exact (least_rates (fun k hk => (allowed_rates hR hk).1) _ (by omega)).1)); have h2_ := (show (ints (leastF plan (allowedF R rs) (allowedF R rs).length)).length = 3 from (by rw [ints, List.length_map]; exact (least_rates (fun k hk => (allowed_rates hR hk).1) _ (by omega)).1)); omega))); clear hS313 hA311 hS310
  refine st hA315 (op_loadA rfl ty_104 (hA315.ev rfl) (hS314.bk 4 rfl) (l := (ints (mostF plan (allowedF R rs) (allowedF R rs).length))) (drop_take_all _ _ (by rw [ints, List.length_map]; exact (most_rates (fun k hk => (allowed_rates hR hk).1) _ (by omega)).1)) (by rw [ints, List.length_map]; exact (most_rates (fun k hk => (allowed_rates hR hk).1) _ (by omega)).1)) rfl rfl (by decide) fun a316 hA317 => ?_; clear hA315 a304
  refine sts hA317 (op_store hS314 rfl ty_104 (hA317.ev rfl) (hA317.ev rfl) (i := 4) rfl (vs := (ints (mostF plan (allowedF R rs) (allowedF R rs).length))) rfl (by rw [ints, List.length_map]; exact (most_rates (fun k hk => (allowed_rates hR hk).1) _ (by omega)).1) (ints_one _) (by first | (simp only [ints, List.length_map, List.length_set]; omega) | (have h2_ := (show (ints (mostF plan (allowedF R rs) (allowedF R rs).length)).length = 3 from (by rw [ints, List.length_map]; exact (most_rates (fun k hk => (allowed_rates hR hk).1) _ (by omega)).1)); omega))) rfl rfl ?_
  intro _ w318 hS319 hA321; have hS320 := hS319.blk_say (i := 4) rfl (cs' := (ints (mostF plan (allowedF R rs) (allowedF R rs).length))) (setFrom_all _ _ (by first | (simp only [ints, List.length_map, List.length_set]; omega) | (have h1_ := (show (ints (mostF plan (allowedF R rs) (allowedF R rs).length)).length = 3 from (by rw [ints, List.length_map]; exact (most_rates (fun k hk => (allowed_rates hR hk).1) _ (by omega)).1)); have h2_ := (show (ints (mostF plan (allowedF R rs) (allowedF R rs).length)).length = 3 from (by rw [ints, List.length_map]; exact (most_rates (fun k hk => (allowed_rates hR hk).1) _ (by omega)).1)); omega))); clear hS319 hA317 hS314
  refine wl_nil ?_
  refine then_n ?_
  refine c_ret ?_
  refine fin_runM hA321 (.inl rfl) hS320 ?_
  intro w322 hS323; clear hS320
  refine ⟨_, (run_results2 hA321 rfl (.cellA rfl ty_104 (hS323.bk 4 rfl) (l := (ints (leastF plan (allowedF R rs) (allowedF R rs).length))) (drop_take_all _ _ (by rw [ints, List.length_map]; exact (least_rates (fun k hk => (allowed_rates hR hk).1) _ (by omega)).1)) (by rw [ints, List.length_map]; exact (least_rates (fun k hk => (allowed_rates hR hk).1) _ (by omega)).1)) (.cellA rfl ty_104 (hS323.bk 3 rfl) (l := (ints (mostF plan (allowedF R rs) (allowedF R rs).length))) (drop_take_all _ _ (by rw [ints, List.length_map]; exact (most_rates (fun k hk => (allowed_rates hR hk).1) _ (by omega)).1)) (by rw [ints, List.length_map]; exact (most_rates (fun k hk => (allowed_rates hR hk).1) _ (by omega)).1))), ?_⟩
  exact ⟨rfl, hS323.ext, hS323.ok 0 _ rfl⟩
end Go.Proofs.Ytkkglkdnnfegkaa
