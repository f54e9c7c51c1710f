/-
  What the exported functions compute.
  What is computed of plans and lives.
  What the reference computes, and that it is the same.
  Runs that are built; lists of the reference.
  The reference's lists of rates.
  The reference's allowed rates.
  The chapter's material and runs; what the program makes of them.
-/
import Derived.Test.YtkkglkdnnfegkaaBa
import Derived.Test.YtkkglkdnnfegkaaEnga
import Derived.Test.YtkkglkdnnfegkaaEngb
set_option linter.unusedSimpArgs false
set_option linter.unusedVariables false
namespace Go.Proofs.Ytkkglkdnnfegkaa
open Go.RowKit Go.Shelf Go.Eng
theorem ty_97 : tyK Try.prog 97 = some (false, 1) := by kernel_rfl
theorem fd_119_0 : fldK Try.prog 119 0 = some 0 := by kernel_rfl
theorem ze_104 : (Try.prog.info? 104).bind (·.zero) = some (Value.agg #[(Value.int .i64 0), (Value.int .i64 0), (Value.int .i64 0)]) := by kernel_rfl
theorem en_68 : ∀ args w, (callFunc 68 args).run Try.prog w = .ok (.enter 68 args) w := enters_of Try.func68 (by kernel_rfl) rfl
theorem every_ok (bj : Nat) (w : World) :
  Calls Try.prog 54 #[(bptr bj 0)] w (Ret fun v w' => ∃ bx, v = .func (.func 78) #[] #[bptr bx 0] ∧ Sep NoB w w' [blk bx 97 [bptr bj 0]]) := by
 refine calls_enter Try.func54 rfl fun a0 hA0 => ?_
 replace hA0 : Fr 4 [] [(0, (bptr bj 0))] a0 := hA0
 have hS0 : Sep NoB w w [] := Sep.start _ _
 refine c_seq ?_
 refine c_region ?_
 refine stw hA0 (op_box hS0 rfl (hA0.ev rfl) (cs := [(bptr bj 0)]) rfl) rfl rfl (by decide) ?_
 rintro a1 _ w3 ⟨b4, rfl, hS5⟩ hA2; clear hA0 hS0 a0
 refine st hA2 (op_assign rfl (evc _ _)) rfl rfl (by decide) fun a6 hA7 => ?_; clear hA2 a1
 refine wl_nil ?_
 refine then_n ?_
 refine c_seq ?_
 refine c_region ?_
 refine st hA7 (op_makeFunc rfl ev0 (ev1 (hA7.ev rfl))) rfl rfl (by decide) fun a8 hA9 => ?_; clear hA7 a6
 refine st hA9 (op_assign rfl (hA9.ev rfl)) rfl rfl (by decide) fun a10 hA11 => ?_; clear hA9 a8
 refine wl_nil ?_
 refine then_n ?_
 refine c_ret ?_
 refine fin_run hA11 (.inl rfl) (run_results1 hA11 rfl (.tmp rfl)) ?_
 exact ⟨_, rfl, hS5⟩
theorem every_it (bx bj bm : Nat) (R : List (Int × Int)) (rs : List RunD) (lv : List Value) (vr vu : Value) (n : Nat) (hn : n ≤ 3) (hR : MatV R) (hV : RunsV n rs) (hl : lv.length = rs.length) :
  IterG Try.prog 78 #[bptr bx 0] (memo bm (KA rs)) [(rob bx 97 [(bptr bj 0)]), (rob bj 119 [vr, vu, (Value.map (some bm))]), (sl vr 2 R.length (pairs R)), (sl vu 3 rs.length (vtrips (runV lv rs))), (segsR false lv rs)] (allowedF R rs).length (fun k => #[.agg (ints ((allowedF R rs).getD k [])).toArray]) := by
 intro l J Jx W hJ hJx hD hDx h0 hy
 refine calls_enterM Try.func78 rfl fun a0 hA0 => ?_
 replace hA0 : Fr 19 (marks []) [(0, (Value.func (.yield l) #[] #[])), (1, (bptr bx 0))] a0 := hA0
 have hS0 : Sep (memo bm (KA rs)).S W W [(marksR []), (memo bm (KA rs)), (rob bx 97 [(bptr bj 0)]), (rob bj 119 [vr, vu, (Value.map (some bm))]), (sl vr 2 R.length (pairs R)), (sl vu 3 rs.length (vtrips (runV lv rs))), (segsR false lv rs)] := sep_marks (hD _ _ _ h0).2
 refine c_seq ?_
 refine c_region ?_
 refine stw hA0 (op_box hS0 rfl (hA0.ev rfl) (cs := [(Value.func (.yield l) #[] #[])]) rfl) rfl rfl (by decide) ?_
 rintro a1 _ w3 ⟨b4, rfl, hS5⟩ hA2; clear hA0 hS0 a0
 refine wl_nil ?_
 refine then_n ?_
 refine c_seq ?_
 refine c_region ?_
 refine st hA2 (op_load1 rfl ty_97 (hA2.ev rfl) (hS5.rk 3 rfl) rfl) rfl rfl (by decide) fun a6 hA7 => ?_; clear hA2 a1
 refine st hA7 (op_nilCheck rfl (hA7.ev rfl)) rfl rfl (by decide) fun a8 hA9 => ?_; clear hA7 a6
 refine st hA9 (op_field rfl fd_119_0 (hA9.ev rfl)) rfl rfl (by decide) fun a10 hA11 => ?_; clear hA9 a8
 refine st hA11 (op_loadA rfl ty_33 (hA11.ev rfl) (hS5.rk 4 rfl) (l := [vr]) rfl rfl) rfl rfl (by decide) fun a12 hA13 => ?_; clear hA11 a10
 refine stw hA13 (op_call rfl en_65 (ev1 (hA13.ev rfl)) (lists_ok _ _)) rfl rfl (by decide) ?_
 rintro a14 _ w16 ⟨bl19, rfl, hT17⟩ hA15; have hS18 := hS5.callS hT17 rfl; clear hT17 hA13 hS5 a12
 refine wl_nil ?_
 refine then_n ?_
 refine c_block ?_
 have hA20 := hA15.as [(8, (Value.func (.func 87) #[] #[(bptr bl19 0)])), (2, (bptr b4 0)), (1, (bptr bx 0))] rfl; clear hA15
 have hS21 := hS18.nilR; clear hS18
 have hS22 : Sep (memo bm (KA rs)).S W w16 [(marksR []), nilR, (blk b4 115 [(Value.func (.yield l) #[] #[])]), (blk bl19 33 [vr]), (memo bm (KA rs)), (rob bx 97 [(bptr bj 0)]), (rob bj 119 [vr, vu, (Value.map (some bm))]), (sl vr 2 R.length (pairs R)), (sl vu 3 rs.length (vtrips (runV lv rs))), (segsR false lv rs)] := hS21.keep [3, 0, 2, 1, 4, 5, 6, 7, 8, 9] (by decide) _ rfl rfl; clear hS21
 have hj23 := hJ _ _ _ _ _ h0 (Sep.pack (A := [(marksR []), nilR, (blk b4 115 [(Value.func (.yield l) #[] #[])]), (blk bl19 33 [vr]), (memo bm (KA rs))]) (L := [(rob bx 97 [(bptr bj 0)]), (rob bj 119 [vr, vu, (Value.map (some bm))]), (sl vr 2 R.length (pairs R)), (sl vu 3 rs.length (vtrips (runV lv rs))), (segsR false lv rs)]) hS22 (own_c rfl (own_c rfl (own_c rfl (own_c rfl (own_c rfl own_n)))))).one rfl
 refine c_rangeJ hJ hJx hD hDx hA20 nilR rfl [(blk b4 115 [(Value.func (.yield l) #[] #[])]), (blk bl19 33 [vr]), (memo bm (KA rs))] 0 hj23 (hA20.ev rfl) en_87 (listsF R).length (fun q => #[.agg (ints ((listsF R).getD q [])).toArray]) (fun _ => rfl) [rob bl19 33 [vr], sl vr 2 R.length (pairs R)] (fun r hr => by simp only [List.mem_cons, List.not_mem_nil, or_false] at hr; rcases hr with rfl | rfl <;> rfl) (lists_it bl19 vr R hR _ rfl) (fun q c_ L_ => c_ = (fUpto (allowB rs) (listsF R) q).length ∧ L_ = [(blk b4 115 [(Value.func (.yield l) #[] #[])]), (blk bl19 33 [vr]), (memo bm (KA rs))]) (fun _ L_ => L_ = [(blk b4 115 [(Value.func (.yield l) #[] #[])]), (blk bl19 33 [vr]), (memo bm (KA rs))]) (fun q c_ L_ hI_ => by obtain ⟨rfl, rfl⟩ := hI_; exact (own_c rfl (own_c rfl (own_c rfl own_n)))) (fun c_ L_ hI_ => by subst hI_; exact (own_c rfl (own_c rfl (own_c rfl own_n)))) (some .ret) ⟨rfl, rfl⟩ (fun q c_ L_ hI_ X_ W_ G_ r1_ r2_ hS_ => by obtain ⟨rfl, rfl⟩ := hI_; exact Sep.keep (hS_.to_ro (i := 4) rfl) [2, 4, 8] (by decide) _ rfl rfl) (fun c_ L_ hI_ X_ W_ G_ r1_ r2_ hS_ => by subst hI_; exact Sep.keep (hS_.to_ro (i := 4) rfl) [2, 4, 8] (by decide) _ rfl rfl) ?_ ?_ ?_
 ·skip
  intro q hq c_ L_ hI_ G31 hG32 l28 D29 rc30 a24 w25 ha27 hj33; obtain ⟨rfl, rfl⟩ := hI_
  have hA26 : Fr 19 [] [(9, (Value.agg (ints ((listsF R).getD q [])).toArray)), (8, (Value.func (.func 87) #[] #[(bptr bl19 0)])), (2, (bptr b4 0)), (1, (bptr bx 0))] a24 := by rw [ha27]; exact Fr.round1 hA20 (by decide)
  clear ha27 hS22 hj23
  have hS34 : Sep (allR [(obR l28 (.loop (rc30 .ready none))), (marksR (D29 :: [])), G31, (blk b4 115 [(Value.func (.yield l) #[] #[])]), (blk bl19 33 [vr]), (memo bm (KA rs))]).S w25 w25 [(obR l28 (.loop (rc30 .ready none))), (marksR (D29 :: [])), G31, (blk b4 115 [(Value.func (.yield l) #[] #[])]), (blk bl19 33 [vr]), (memo bm (KA rs)), (rob bx 97 [(bptr bj 0)]), (rob bj 119 [vr, vu, (Value.map (some bm))]), (sl vr 2 R.length (pairs R)), (sl vu 3 rs.length (vtrips (runV lv rs))), (segsR false lv rs)] := jU hD hj33
  refine c_region ?_
  refine stw hA26 (op_alloc hS34 rfl ze_104 (cs := [(Value.int .i64 0), (Value.int .i64 0), (Value.int .i64 0)]) rfl) rfl rfl (by decide) ?_
  rintro a35 _ w37 ⟨b38, rfl, hS39⟩ hA36; clear hA26 hS34 a24
  refine sts hA36 (op_store hS39 rfl ty_104 (hA36.ev rfl) (hA36.ev rfl) (i := 0) rfl (vs := (ints ((listsF R).getD q []))) rfl (lists_len3 hR hq).symm (ints_one _) (by decide)) rfl rfl ?_
  intro _ w40 hS41 hA43; have hS42 := hS41.blk_say (i := 0) rfl (cs' := (ints ((listsF R).getD q []))) (setFrom_all _ _ (Eq.symm (lists_len3 hR hq).symm)); clear hS41 hA36 hS39
  refine wl_nil ?_
  have hS44 : Sep (allR [(obR l28 (.loop (rc30 .ready none))), (marksR (D29 :: [])), G31, (blk b4 115 [(Value.func (.yield l) #[] #[])]), (blk bl19 33 [vr]), (memo bm (KA rs))]).S w25 w40 [(obR l28 (.loop (rc30 .ready none))), (marksR (D29 :: [])), G31, (blk b4 115 [(Value.func (.yield l) #[] #[])]), (blk bl19 33 [vr]), (memo bm (KA rs)), (blk b38 104 (ints ((listsF R).getD q []))), (rob bx 97 [(bptr bj 0)]), (rob bj 119 [vr, vu, (Value.map (some bm))]), (sl vr 2 R.length (pairs R)), (sl vu 3 rs.length (vtrips (runV lv rs))), (segsR false lv rs)] := hS42.keep [1, 2, 3, 4, 5, 6, 0, 7, 8, 9, 10, 11] (by decide) _ rfl rfl; clear hS42
  have hj45 := hJ _ _ _ _ _ hj33 (Sep.pack (A := [(obR l28 (.loop (rc30 .ready none))), (marksR (D29 :: [])), G31, (blk b4 115 [(Value.func (.yield l) #[] #[])]), (blk bl19 33 [vr]), (memo bm (KA rs)), (blk b38 104 (ints ((listsF R).getD q [])))]) (L := [(rob bx 97 [(bptr bj 0)]), (rob bj 119 [vr, vu, (Value.map (some bm))]), (sl vr 2 R.length (pairs R)), (sl vu 3 rs.length (vtrips (runV lv rs))), (segsR false lv rs)]) hS44 (own_c rfl (own_c rfl (own_c hG32 (own_c rfl (own_c rfl (own_c rfl (own_c rfl own_n)))))))).one rfl
  refine ⟨rfl, [G31, (blk b4 115 [(Value.func (.yield l) #[] #[])]), (blk bl19 33 [vr]), (memo bm (KA rs)), (blk b38 104 (ints ((listsF R).getD q [])))], (own_c hG32 (own_c rfl (own_c rfl (own_c rfl (own_c rfl own_n))))), hj45, ?_⟩; intro w46 hj47; clear hS44
  have hS48 : Sep (allR [(obR l28 (.loop (rc30 .busy none))), (marksR (D29 :: [])), G31, (blk b4 115 [(Value.func (.yield l) #[] #[])]), (blk bl19 33 [vr]), (memo bm (KA rs)), (blk b38 104 (ints ((listsF R).getD q [])))]).S w46 w46 [(obR l28 (.loop (rc30 .busy none))), (marksR (D29 :: [])), G31, (blk b4 115 [(Value.func (.yield l) #[] #[])]), (blk bl19 33 [vr]), (memo bm (KA rs)), (blk b38 104 (ints ((listsF R).getD q []))), (rob bx 97 [(bptr bj 0)]), (rob bj 119 [vr, vu, (Value.map (some bm))]), (sl vr 2 R.length (pairs R)), (sl vu 3 rs.length (vtrips (runV lv rs))), (segsR false lv rs)] := jU hD hj47
  refine c_block ?_
  refine c_seq ?_
  refine c_region ?_
  refine st hA43 (op_load1 rfl ty_97 (hA43.ev rfl) (hS48.rk 7 rfl) rfl) rfl rfl (by decide) fun a49 hA50 => ?_; clear hA43 a35
  refine st hA50 (op_loadA rfl ty_104 (hA50.ev rfl) (hS48.bk 6 rfl) (l := (ints ((listsF R).getD q []))) (drop_take_all _ _ (lists_len3 hR hq).symm) (lists_len3 hR hq).symm) rfl rfl (by decide) fun a51 hA52 => ?_; clear hA50 a49
  refine stw hA52 (op_call rfl en_68 (ev2 (hA52.ev rfl) (hA52.ev rfl)) (allowed_ok _ bm ((listsF R).getD q []) R rs lv vr vu n _ hn (lists_rates hR hq) hV hl (hS48.lendM (i := 5) rfl [8, 9, 10, 11] ⟨rfl, by decide, hS48.rk 8 rfl, ⟨_, rfl, fun _ hz => hz⟩, rfl, by decide, hS48.sk 9 rfl, ⟨_, rfl, fun _ hz => hz⟩, rfl, by decide, hS48.sk 10 rfl, ⟨_, rfl, fun _ hz => hz⟩, rfl, by decide, hS48.ok 11 _ rfl, ⟨_, rfl, fun _ hz => hz⟩, trivial⟩))) rfl rfl (by decide) ?_
  rintro a53 _ w55 ⟨rfl, hE56, hM57⟩ hA54; have hS58 := hS48.updM (i := 5) rfl hE56 hM57; clear hE56 hM57 hA52 hS48 a51
  refine st hA54 (op_move rfl (hA54.ev rfl)) rfl rfl (by decide) fun a59 hA60 => ?_; clear hA54 a53
  rcases Bool.eq_false_or_eq_true ((allowB rs ((listsF R).getD q []))) with hb61 | hb61
  ·skip
   rw [hb61] at hA60
   refine stg hA60 (op_load1 rfl ty_115 (hA60.ev rfl) (hS58.bk 3 rfl) rfl) rfl rfl rfl rfl (by decide) fun a62 hA63 => ?_; clear hA60 a59
   refine stg hA63 (op_loadA rfl ty_104 (hA63.ev rfl) (hS58.bk 6 rfl) (l := (ints ((listsF R).getD q []))) (drop_take_all _ _ (lists_len3 hR hq).symm) (lists_len3 hR hq).symm) rfl rfl rfl rfl (by decide) fun a64 hA65 => ?_; clear hA63 a62
   have hj66 := hJ _ _ _ _ _ hj47 (Sep.pack (A := [(obR l28 (.loop (rc30 .busy none))), (marksR (D29 :: [])), G31, (blk b4 115 [(Value.func (.yield l) #[] #[])]), (blk bl19 33 [vr]), (memo bm (KA rs)), (blk b38 104 (ints ((listsF R).getD q [])))]) (L := [(rob bx 97 [(bptr bj 0)]), (rob bj 119 [vr, vu, (Value.map (some bm))]), (sl vr 2 R.length (pairs R)), (sl vu 3 rs.length (vtrips (runV lv rs))), (segsR false lv rs)]) hS58 (own_c rfl (own_c rfl (own_c hG32 (own_c rfl (own_c rfl (own_c rfl (own_c rfl own_n)))))))).one rfl
   have hy67 := fUpto_yes (l := listsF R) hq [] (p := allowB rs) (by assumption)
   refine stwg hA65 (op_yield rfl (hA65.ev rfl) (ev1 (hA65.ev rfl)) (by have hz := hy _ hy67.1 _ _ hj66; dsimp only at hz; rw [show (allowedF R rs).getD _ [] = _ from hy67.2.1] at hz; exact hz)) rfl rfl rfl rfl (by decide) ?_
   rintro a68 v72 w70 hv71 hA69; clear hA65 hS58 a64
   rcases hv71 with ⟨rfl, hj73⟩ | ⟨rfl, hj73⟩
   ·skip
    have hS74 : Sep (allR [(obR l28 (.loop (rc30 .busy none))), (marksR (D29 :: [])), G31, (blk b4 115 [(Value.func (.yield l) #[] #[])]), (blk bl19 33 [vr]), (memo bm (KA rs)), (blk b38 104 (ints ((listsF R).getD q [])))]).S w70 w70 [(obR l28 (.loop (rc30 .busy none))), (marksR (D29 :: [])), G31, (blk b4 115 [(Value.func (.yield l) #[] #[])]), (blk bl19 33 [vr]), (memo bm (KA rs)), (blk b38 104 (ints ((listsF R).getD q []))), (rob bx 97 [(bptr bj 0)]), (rob bj 119 [vr, vu, (Value.map (some bm))]), (sl vr 2 R.length (pairs R)), (sl vu 3 rs.length (vtrips (runV lv rs))), (segsR false lv rs)] := jU hD hj73
    refine stg hA69 (op_not rfl (hA69.ev rfl)) rfl rfl rfl rfl (by decide) fun a75 hA76 => ?_; clear hA69 a68
    refine st hA76 (op_pick_t rfl (hA76.ev rfl) (hA76.ev rfl)) rfl rfl (by decide) fun a77 hA78 => ?_; clear hA76 a75
    refine wl_nil ?_
    refine then_n ?_
    refine c_false hA78 rfl ?_
    refine c_skip ?_
    refine blk_n ?_
    have hS79 : Sep (allR [(obR l28 (.loop (rc30 .busy none))), (marksR (D29 :: [])), G31, (blk b4 115 [(Value.func (.yield l) #[] #[])]), (blk bl19 33 [vr]), (memo bm (KA rs)), (blk b38 104 (ints ((listsF R).getD q [])))]).S w70 w70 [(obR l28 (.loop (rc30 .busy none))), (marksR (D29 :: [])), G31, (blk b4 115 [(Value.func (.yield l) #[] #[])]), (blk bl19 33 [vr]), (memo bm (KA rs)), (rob bx 97 [(bptr bj 0)]), (rob bj 119 [vr, vu, (Value.map (some bm))]), (sl vr 2 R.length (pairs R)), (sl vu 3 rs.length (vtrips (runV lv rs))), (segsR false lv rs)] := hS74.keep [0, 1, 2, 3, 4, 5, 7, 8, 9, 10, 11] (by decide) _ rfl rfl; clear hS74
    have hj80 := hJ _ _ _ _ _ hj73 (Sep.pack (A := [(obR l28 (.loop (rc30 .busy none))), (marksR (D29 :: [])), G31, (blk b4 115 [(Value.func (.yield l) #[] #[])]), (blk bl19 33 [vr]), (memo bm (KA rs))]) (L := [(rob bx 97 [(bptr bj 0)]), (rob bj 119 [vr, vu, (Value.map (some bm))]), (sl vr 2 R.length (pairs R)), (sl vu 3 rs.length (vtrips (runV lv rs))), (segsR false lv rs)]) hS79 (own_c rfl (own_c rfl (own_c hG32 (own_c rfl (own_c rfl (own_c rfl own_n))))))).one rfl
    exact rj_n ⟨hy67.2.2.symm, rfl⟩ hj80
   ·skip
    have hS81 : Sep (allR [(obR l28 (.loop (rc30 .busy none))), (marksR (D29 :: [])), G31, (blk b4 115 [(Value.func (.yield l) #[] #[])]), (blk bl19 33 [vr]), (memo bm (KA rs)), (blk b38 104 (ints ((listsF R).getD q [])))]).S w70 w70 [(obR l28 (.loop (rc30 .busy none))), (marksR (D29 :: [])), G31, (blk b4 115 [(Value.func (.yield l) #[] #[])]), (blk bl19 33 [vr]), (memo bm (KA rs)), (blk b38 104 (ints ((listsF R).getD q []))), (rob bx 97 [(bptr bj 0)]), (rob bj 119 [vr, vu, (Value.map (some bm))]), (sl vr 2 R.length (pairs R)), (sl vu 3 rs.length (vtrips (runV lv rs))), (segsR false lv rs)] := jU hDx hj73
    refine stg hA69 (op_not rfl (hA69.ev rfl)) rfl rfl rfl rfl (by decide) fun a82 hA83 => ?_; clear hA69 a68
    refine st hA83 (op_pick_t rfl (hA83.ev rfl) (hA83.ev rfl)) rfl rfl (by decide) fun a84 hA85 => ?_; clear hA83 a82
    refine wl_nil ?_
    refine then_n ?_
    refine c_true hA85 rfl ?_
    refine c_ret ?_
    refine blk_ret ?_
    have hS86 : Sep (allR [(obR l28 (.loop (rc30 .busy none))), (marksR (D29 :: [])), G31, (blk b4 115 [(Value.func (.yield l) #[] #[])]), (blk bl19 33 [vr]), (memo bm (KA rs)), (blk b38 104 (ints ((listsF R).getD q [])))]).S w70 w70 [(obR l28 (.loop (rc30 .busy none))), (marksR (D29 :: [])), G31, (blk b4 115 [(Value.func (.yield l) #[] #[])]), (blk bl19 33 [vr]), (memo bm (KA rs)), (rob bx 97 [(bptr bj 0)]), (rob bj 119 [vr, vu, (Value.map (some bm))]), (sl vr 2 R.length (pairs R)), (sl vu 3 rs.length (vtrips (runV lv rs))), (segsR false lv rs)] := hS81.keep [0, 1, 2, 3, 4, 5, 7, 8, 9, 10, 11] (by decide) _ rfl rfl; clear hS81
    have hj87 := hJx _ _ _ _ _ hj73 (Sep.pack (A := [(obR l28 (.loop (rc30 .busy none))), (marksR (D29 :: [])), G31, (blk b4 115 [(Value.func (.yield l) #[] #[])]), (blk bl19 33 [vr]), (memo bm (KA rs))]) (L := [(rob bx 97 [(bptr bj 0)]), (rob bj 119 [vr, vu, (Value.map (some bm))]), (sl vr 2 R.length (pairs R)), (sl vu 3 rs.length (vtrips (runV lv rs))), (segsR false lv rs)]) hS86 (own_c rfl (own_c rfl (own_c hG32 (own_c rfl (own_c rfl (own_c rfl own_n))))))).one rfl
    exact rj_ret rfl rfl hj87
  ·skip
   rw [hb61] at hA60
   refine skp hA60 rfl rfl rfl rfl rfl (by decide) fun a88 hA89 => ?_; clear hA60 a59
   refine skp hA89 rfl rfl rfl rfl rfl (by decide) fun a90 hA91 => ?_; clear hA89 a88
   refine skp hA91 rfl rfl rfl rfl rfl (by decide) fun a92 hA93 => ?_; clear hA91 a90
   refine skp hA93 rfl rfl rfl rfl rfl (by decide) fun a94 hA95 => ?_; clear hA93 a92
   refine st hA95 (op_pick_f rfl (hA95.ev rfl) (evc _ _)) rfl rfl (by decide) fun a96 hA97 => ?_; clear hA95 a94
   refine wl_nil ?_
   refine then_n ?_
   refine c_false hA97 rfl ?_
   refine c_skip ?_
   refine blk_n ?_
   have hS98 : Sep (allR [(obR l28 (.loop (rc30 .busy none))), (marksR (D29 :: [])), G31, (blk b4 115 [(Value.func (.yield l) #[] #[])]), (blk bl19 33 [vr]), (memo bm (KA rs)), (blk b38 104 (ints ((listsF R).getD q [])))]).S w46 w55 [(obR l28 (.loop (rc30 .busy none))), (marksR (D29 :: [])), G31, (blk b4 115 [(Value.func (.yield l) #[] #[])]), (blk bl19 33 [vr]), (memo bm (KA rs)), (rob bx 97 [(bptr bj 0)]), (rob bj 119 [vr, vu, (Value.map (some bm))]), (sl vr 2 R.length (pairs R)), (sl vu 3 rs.length (vtrips (runV lv rs))), (segsR false lv rs)] := hS58.keep [0, 1, 2, 3, 4, 5, 7, 8, 9, 10, 11] (by decide) _ rfl rfl; clear hS58
   have hj99 := hJ _ _ _ _ _ hj47 (Sep.pack (A := [(obR l28 (.loop (rc30 .busy none))), (marksR (D29 :: [])), G31, (blk b4 115 [(Value.func (.yield l) #[] #[])]), (blk bl19 33 [vr]), (memo bm (KA rs))]) (L := [(rob bx 97 [(bptr bj 0)]), (rob bj 119 [vr, vu, (Value.map (some bm))]), (sl vr 2 R.length (pairs R)), (sl vu 3 rs.length (vtrips (runV lv rs))), (segsR false lv rs)]) hS98 (own_c rfl (own_c rfl (own_c hG32 (own_c rfl (own_c rfl (own_c rfl own_n))))))).one rfl
   exact rj_n ⟨(by rw [fUpto_no (l := listsF R) hq [] (by assumption)]), rfl⟩ hj99
 ·skip
  intro c_ L_ hI_ D103 a100 w101 hA102 hj104; obtain ⟨rfl, rfl⟩ := hI_; clear hA20 hS22 hj23
  have hS105 : Sep (allR [(marksR (D103 :: [])), nilR, (blk b4 115 [(Value.func (.yield l) #[] #[])]), (blk bl19 33 [vr]), (memo bm (KA rs))]).S w101 w101 [(marksR (D103 :: [])), nilR, (blk b4 115 [(Value.func (.yield l) #[] #[])]), (blk bl19 33 [vr]), (memo bm (KA rs)), (rob bx 97 [(bptr bj 0)]), (rob bj 119 [vr, vu, (Value.map (some bm))]), (sl vr 2 R.length (pairs R)), (sl vu 3 rs.length (vtrips (runV lv rs))), (segsR false lv rs)] := jU hD hj104
  refine blk_n ?_
  refine fin_runM hA102 (.inr rfl) hS105 ?_
  intro w106 hS107; clear hS105
  refine ⟨_, (run_results0 rfl _), ?_⟩
  exact .inl (by rw [show (allowedF R rs).length = (fUpto (allowB rs) (listsF R) (listsF R).length).length by rw [fUpto_all]; rfl]; exact hJ _ _ _ _ _ hj104 (Sep.keep hS107 [3] (by decide) _ rfl rfl) rfl)
 ·skip
  intro c_ hc_; cases hc_
  intro c_ L_ hI_ D111 a108 w109 hA110 hj112; subst hI_; clear hA20 hS22 hj23
  have hS113 : Sep (allR [(marksR (D111 :: [])), nilR, (blk b4 115 [(Value.func (.yield l) #[] #[])]), (blk bl19 33 [vr]), (memo bm (KA rs))]).S w109 w109 [(marksR (D111 :: [])), nilR, (blk b4 115 [(Value.func (.yield l) #[] #[])]), (blk bl19 33 [vr]), (memo bm (KA rs)), (rob bx 97 [(bptr bj 0)]), (rob bj 119 [vr, vu, (Value.map (some bm))]), (sl vr 2 R.length (pairs R)), (sl vu 3 rs.length (vtrips (runV lv rs))), (segsR false lv rs)] := jU hDx hj112
  refine c_ret ?_
  refine blk_ret ?_
  refine fin_runM hA110 (.inl rfl) hS113 ?_
  intro w114 hS115; clear hS113
  refine ⟨_, (run_results0 rfl _), ?_⟩
  exact .inr ⟨_, hJx _ _ _ _ _ hj112 (Sep.keep hS115 [3] (by decide) _ rfl rfl) rfl⟩
end Go.Proofs.Ytkkglkdnnfegkaa

namespace Go.Proofs.Ytkkglkdnnfegkaa
open Go.RowKit Go.Shelf Go.Eng
theorem en_37 : ∀ args w, (callFunc 37 args).run Try.prog w = .ok (.enter 37 args) w := enters_of Try.func37 (by kernel_rfl) rfl
theorem en_90 : ∀ args w, (callFunc 90 args).run Try.prog w = .ok (.enter 90 args) w := enters_of Try.func90 (by kernel_rfl) rfl
theorem en_89 : ∀ args w, (callFunc 89 args).run Try.prog w = .ok (.enter 89 args) w := enters_of Try.func89 (by kernel_rfl) rfl
theorem en_91 : ∀ args w, (callFunc 91 args).run Try.prog w = .ok (.enter 91 args) w := enters_of Try.func91 (by kernel_rfl) rfl
theorem bd_119_0va_1s_2m (x0_0 : Value) (x1_0 : Value) (hx1_0 : IsSl x1_0) (x2_0 : Option Nat) (w : World) : (Instr.build 119 #[(0, .agg #[x0_0]), (1, x1_0), (2, (.map x2_0))]).run Try.prog w = .ok (.agg #[x0_0, x1_0, (.map x2_0)]) w := by obtain ⟨Ax1_0, Bx1_0, Cx1_0, rfl⟩ := hx1_0; kernel_rfl
theorem enter_any (R : List (Int × Int)) (rs : List RunD) (lv : List Value) (vr vu : Value) (w : World) (hm : SlAt w vr 2 R.length (pairs R)) (hx : RunsAt w vu lv rs) (hlen : R.length ≤ 1000000) (hrl : rs.length ≤ 1000000) :
  Calls Try.prog 66 #[(Value.agg #[vr]), vu] w (Ret fun v w' => (enterF R rs ≠ 0 ∧ v = .tuple #[.pointer none, .int .i64 (enterF R rs)] ∧ Ext NoB w w') ∨ (enterF R rs = 0 ∧ ∃ bj bm, v = .tuple #[bptr bj 0, .int .i64 0] ∧ Sep NoB w w' [blk bj 119 [vr, vu, .map (some bm)], memo bm (KA rs)])) := by
 refine calls_enter Try.func66 rfl fun a0 hA0 => ?_
 replace hA0 : Fr 32 [] [(0, (Value.agg #[vr])), (1, vu)] a0 := hA0
 have hS0 : Sep NoB w w [(sl vr 2 R.length (pairs R)), (sl vu 3 rs.length (vtrips (runV lv rs))), (segsR false lv rs)] := sep_ro ⟨rfl, hm, rfl, hx.runs, rfl, ⟨hx.len, hx.segs⟩, trivial⟩
 refine c_seq ?_
 refine c_region ?_
 refine stw hA0 (op_box hS0 rfl (hA0.ev rfl) (cs := [vr]) rfl) rfl rfl (by decide) ?_
 rintro a1 _ w3 ⟨b4, rfl, hS5⟩ hA2; clear hA0 hS0 a0
 refine st hA2 (op_assign rfl (evc _ _)) rfl rfl (by decide) fun a6 hA7 => ?_; clear hA2 a1
 refine st hA7 (op_assign rfl (evc _ _)) rfl rfl (by decide) fun a8 hA9 => ?_; clear hA7 a6
 refine wl_nil ?_
 refine then_n ?_
 refine c_seq ?_
 refine c_seq ?_
 refine c_region ?_
 refine st hA9 (op_loadA rfl ty_33 (hA9.ev rfl) (hS5.bk 0 rfl) (l := [vr]) rfl rfl) rfl rfl (by decide) fun a10 hA11 => ?_; clear hA9 a8
 refine stw hA11 (op_call rfl en_37 (ev1 (hA11.ev rfl)) (check_ok R vr _ (hS5.sk 1 rfl) (by omega))) rfl rfl (by decide) ?_
 rintro a12 _ w14 ⟨rfl, hE15⟩ hA13; have hS16 := hS5.step hE15; clear hE15 hA11 hS5 a10
 refine st hA13 (op_assign rfl (hA13.ev rfl)) rfl rfl (by decide) fun a17 hA18 => ?_; clear hA13 a12
 refine wl_nil ?_
 refine then_n ?_
 refine c_seq ?_
 refine c_region ?_
 refine st hA18 (op_move rfl (hA18.ev rfl)) rfl rfl (by decide) fun a19 hA20 => ?_; clear hA18 a17
 refine st hA20 (op_neq rfl (hA20.ev rfl) (evc _ _)) rfl rfl (by decide) fun a21 hA22 => ?_; clear hA20 a19
 refine wl_nil ?_
 refine then_n ?_
 by_cases hb23 : (checkF R) = 0
 ·skip
  rw [decide_eq_true hb23] at hA22
  refine c_false hA22 rfl ?_
  refine c_skip ?_
  refine then_n ?_
  refine c_seq ?_
  refine c_block ?_
  refine c_seq ?_
  have hA24 := hA22.as [(2, (bptr b4 0)), (1, vu)] rfl; clear hA22
  refine c_region ?_
  refine st hA24 (op_move rfl (hA24.ev rfl)) rfl rfl (by decide) fun a25 hA26 => ?_; clear hA24 a21
  refine st hA26 (op_lenS rfl un_35 (hA26.ev rfl) (hS16.sk 2 rfl)) rfl rfl (by decide) fun a27 hA28 => ?_; clear hA26 a25
  refine st hA28 (op_gtr rfl (hA28.ev rfl) (evc _ _)) rfl rfl (by decide) fun a29 hA30 => ?_; clear hA28 a27
  refine st hA30 (op_move rfl (hA30.ev rfl)) rfl rfl (by decide) fun a31 hA32 => ?_; clear hA30 a29
  by_cases hb33 : 6 < (rs.length : Int)
  ·skip
   rw [decide_eq_true hb33] at hA32
   refine skp hA32 rfl rfl rfl rfl rfl (by decide) fun a34 hA35 => ?_; clear hA32 a31
   refine skp hA35 rfl rfl rfl rfl rfl (by decide) fun a36 hA37 => ?_; clear hA35 a34
   refine skp hA37 rfl rfl rfl rfl rfl (by decide) fun a38 hA39 => ?_; clear hA37 a36
   refine st hA39 (op_pick_t rfl (hA39.ev rfl) (evc _ _)) rfl rfl (by decide) fun a40 hA41 => ?_; clear hA39 a38
   refine st hA41 (op_assign rfl (hA41.ev rfl)) rfl rfl (by decide) fun a42 hA43 => ?_; clear hA41 a40
   refine wl_nil ?_
   refine then_n ?_
   refine c_true hA43 rfl ?_
   refine c_seq ?_
   have hA44 := hA43.as [] rfl; clear hA43
   refine c_region ?_
   refine st hA44 (op_assign rfl (evc _ _)) rfl rfl (by decide) fun a45 hA46 => ?_; clear hA44 a42
   refine st hA46 (op_assign rfl (evc _ _)) rfl rfl (by decide) fun a47 hA48 => ?_; clear hA46 a45
   refine wl_nil ?_
   refine then_n ?_
   refine c_ret ?_
   refine blk_ret ?_
   refine then_ret ?_
   refine fin_run hA48 (.inl rfl) (run_results2 hA48 rfl (.tmp rfl) (.tmp rfl)) ?_
   have hz := (show enterF R rs = 3 from by first | exact enter_3a (by assumption) (by omega) | exact enter_3b (by assumption) (by assumption))
   exact .inl ⟨(by rw [hz]; decide), by rw [hz], hS16.ext⟩
  ·skip
   rw [decide_eq_false hb33] at hA32
   refine stg hA32 (op_move rfl (hA32.ev rfl)) rfl rfl rfl rfl (by decide) fun a49 hA50 => ?_; clear hA32 a31
   refine stwg hA50 (op_call rfl en_89 (ev2 (hA50.ev rfl) (evf _ _)) (callsB (all_run rs lv hx.len _ 90 #[] #[] (fun i => decide (((rs.getD i run0).segs.length : Int) ≤ 8)) _ (hS16.sk 2 rfl) (by omega) ⟨en_90, fun i hi W hW => short_ok (rs.getD i run0) (lv.getD i nilS) W ((hx.step (hS16.ext.trans hW)).segs i hi)⟩ (fun i hi => SlAt.one (hx.segs i hi))) (shortB rs) rfl)) rfl rfl rfl rfl (by decide) ?_
   rintro a51 _ w53 ⟨rfl, hE54⟩ hA52; have hS55 := hS16.step hE54; clear hE54 hA50 hS16 a49
   refine stg hA52 (op_not rfl (hA52.ev rfl)) rfl rfl rfl rfl (by decide) fun a56 hA57 => ?_; clear hA52 a51
   refine st hA57 (op_pick_f rfl (hA57.ev rfl) (hA57.ev rfl)) rfl rfl (by decide) fun a58 hA59 => ?_; clear hA57 a56
   refine st hA59 (op_assign rfl (hA59.ev rfl)) rfl rfl (by decide) fun a60 hA61 => ?_; clear hA59 a58
   refine wl_nil ?_
   refine then_n ?_
   rcases Bool.eq_false_or_eq_true ((shortB rs)) with hb62 | hb62
   ·skip
    rw [hb62] at hA61
    have hshort : shortB rs = true := by assumption
    refine c_false hA61 rfl ?_
    refine c_seq ?_
    have hA63 := hA61.as [(2, (bptr b4 0)), (1, vu)] rfl; clear hA61
    refine c_region ?_
    refine st hA63 (op_move rfl (hA63.ev rfl)) rfl rfl (by decide) fun a64 hA65 => ?_; clear hA63 a60
    refine st hA65 (op_loadA rfl ty_33 (hA65.ev rfl) (hS55.bk 0 rfl) (l := [vr]) rfl rfl) rfl rfl (by decide) fun a66 hA67 => ?_; clear hA65 a64
    refine st hA67 (op_makeFunc rfl (ev1 (hA67.ev rfl)) ev0) rfl rfl (by decide) fun a68 hA69 => ?_; clear hA67 a66
    refine stw hA69 (op_call rfl en_89 (ev2 (hA69.ev rfl) (hA69.ev rfl)) (callsB (all_run rs lv hx.len _ 91 #[(Value.agg #[vr])] #[] (fun i => runB R.length (rs.getD i run0)) _ (hS55.sk 2 rfl) (by omega) ⟨en_91, fun i hi W hW => run_ok R vr (rs.getD i run0) (lv.getD i nilS) W (hm.step (hS55.ext.trans hW)) ((hx.step (hS55.ext.trans hW)).segs i hi) (by omega) (by have := short_at hshort hi; omega)⟩ (fun i hi => SlAt.one (hx.segs i hi))) (allRunB R rs) rfl)) rfl rfl (by decide) ?_
    rintro a70 _ w72 ⟨rfl, hE73⟩ hA71; have hS74 := hS55.step hE73; clear hE73 hA69 hS55 a68
    refine st hA71 (op_not rfl (hA71.ev rfl)) rfl rfl (by decide) fun a75 hA76 => ?_; clear hA71 a70
    refine st hA76 (op_assign rfl (hA76.ev rfl)) rfl rfl (by decide) fun a77 hA78 => ?_; clear hA76 a75
    refine wl_nil ?_
    refine then_n ?_
    rcases Bool.eq_false_or_eq_true ((allRunB R rs)) with hb79 | hb79
    ·skip
     rw [hb79] at hA78
     refine c_false hA78 rfl ?_
     refine c_skip ?_
     refine blk_n ?_
     refine then_n ?_
     refine c_seq ?_
     have hA80 := hA78.as [(2, (bptr b4 0)), (1, vu)] rfl; clear hA78
     refine c_region ?_
     refine st hA80 (op_loadA rfl ty_33 (hA80.ev rfl) (hS74.bk 0 rfl) (l := [vr]) rfl rfl) rfl rfl (by decide) fun a81 hA82 => ?_; clear hA80 a77
     refine st hA82 (op_move rfl (hA82.ev rfl)) rfl rfl (by decide) fun a83 hA84 => ?_; clear hA82 a81
     refine stw hA84 (op_makeMap hS74 (KA rs) rfl) rfl rfl (by decide) ?_
     rintro a85 _ w87 ⟨bm88, rfl, hS89⟩ hA86; clear hA84 hS74 a83
     refine st hA86 (op_build rfl (pv3 (hA86.ev rfl) (hA86.ev rfl) (hA86.ev rfl)) (bd_119_0va_1s_2m _ _ (SlAt.isSl (hS89.sk 3 rfl)) _)) rfl rfl (by decide) fun a90 hA91 => ?_; clear hA86 a85
     refine stw hA91 (op_box hS89 rfl (hA91.ev rfl) (cs := [vr, vu, (Value.map (some bm88))]) rfl) rfl rfl (by decide) ?_
     rintro a92 _ w94 ⟨b95, rfl, hS96⟩ hA93; clear hA91 hS89 a90
     refine st hA93 (op_assign rfl (hA93.ev rfl)) rfl rfl (by decide) fun a97 hA98 => ?_; clear hA93 a92
     refine st hA98 (op_assign rfl (evc _ _)) rfl rfl (by decide) fun a99 hA100 => ?_; clear hA98 a97
     refine wl_nil ?_
     refine then_n ?_
     refine c_ret ?_
     refine fin_run hA100 (.inl rfl) (run_results2 hA100 rfl (.tmp rfl) (.tmp rfl)) ?_
     exact .inr ⟨enter_0 (by assumption) (by omega) (by assumption) (by assumption), _, _, rfl, hS96.keep [0, 1] (by decide) _ rfl rfl⟩
    ·skip
     rw [hb79] at hA78
     refine c_true hA78 rfl ?_
     refine c_seq ?_
     have hA101 := hA78.as [] rfl; clear hA78
     refine c_region ?_
     refine st hA101 (op_assign rfl (evc _ _)) rfl rfl (by decide) fun a102 hA103 => ?_; clear hA101 a77
     refine st hA103 (op_assign rfl (evc _ _)) rfl rfl (by decide) fun a104 hA105 => ?_; clear hA103 a102
     refine wl_nil ?_
     refine then_n ?_
     refine c_ret ?_
     refine blk_ret ?_
     refine then_ret ?_
     refine fin_run hA105 (.inl rfl) (run_results2 hA105 rfl (.tmp rfl) (.tmp rfl)) ?_
     have hz := (enter_1 (R := R) (rs := rs) (by assumption) (by omega) (by assumption) (by assumption))
     exact .inl ⟨(by rw [hz]; decide), by rw [hz], hS74.ext⟩
   ·skip
    rw [hb62] at hA61
    refine c_true hA61 rfl ?_
    refine c_seq ?_
    have hA106 := hA61.as [] rfl; clear hA61
    refine c_region ?_
    refine st hA106 (op_assign rfl (evc _ _)) rfl rfl (by decide) fun a107 hA108 => ?_; clear hA106 a60
    refine st hA108 (op_assign rfl (evc _ _)) rfl rfl (by decide) fun a109 hA110 => ?_; clear hA108 a107
    refine wl_nil ?_
    refine then_n ?_
    refine c_ret ?_
    refine blk_ret ?_
    refine then_ret ?_
    refine fin_run hA110 (.inl rfl) (run_results2 hA110 rfl (.tmp rfl) (.tmp rfl)) ?_
    have hz := (show enterF R rs = 3 from by first | exact enter_3a (by assumption) (by omega) | exact enter_3b (by assumption) (by assumption))
    exact .inl ⟨(by rw [hz]; decide), by rw [hz], hS55.ext⟩
 ·skip
  rw [decide_eq_false hb23] at hA22
  refine c_true hA22 rfl ?_
  refine c_seq ?_
  have hA111 := hA22.as [(6, (Value.int .i64 (checkF R)))] rfl; clear hA22
  refine c_region ?_
  refine st hA111 (op_move rfl (hA111.ev rfl)) rfl rfl (by decide) fun a112 hA113 => ?_; clear hA111 a21
  refine st hA113 (op_assign rfl (evc _ _)) rfl rfl (by decide) fun a114 hA115 => ?_; clear hA113 a112
  refine st hA115 (op_assign rfl (hA115.ev rfl)) rfl rfl (by decide) fun a116 hA117 => ?_; clear hA115 a114
  refine wl_nil ?_
  refine then_n ?_
  refine c_ret ?_
  refine then_ret ?_
  refine fin_run hA117 (.inl rfl) (run_results2 hA117 rfl (.tmp rfl) (.tmp rfl)) ?_
  have hz := (enter_c (R := R) (rs := rs) (by assumption))
  exact .inl ⟨(by rw [hz]; assumption), by rw [hz], hS16.ext⟩
theorem enter_bad (R : List (Int × Int)) (rs : List RunD) (lv : List Value) (vr vu : Value) (w : World) (hm : SlAt w vr 2 R.length (pairs R)) (hx : RunsAt w vu lv rs) (hlen : R.length ≤ 1000000) (hrl : rs.length ≤ 1000000) (he : enterF R rs ≠ 0) : Calls Try.prog 66 #[.agg #[vr], vu] w (Ret fun v w' => v = .tuple #[.pointer none, .int .i64 (enterF R rs)] ∧ Ext NoB w w') :=
 (enter_any R rs lv vr vu w hm hx hlen hrl).mono (Ret.mono fun v w' h => by
  rcases h with ⟨_, h⟩ | ⟨h, _⟩
  ·exact h
  ·exact absurd h he)
theorem enter_ok (R : List (Int × Int)) (rs : List RunD) (lv : List Value) (vr vu : Value) (w : World) (hm : SlAt w vr 2 R.length (pairs R)) (hx : RunsAt w vu lv rs) (hlen : R.length ≤ 1000000) (hrl : rs.length ≤ 1000000) (he : enterF R rs = 0) : Calls Try.prog 66 #[.agg #[vr], vu] w (Ret fun v w' => ∃ bj bm, v = .tuple #[bptr bj 0, .int .i64 0] ∧ Sep NoB w w' [blk bj 119 [vr, vu, .map (some bm)], memo bm (KA rs)]) :=
 (enter_any R rs lv vr vu w hm hx hlen hrl).mono (Ret.mono fun v w' h => by
  rcases h with ⟨h, _⟩ | ⟨_, h⟩
  ·exact absurd he h
  ·exact h)
end Go.Proofs.Ytkkglkdnnfegkaa

namespace Go.Proofs.Ytkkglkdnnfegkaa
open Go.RowKit Go.Shelf Go.Eng
theorem ze_97 : (Try.prog.info? 97).bind (·.zero) = some (Value.pointer none) := by kernel_rfl
theorem en_66 : ∀ args w, (callFunc 66 args).run Try.prog w = .ok (.enter 66 args) w := enters_of Try.func66 (by kernel_rfl) rfl
theorem en_54 : ∀ args w, (callFunc 54 args).run Try.prog w = .ok (.enter 54 args) w := enters_of Try.func54 (by kernel_rfl) rfl
theorem en_78 : ∀ args w, (callFunc 78 args).run Try.prog w = .ok (.enter 78 args) w := enters_of Try.func78 (by kernel_rfl) rfl
theorem poss_e_ok (R : List (Int × Int)) (rs : List RunD) (lv : List Value) (vr vu : Value) (w : World) (hm : SlAt w vr 2 R.length (pairs R)) (hx : RunsAt w vu lv rs) (hlen : R.length ≤ 1000000) (hrl : rs.length ≤ 1000000) (he : enterF R rs ≠ 0) :
  Calls Try.prog 53 #[(Value.agg #[vr]), vu] w (Ret fun v w' => v = .tuple #[.pointer none, .int .i64 (enterF R rs)] ∧ Ext NoB w w') := by
 refine calls_enterM Try.func53 rfl fun a0 hA0 => ?_
 replace hA0 : Fr 21 (marks []) [(0, (Value.agg #[vr])), (1, vu)] a0 := hA0
 have hS0 : Sep NoB w w [(marksR []), (sl vr 2 R.length (pairs R)), (sl vu 3 rs.length (vtrips (runV lv rs))), (segsR false lv rs)] := sep_marks (sep_ro ⟨rfl, hm, rfl, hx.runs, rfl, ⟨hx.len, hx.segs⟩, trivial⟩)
 refine c_seq ?_
 refine c_region ?_
 refine stw hA0 (op_box hS0 rfl (hA0.ev rfl) (cs := [vr]) rfl) rfl rfl (by decide) ?_
 rintro a1 _ w3 ⟨b4, rfl, hS5⟩ hA2; clear hA0 hS0 a0
 refine stw hA2 (op_alloc hS5 rfl ze_97 (cs := [(Value.pointer none)]) rfl) rfl rfl (by decide) ?_
 rintro a6 _ w8 ⟨b9, rfl, hS10⟩ hA7; clear hA2 hS5 a1
 refine stw hA7 (op_alloc hS10 rfl ze_29 (cs := [(Value.int .i64 0)]) rfl) rfl rfl (by decide) ?_
 rintro a11 _ w13 ⟨b14, rfl, hS15⟩ hA12; clear hA7 hS10 a6
 refine wl_nil ?_
 refine then_n ?_
 refine c_seq ?_
 refine c_region ?_
 refine st hA12 (op_loadA rfl ty_33 (hA12.ev rfl) (hS15.bk 2 rfl) (l := [vr]) rfl rfl) rfl rfl (by decide) fun a16 hA17 => ?_; clear hA12 a11
 refine st hA17 (op_move rfl (hA17.ev rfl)) rfl rfl (by decide) fun a18 hA19 => ?_; clear hA17 a16
 refine stw hA19 (op_call rfl en_66 (ev2 (hA19.ev rfl) (hA19.ev rfl)) (enter_bad R rs lv vr vu _ (hm.step hS15.ext) (hx.step hS15.ext) (by omega) (by omega) he)) rfl rfl (by decide) ?_
 rintro a20 _ w22 ⟨rfl, hE23⟩ hA21; have hS24 := hS15.step hE23; clear hE23 hA19 hS15 a18
 refine st hA21 (op_move rfl (hA21.ev rfl)) rfl rfl (by decide) fun a25 hA26 => ?_; clear hA21 a20
 refine st hA26 (op_extract rfl (hA26.ev rfl) rfl) rfl rfl (by decide) fun a27 hA28 => ?_; clear hA26 a25
 refine st hA28 (op_extract rfl (hA28.ev rfl) rfl) rfl rfl (by decide) fun a29 hA30 => ?_; clear hA28 a27
 refine stw hA30 (op_alloc hS24 rfl ze_97 (cs := [(Value.pointer none)]) rfl) rfl rfl (by decide) ?_
 rintro a31 _ w33 ⟨b34, rfl, hS35⟩ hA32; clear hA30 hS24 a29
 refine sts hA32 (op_store hS35 rfl ty_97 (hA32.ev rfl) (hA32.ev rfl) (i := 0) rfl (vs := [(Value.pointer none)]) rfl rfl (all_c rfl all_n) (Nat.le_of_ble_eq_true rfl)) rfl rfl ?_
 intro _ w36 hS37 hA38; clear hA32
 have hS39 : Sep NoB w w36 [(blk b34 97 [(Value.pointer none)]), (blk b14 29 [(Value.int .i64 0)]), (blk b9 97 [(Value.pointer none)]), (blk b4 33 [vr]), (marksR []), (sl vr 2 R.length (pairs R)), (sl vu 3 rs.length (vtrips (runV lv rs))), (segsR false lv rs)] := hS37; clear hS37 hS35
 refine st hA38 (op_assign rfl (hA38.ev rfl)) rfl rfl (by decide) fun a40 hA41 => ?_; clear hA38 a31
 refine wl_nil ?_
 refine then_n ?_
 refine c_seq ?_
 refine c_seq ?_
 have hA42 := hA41.as [(7, (Value.int .i64 (enterF R rs))), (6, (bptr b34 0)), (5, (bptr b14 0)), (4, (bptr b9 0))] rfl; clear hA41
 refine c_region ?_
 refine st hA42 (op_move rfl (hA42.ev rfl)) rfl rfl (by decide) fun a43 hA44 => ?_; clear hA42 a40
 refine st hA44 (op_neq rfl (hA44.ev rfl) (evc _ _)) rfl rfl (by decide) fun a45 hA46 => ?_; clear hA44 a43
 have hd47 : ¬ ((enterF R rs) = 0) := he
 rw [decide_eq_false hd47] at hA46
 refine wl_nil ?_
 refine then_n ?_
 refine c_true hA46 rfl ?_
 refine c_seq ?_
 refine c_region ?_
 refine st hA46 (op_move rfl (hA46.ev rfl)) rfl rfl (by decide) fun a48 hA49 => ?_; clear hA46 a45
 refine sts hA49 (op_store hS39 rfl ty_97 (hA49.ev rfl) (evc _ _) (i := 2) rfl (vs := [(Value.pointer none)]) rfl rfl (all_c rfl all_n) (Nat.le_of_ble_eq_true rfl)) rfl rfl ?_
 intro _ w50 hS51 hA52; clear hA49
 have hS53 : Sep NoB w w50 [(blk b34 97 [(Value.pointer none)]), (blk b14 29 [(Value.int .i64 0)]), (blk b9 97 [(Value.pointer none)]), (blk b4 33 [vr]), (marksR []), (sl vr 2 R.length (pairs R)), (sl vu 3 rs.length (vtrips (runV lv rs))), (segsR false lv rs)] := hS51; clear hS51 hS39
 refine sts hA52 (op_store hS53 rfl ty_29 (hA52.ev rfl) (hA52.ev rfl) (i := 1) rfl (vs := [(Value.int .i64 (enterF R rs))]) rfl rfl rfl (Nat.le_of_ble_eq_true rfl)) rfl rfl ?_
 intro _ w54 hS55 hA56; clear hA52
 have hS57 : Sep NoB w w54 [(blk b34 97 [(Value.pointer none)]), (blk b14 29 [(Value.int .i64 (enterF R rs))]), (blk b9 97 [(Value.pointer none)]), (blk b4 33 [vr]), (marksR []), (sl vr 2 R.length (pairs R)), (sl vu 3 rs.length (vtrips (runV lv rs))), (segsR false lv rs)] := hS55; clear hS55 hS53
 refine wl_nil ?_
 refine then_n ?_
 refine c_ret ?_
 refine then_ret ?_
 have hS58 : Sep NoB w w54 [(marksR []), (blk b34 97 [(Value.pointer none)]), (blk b14 29 [(Value.int .i64 (enterF R rs))]), (blk b9 97 [(Value.pointer none)]), (blk b4 33 [vr]), (sl vr 2 R.length (pairs R)), (sl vu 3 rs.length (vtrips (runV lv rs))), (segsR false lv rs)] := hS57.keep [4, 0, 1, 2, 3, 5, 6, 7] (by decide) _ rfl rfl; clear hS57
 refine fin_runM hA56 (.inl rfl) hS58 ?_
 intro w59 hS60; clear hS58
 refine ⟨_, (run_results2 hA56 rfl (.cell1 rfl ty_97 (hS60.bk 2 rfl) rfl) (.cell1 rfl ty_29 (hS60.bk 1 rfl) rfl)), ?_⟩
 exact ⟨rfl, hS60.ext⟩
theorem poss_any (R : List (Int × Int)) (rs : List RunD) (lv : List Value) (vr vu : Value) (w : World) (hm : SlAt w vr 2 R.length (pairs R)) (hx : RunsAt w vu lv rs) (hlen : R.length ≤ 1000000) (hrl : rs.length ≤ 1000000) (he : enterF R rs = 0) :
  Calls Try.prog 53 #[(Value.agg #[vr]), vu] w (Ret fun v w' => (possF R rs = 9 ∧ v = .tuple #[.pointer none, .int .i64 9] ∧ Ext NoB w w') ∨ (possF R rs = 0 ∧ ∃ bj bm, v = .tuple #[bptr bj 0, .int .i64 0] ∧ Sep NoB w w' [blk bj 119 [vr, vu, .map (some bm)], memo bm (KA rs)])) := by
 refine calls_enterM Try.func53 rfl fun a0 hA0 => ?_
 replace hA0 : Fr 21 (marks []) [(0, (Value.agg #[vr])), (1, vu)] a0 := hA0
 have hR := (check_mat (enter_mat he)).1
 have hV := enter_runs he
 have hS0 : Sep NoB w w [(marksR []), (sl vr 2 R.length (pairs R)), (sl vu 3 rs.length (vtrips (runV lv rs))), (segsR false lv rs)] := sep_marks (sep_ro ⟨rfl, hm, rfl, hx.runs, rfl, ⟨hx.len, hx.segs⟩, trivial⟩)
 refine c_seq ?_
 refine c_region ?_
 refine stw hA0 (op_box hS0 rfl (hA0.ev rfl) (cs := [vr]) rfl) rfl rfl (by decide) ?_
 rintro a1 _ w3 ⟨b4, rfl, hS5⟩ hA2; clear hA0 hS0 a0
 refine stw hA2 (op_alloc hS5 rfl ze_97 (cs := [(Value.pointer none)]) rfl) rfl rfl (by decide) ?_
 rintro a6 _ w8 ⟨b9, rfl, hS10⟩ hA7; clear hA2 hS5 a1
 refine stw hA7 (op_alloc hS10 rfl ze_29 (cs := [(Value.int .i64 0)]) rfl) rfl rfl (by decide) ?_
 rintro a11 _ w13 ⟨b14, rfl, hS15⟩ hA12; clear hA7 hS10 a6
 refine wl_nil ?_
 refine then_n ?_
 refine c_seq ?_
 refine c_region ?_
 refine st hA12 (op_loadA rfl ty_33 (hA12.ev rfl) (hS15.bk 2 rfl) (l := [vr]) rfl rfl) rfl rfl (by decide) fun a16 hA17 => ?_; clear hA12 a11
 refine st hA17 (op_move rfl (hA17.ev rfl)) rfl rfl (by decide) fun a18 hA19 => ?_; clear hA17 a16
 refine stw hA19 (op_call rfl en_66 (ev2 (hA19.ev rfl) (hA19.ev rfl)) (enter_ok R rs lv vr vu _ (hm.step hS15.ext) (hx.step hS15.ext) (by omega) (by omega) he)) rfl rfl (by decide) ?_
 rintro a20 _ w22 ⟨bj25, bm26, rfl, hT23⟩ hA21; have hS24 := hS15.callS hT23 rfl; clear hT23 hA19 hS15 a18
 refine st hA21 (op_move rfl (hA21.ev rfl)) rfl rfl (by decide) fun a27 hA28 => ?_; clear hA21 a20
 refine st hA28 (op_extract rfl (hA28.ev rfl) rfl) rfl rfl (by decide) fun a29 hA30 => ?_; clear hA28 a27
 refine st hA30 (op_extract rfl (hA30.ev rfl) rfl) rfl rfl (by decide) fun a31 hA32 => ?_; clear hA30 a29
 refine stw hA32 (op_alloc hS24 rfl ze_97 (cs := [(Value.pointer none)]) rfl) rfl rfl (by decide) ?_
 rintro a33 _ w35 ⟨b36, rfl, hS37⟩ hA34; clear hA32 hS24 a31
 refine sts hA34 (op_store hS37 rfl ty_97 (hA34.ev rfl) (hA34.ev rfl) (i := 0) rfl (vs := [(bptr bj25 0)]) rfl rfl rfl (Nat.le_of_ble_eq_true rfl)) rfl rfl ?_
 intro _ w38 hS39 hA40; clear hA34
 have hS41 : Sep NoB w w38 [(blk b36 97 [(bptr bj25 0)]), (blk bj25 119 [vr, vu, (Value.map (some bm26))]), (memo bm26 (KA rs)), (blk b14 29 [(Value.int .i64 0)]), (blk b9 97 [(Value.pointer none)]), (blk b4 33 [vr]), (marksR []), (sl vr 2 R.length (pairs R)), (sl vu 3 rs.length (vtrips (runV lv rs))), (segsR false lv rs)] := hS39; clear hS39 hS37
 refine st hA40 (op_assign rfl (hA40.ev rfl)) rfl rfl (by decide) fun a42 hA43 => ?_; clear hA40 a33
 refine wl_nil ?_
 refine then_n ?_
 refine c_seq ?_
 refine c_seq ?_
 have hA44 := hA43.as [(7, (Value.int .i64 0)), (6, (bptr b36 0)), (5, (bptr b14 0)), (4, (bptr b9 0))] rfl; clear hA43
 refine c_region ?_
 refine st hA44 (op_move rfl (hA44.ev rfl)) rfl rfl (by decide) fun a45 hA46 => ?_; clear hA44 a42
 refine st hA46 (op_neq rfl (hA46.ev rfl) (evc _ _)) rfl rfl (by decide) fun a47 hA48 => ?_; clear hA46 a45
 refine wl_nil ?_
 refine then_n ?_
 refine c_false hA48 rfl ?_
 refine c_skip ?_
 refine then_n ?_
 refine c_seq ?_
 refine c_seq ?_
 refine c_region ?_
 refine st hA48 (op_load1 rfl ty_97 (hA48.ev rfl) (hS41.bk 0 rfl) rfl) rfl rfl (by decide) fun a49 hA50 => ?_; clear hA48 a47
 refine stw hA50 (op_call rfl en_54 (ev1 (hA50.ev rfl)) (every_ok _ _)) rfl rfl (by decide) ?_
 rintro a51 _ w53 ⟨bx56, rfl, hT54⟩ hA52; have hS55 := hS41.callS hT54 rfl; clear hT54 hA50 hS41 a49
 refine wl_nil ?_
 refine then_n ?_
 refine c_block ?_
 have hA57 := hA52.as [(18, (Value.func (.func 78) #[] #[(bptr bx56 0)])), (6, (bptr b36 0)), (5, (bptr b14 0)), (4, (bptr b9 0))] rfl; clear hA52
 have hS58 : Sep NoB w w53 [(marksR []), (memo bm26 (KA rs)), (blk bx56 97 [(bptr bj25 0)]), (blk b36 97 [(bptr bj25 0)]), (blk bj25 119 [vr, vu, (Value.map (some bm26))]), (blk b14 29 [(Value.int .i64 0)]), (blk b9 97 [(Value.pointer none)]), (blk b4 33 [vr]), (sl vr 2 R.length (pairs R)), (sl vu 3 rs.length (vtrips (runV lv rs))), (segsR false lv rs)] := hS55.keep [7, 3, 0, 1, 2, 4, 5, 6, 8, 9, 10] (by decide) _ rfl rfl; clear hS55
 refine c_rangeG hA57 (memo bm26 (KA rs)) rfl hS58 (hA57.ev rfl) en_78 ((allowedF R rs).length) (fun k => #[.agg (ints ((allowedF R rs).getD k [])).toArray]) (fun _ => rfl) [rob bx56 97 [bptr bj25 0], rob bj25 119 [vr, vu, .map (some bm26)], sl vr 2 R.length (pairs R), sl vu 3 rs.length (vtrips (runV lv rs)), segsR false lv rs] (fun r hr => by simp only [List.mem_cons, List.not_mem_nil, or_false] at hr; rcases hr with rfl | rfl | rfl | rfl | rfl <;> rfl) (every_it bx56 bj25 bm26 R rs lv vr vu R.length hR.1 hR hV hx.len) (fun q L_ => L_ = [(blk bx56 97 [(bptr bj25 0)]), (blk b36 97 [(bptr bj25 0)]), (blk bj25 119 [vr, vu, (Value.map (some bm26))]), (blk b14 29 [(Value.int .i64 0)]), (blk b9 97 [(Value.pointer none)]), (blk b4 33 [vr]), (sl vr 2 R.length (pairs R)), (sl vu 3 rs.length (vtrips (runV lv rs))), (segsR false lv rs)] ∧ (q = 0)) (fun L_ => L_ = [(blk bx56 97 [(bptr bj25 0)]), (blk b36 97 [(bptr bj25 0)]), (blk bj25 119 [vr, vu, (Value.map (some bm26))]), (blk b14 29 [(Value.int .i64 0)]), (blk b9 97 [(bptr bj25 0)]), (blk b4 33 [vr]), (sl vr 2 R.length (pairs R)), (sl vu 3 rs.length (vtrips (runV lv rs))), (segsR false lv rs)] ∧ (0 < (allowedF R rs).length)) (some .ret) ⟨rfl, rfl⟩ (fun q L_ hI_ G_ W_ r1_ r2_ hW_ => by obtain ⟨rfl, hz⟩ := hI_; exact (Sep.keep ((hW_.to_ro (i := 3) rfl).to_ro (i := 5) rfl) [2, 3, 5, 9, 10, 11] (by decide) _ rfl rfl)) (fun L_ hI_ G_ W_ r1_ r2_ hW_ => by obtain ⟨rfl, hn⟩ := hI_; exact (Sep.keep ((hW_.to_ro (i := 3) rfl).to_ro (i := 5) rfl) [2, 3, 5, 9, 10, 11] (by decide) _ rfl rfl)) ?_ ?_ ?_
 ·skip
  intro q hq L_ hL_ G67 hG68 l64 D65 rc66 a59 w60 ha63 hS61; obtain ⟨rfl, hz⟩ := hL_
  have hA62 : Fr 21 [] [(19, (Value.agg (ints ((allowedF R rs).getD q [])).toArray)), (18, (Value.func (.func 78) #[] #[(bptr bx56 0)])), (6, (bptr b36 0)), (5, (bptr b14 0)), (4, (bptr b9 0))] a59 := by rw [ha63]; exact Fr.round1 hA57 (by decide)
  clear ha63 hS58
  refine c_skip ?_
  refine ⟨rfl, _, hS61, ?_⟩; intro w69 hS70; clear hS61
  refine c_block ?_
  refine c_seq ?_
  refine c_region ?_
  refine st hA62 (op_load1 rfl ty_97 (hA62.ev rfl) (hS70.bk 4 rfl) rfl) rfl rfl (by decide) fun a71 hA72 => ?_; clear hA62 a59
  refine sts hA72 (op_store hS70 rfl ty_97 (hA72.ev rfl) (hA72.ev rfl) (i := 7) rfl (vs := [(bptr bj25 0)]) rfl rfl rfl (Nat.le_of_ble_eq_true rfl)) rfl rfl ?_
  intro _ w73 hS74 hA75; clear hA72
  have hS76 : Sep NoB w w73 [(obR l64 (.loop (rc66 .busy none))), (marksR (D65 :: [])), G67, (blk bx56 97 [(bptr bj25 0)]), (blk b36 97 [(bptr bj25 0)]), (blk bj25 119 [vr, vu, (Value.map (some bm26))]), (blk b14 29 [(Value.int .i64 0)]), (blk b9 97 [(bptr bj25 0)]), (blk b4 33 [vr]), (sl vr 2 R.length (pairs R)), (sl vu 3 rs.length (vtrips (runV lv rs))), (segsR false lv rs)] := hS74; clear hS74 hS70
  refine sts hA75 (op_store hS76 rfl ty_29 (hA75.ev rfl) (evc _ _) (i := 6) rfl (vs := [(Value.int .i64 0)]) rfl rfl rfl (Nat.le_of_ble_eq_true rfl)) rfl rfl ?_
  intro _ w77 hS78 hA79; clear hA75
  have hS80 : Sep NoB w w77 [(obR l64 (.loop (rc66 .busy none))), (marksR (D65 :: [])), G67, (blk bx56 97 [(bptr bj25 0)]), (blk b36 97 [(bptr bj25 0)]), (blk bj25 119 [vr, vu, (Value.map (some bm26))]), (blk b14 29 [(Value.int .i64 0)]), (blk b9 97 [(bptr bj25 0)]), (blk b4 33 [vr]), (sl vr 2 R.length (pairs R)), (sl vu 3 rs.length (vtrips (runV lv rs))), (segsR false lv rs)] := hS78; clear hS78 hS76
  refine wl_nil ?_
  refine then_n ?_
  refine c_ret ?_
  refine blk_ret ?_
  exact re_ret rfl ⟨_, rfl, ⟨rfl, (Nat.lt_of_le_of_lt (Nat.zero_le _) hq)⟩⟩ hS80
 ·skip
  intro L_ hL_ D85 a81 w82 hA84 hS83; obtain ⟨rfl, hz⟩ := hL_; clear hA57 hS58
  refine blk_n ?_
  refine then_n ?_
  refine c_seq ?_
  refine c_region ?_
  refine sts hA84 (op_store hS83 rfl ty_97 (hA84.ev rfl) (evc _ _) (i := 6) rfl (vs := [(Value.pointer none)]) rfl rfl (all_c rfl all_n) (Nat.le_of_ble_eq_true rfl)) rfl rfl ?_
  intro _ w86 hS87 hA88; clear hA84
  have hS89 : Sep NoB w w86 [(marksR (D85 :: [])), (memo bm26 (KA rs)), (blk bx56 97 [(bptr bj25 0)]), (blk b36 97 [(bptr bj25 0)]), (blk bj25 119 [vr, vu, (Value.map (some bm26))]), (blk b14 29 [(Value.int .i64 0)]), (blk b9 97 [(Value.pointer none)]), (blk b4 33 [vr]), (sl vr 2 R.length (pairs R)), (sl vu 3 rs.length (vtrips (runV lv rs))), (segsR false lv rs)] := hS87; clear hS87 hS83
  refine sts hA88 (op_store hS89 rfl ty_29 (hA88.ev rfl) (evc _ _) (i := 5) rfl (vs := [(Value.int .i64 9)]) rfl rfl rfl (Nat.le_of_ble_eq_true rfl)) rfl rfl ?_
  intro _ w90 hS91 hA92; clear hA88
  have hS93 : Sep NoB w w90 [(marksR (D85 :: [])), (memo bm26 (KA rs)), (blk bx56 97 [(bptr bj25 0)]), (blk b36 97 [(bptr bj25 0)]), (blk bj25 119 [vr, vu, (Value.map (some bm26))]), (blk b14 29 [(Value.int .i64 9)]), (blk b9 97 [(Value.pointer none)]), (blk b4 33 [vr]), (sl vr 2 R.length (pairs R)), (sl vu 3 rs.length (vtrips (runV lv rs))), (segsR false lv rs)] := hS91; clear hS91 hS89
  refine wl_nil ?_
  refine then_n ?_
  refine c_ret ?_
  refine fin_runM hA92 (.inl rfl) hS93 ?_
  intro w94 hS95; clear hS93
  refine ⟨_, (run_results2 hA92 rfl (.cell1 rfl ty_97 (hS95.bk 5 rfl) rfl) (.cell1 rfl ty_29 (hS95.bk 4 rfl) rfl)), ?_⟩
  exact .inl ⟨poss_9 he hz, rfl, hS95.ext⟩
 ·skip
  intro c_ hc_; cases hc_
  intro L_ hL_ D100 a96 w97 hA99 hS98; obtain ⟨rfl, hn⟩ := hL_; clear hA57 hS58
  refine c_ret ?_
  refine blk_ret ?_
  refine then_ret ?_
  refine fin_runM hA99 (.inl rfl) hS98 ?_
  intro w101 hS102; clear hS98
  refine ⟨_, (run_results2 hA99 rfl (.cell1 rfl ty_97 (hS102.bk 5 rfl) rfl) (.cell1 rfl ty_29 (hS102.bk 4 rfl) rfl)), ?_⟩
  exact .inr ⟨poss_0 he hn, _, _, rfl, hS102.keep [3, 0] (by decide) _ rfl rfl⟩
theorem poss_bad (R : List (Int × Int)) (rs : List RunD) (lv : List Value) (vr vu : Value) (w : World) (hm : SlAt w vr 2 R.length (pairs R)) (hx : RunsAt w vu lv rs) (hlen : R.length ≤ 1000000) (hrl : rs.length ≤ 1000000) (he : possF R rs ≠ 0) : Calls Try.prog 53 #[.agg #[vr], vu] w (Ret fun v w' => v = .tuple #[.pointer none, .int .i64 (possF R rs)] ∧ Ext NoB w w') := by
 by_cases h0 : enterF R rs = 0
 ·exact (poss_any R rs lv vr vu w hm hx hlen hrl h0).mono (Ret.mono fun v w' h => by
   rcases h with ⟨h1, h⟩ | ⟨h, _⟩
   ·rw [h1]; exact h
   ·exact absurd h he)
 ·have := poss_e_ok R rs lv vr vu w hm hx hlen hrl h0
  rw [poss_e h0]; exact this
theorem poss_ok (R : List (Int × Int)) (rs : List RunD) (lv : List Value) (vr vu : Value) (w : World) (hm : SlAt w vr 2 R.length (pairs R)) (hx : RunsAt w vu lv rs) (hlen : R.length ≤ 1000000) (hrl : rs.length ≤ 1000000) (he : possF R rs = 0) : Calls Try.prog 53 #[.agg #[vr], vu] w (Ret fun v w' => ∃ bj bm, v = .tuple #[bptr bj 0, .int .i64 0] ∧ Sep NoB w w' [blk bj 119 [vr, vu, .map (some bm)], memo bm (KA rs)]) :=
 (poss_any R rs lv vr vu w hm hx hlen hrl (poss_is he).1).mono (Ret.mono fun v w' h => by
  rcases h with ⟨h, _⟩ | ⟨_, h⟩
  ·rw [he] at h; exact absurd h (by decide)
  ·exact h)
end Go.Proofs.Ytkkglkdnnfegkaa

namespace Go.Proofs.Ytkkglkdnnfegkaa
open Go.RowKit Go.Eng
def withF (p : Int × Int) (n : Int) (first : Bool) : Int × Int := (if first = true then n else min p.1 n, if first = true then n else max p.2 n)
def midW (old : List (Int × Int)) (l : List Int) (first : Bool) (b : Nat) : List (Int × Int) := (List.range old.length).map fun i => if i < b then withF (old.getD i (0, 0)) (l.getD i 0) first else old.getD i (0, 0)
def outF (A : List (List Int)) (n : Nat) : Nat → List (Int × Int)
  | 0 => List.replicate n (0, 0)
  | k + 1 => midW (outF A n k) (A.getD k []) (decide ((k : Int) = 0)) n
theorem midW_len (old : List (Int × Int)) (l : List Int) (first : Bool) (b : Nat) : (midW old l first b).length = old.length := by simp [midW]
theorem outF_len (A : List (List Int)) (n : Nat) : ∀ k, (outF A n k).length = n
  | 0 => by simp [outF]
  | k + 1 => by rw [outF, midW_len, outF_len A n k]
theorem midW_getD {old : List (Int × Int)} {l : List Int} {first : Bool} {b i : Nat} (hi : i < old.length) : (midW old l first b).getD i (0, 0) = if i < b then withF (old.getD i (0, 0)) (l.getD i 0) first else old.getD i (0, 0) := by
  simp [midW, List.getD, hi]
theorem midW_zero (old : List (Int × Int)) (l : List Int) (first : Bool) : midW old l first 0 = old := by
  apply List.ext_getElem (by simp [midW])
  intro i h1 h2
  simp [midW, List.getD, h2]
theorem midW_set {old : List (Int × Int)} {l : List Int} {first : Bool} {b : Nat} (hb : b < old.length) :
    (midW old l first b).set b (withF ((midW old l first b).getD b (0, 0)) (l.getD b 0) first) = midW old l first (b + 1) := by
  apply List.ext_getElem (by simp [midW])
  intro i h1 h2
  have eb : (midW old l first b).getD b (0, 0) = old.getD b (0, 0) := by rw [midW_getD hb, if_neg (Nat.lt_irrefl b)]
  have hi : i < old.length := by simpa [midW] using h2
  by_cases e : i = b
  · subst e
    rw [List.getElem_set_self, eb]
    simp [midW]
  · rw [List.getElem_set_ne (fun h => e h.symm)]
    simp only [midW, List.getElem_map, List.getElem_range]
    by_cases h3 : i < b
    · rw [if_pos h3, if_pos (by omega)]
    · rw [if_neg h3, if_neg (by omega)]
theorem outF_succ (A : List (List Int)) (n k : Nat) {b : Nat} (hb : n = b) : midW (outF A n k) (A.getD k []) (decide ((k : Int) = 0)) b = outF A n (k + 1) := by subst hb; rfl
theorem fromF_len {R : List (Int × Int)} (hR : MatV R) : ∀ (m : Nat) (arr : List Int) (band : Nat), RatesV arr → (fromF R m arr band).length ≤ 1001 ^ m
  | 0, arr, band, ha => by simp [fromF]
  | m + 1, arr, band, ha => by
    have h1 := lowF_bd hR ha band
    have h2 := hR.2 band
    have hc : cntF R arr band ≤ 1001 := by unfold cntF; omega
    have key : ∀ t, t ≤ cntF R arr band → (fromUpto R m arr band t).length ≤ 1001 ^ m * t := by
      intro t
      induction t with
      | zero => intro _; simp [fromUpto]
      | succ t ih =>
        intro ht
        have := ih (by omega)
        have h3 := fromF_len hR m (arr.set band (lowF R arr band + (t : Int))) (band + 1) (ratesV_set ha (by unfold cntF at ht; omega))
        rw [fromUpto_succ, List.length_append, Nat.mul_succ]; omega
    rw [fromF_end]
    calc _ ≤ 1001 ^ m * cntF R arr band := key _ (Nat.le_refl _)
      _ ≤ 1001 ^ m * 1001 := Nat.mul_le_mul_left _ hc
      _ = 1001 ^ (m + 1) := (Nat.pow_succ ..).symm
theorem lists_len {R : List (Int × Int)} (hR : MatV R) : (listsF R).length ≤ 1003003001 := by
  refine Nat.le_trans (fromF_len hR R.length [0, 0, 0] 0 zero_rates) ?_
  calc 1001 ^ R.length ≤ 1001 ^ 3 := Nat.pow_le_pow_right (by decide) hR.1
    _ = 1003003001 := by decide
theorem allowed_le {R : List (Int × Int)} {rs : List RunD} (hR : MatV R) : (allowedF R rs).length ≤ 1003003001 := Nat.le_trans (List.length_filter_le ..) (lists_len hR)
def ratesF (R : List (Int × Int)) (rs : List RunD) : List (Int × Int) := outF (allowedF R rs) R.length (allowedF R rs).length
end Go.Proofs.Ytkkglkdnnfegkaa

namespace Go.Proofs.Ytkkglkdnnfegkaa
open Go.RowKit Go.Shelf Go.Eng
theorem ze_28 : (Try.prog.info? 28).bind (·.zero) = some (Value.slice none 0 0) := by kernel_rfl
theorem en_53 : ∀ args w, (callFunc 53 args).run Try.prog w = .ok (.enter 53 args) w := enters_of Try.func53 (by kernel_rfl) rfl
theorem el_42 : elK Try.prog 42 = some ((Value.agg #[(Value.int .i64 0), (Value.int .i64 0)]), 2, 16) := by kernel_rfl
theorem en_55 : ∀ args w, (callFunc 55 args).run Try.prog w = .ok (.enter 55 args) w := enters_of Try.func55 (by kernel_rfl) rfl
theorem rates_bad (R : List (Int × Int)) (rs : List RunD) (lv : List Value) (vr vu : Value) (w : World) (hm : SlAt w vr 2 R.length (pairs R)) (hx : RunsAt w vu lv rs) (hlen : R.length ≤ 1000000) (hrl : rs.length ≤ 1000000) (he : possF R rs ≠ 0) :
  Calls Try.prog 18 #[(Value.agg #[vr]), vu] w (Ret fun v w' => v = .tuple #[.slice none 0 0, .int .i64 0, .int .i64 (possF R rs)] ∧ Ext NoB w w') := by
 refine calls_enterM Try.func18 rfl fun a0 hA0 => ?_
 replace hA0 : Fr 49 (marks []) [(0, (Value.agg #[vr])), (1, vu)] a0 := hA0
 have hS0 : Sep NoB w w [(marksR []), (sl vr 2 R.length (pairs R)), (sl vu 3 rs.length (vtrips (runV lv rs))), (segsR false lv rs)] := sep_marks (sep_ro ⟨rfl, hm, rfl, hx.runs, rfl, ⟨hx.len, hx.segs⟩, trivial⟩)
 refine c_seq ?_
 refine c_region ?_
 refine stw hA0 (op_box hS0 rfl (hA0.ev rfl) (cs := [vr]) rfl) rfl rfl (by decide) ?_
 rintro a1 _ w3 ⟨b4, rfl, hS5⟩ hA2; clear hA0 hS0 a0
 refine stw hA2 (op_alloc hS5 rfl ze_28 (cs := [(Value.slice none 0 0)]) rfl) rfl rfl (by decide) ?_
 rintro a6 _ w8 ⟨b9, rfl, hS10⟩ hA7; clear hA2 hS5 a1
 refine stw hA7 (op_alloc hS10 rfl ze_3 (cs := [(Value.int .i64 0)]) rfl) rfl rfl (by decide) ?_
 rintro a11 _ w13 ⟨b14, rfl, hS15⟩ hA12; clear hA7 hS10 a6
 refine st hA12 (op_assign rfl (evc _ _)) rfl rfl (by decide) fun a16 hA17 => ?_; clear hA12 a11
 refine wl_nil ?_
 refine then_n ?_
 refine c_seq ?_
 refine c_region ?_
 refine st hA17 (op_loadA rfl ty_33 (hA17.ev rfl) (hS15.bk 2 rfl) (l := [vr]) rfl rfl) rfl rfl (by decide) fun a18 hA19 => ?_; clear hA17 a16
 refine st hA19 (op_move rfl (hA19.ev rfl)) rfl rfl (by decide) fun a20 hA21 => ?_; clear hA19 a18
 refine stw hA21 (op_call rfl en_53 (ev2 (hA21.ev rfl) (hA21.ev rfl)) (poss_bad R rs lv vr vu _ (hm.step hS15.ext) (hx.step hS15.ext) (by omega) (by omega) he)) rfl rfl (by decide) ?_
 rintro a22 _ w24 ⟨rfl, hE25⟩ hA23; have hS26 := hS15.step hE25; clear hE25 hA21 hS15 a20
 refine st hA23 (op_move rfl (hA23.ev rfl)) rfl rfl (by decide) fun a27 hA28 => ?_; clear hA23 a22
 refine st hA28 (op_extract rfl (hA28.ev rfl) rfl) rfl rfl (by decide) fun a29 hA30 => ?_; clear hA28 a27
 refine st hA30 (op_extract rfl (hA30.ev rfl) rfl) rfl rfl (by decide) fun a31 hA32 => ?_; clear hA30 a29
 refine st hA32 (op_assign rfl (hA32.ev rfl)) rfl rfl (by decide) fun a33 hA34 => ?_; clear hA32 a31
 refine st hA34 (op_assign rfl (hA34.ev rfl)) rfl rfl (by decide) fun a35 hA36 => ?_; clear hA34 a33
 refine wl_nil ?_
 refine then_n ?_
 refine c_seq ?_
 refine c_seq ?_
 have hA37 := hA36.as [(6, (Value.int .i64 (possF R rs))), (7, (Value.pointer none)), (5, (bptr b14 0)), (4, (bptr b9 0)), (2, (bptr b4 0))] rfl; clear hA36
 refine c_region ?_
 refine st hA37 (op_move rfl (hA37.ev rfl)) rfl rfl (by decide) fun a38 hA39 => ?_; clear hA37 a35
 refine st hA39 (op_neq rfl (hA39.ev rfl) (evc _ _)) rfl rfl (by decide) fun a40 hA41 => ?_; clear hA39 a38
 have hd42 : ¬ ((possF R rs) = 0) := he
 rw [decide_eq_false hd42] at hA41
 refine wl_nil ?_
 refine then_n ?_
 refine c_true hA41 rfl ?_
 refine c_seq ?_
 refine c_region ?_
 refine st hA41 (op_move rfl (hA41.ev rfl)) rfl rfl (by decide) fun a43 hA44 => ?_; clear hA41 a40
 refine sts hA44 (op_store hS26 rfl ty_28 (hA44.ev rfl) (evc _ _) (i := 1) rfl (vs := [(Value.slice none 0 0)]) rfl rfl (all_c rfl all_n) (Nat.le_of_ble_eq_true rfl)) rfl rfl ?_
 intro _ w45 hS46 hA47; clear hA44
 have hS48 : Sep NoB w w45 [(blk b14 3 [(Value.int .i64 0)]), (blk b9 28 [(Value.slice none 0 0)]), (blk b4 33 [vr]), (marksR []), (sl vr 2 R.length (pairs R)), (sl vu 3 rs.length (vtrips (runV lv rs))), (segsR false lv rs)] := hS46; clear hS46 hS26
 refine sts hA47 (op_store hS48 rfl ty_3 (hA47.ev rfl) (evc _ _) (i := 0) rfl (vs := [(Value.int .i64 0)]) rfl rfl rfl (Nat.le_of_ble_eq_true rfl)) rfl rfl ?_
 intro _ w49 hS50 hA51; clear hA47
 have hS52 : Sep NoB w w49 [(blk b14 3 [(Value.int .i64 0)]), (blk b9 28 [(Value.slice none 0 0)]), (blk b4 33 [vr]), (marksR []), (sl vr 2 R.length (pairs R)), (sl vu 3 rs.length (vtrips (runV lv rs))), (segsR false lv rs)] := hS50; clear hS50 hS48
 refine st hA51 (op_assign rfl (hA51.ev rfl)) rfl rfl (by decide) fun a53 hA54 => ?_; clear hA51 a43
 refine wl_nil ?_
 refine then_n ?_
 refine c_ret ?_
 refine then_ret ?_
 have hS55 : Sep NoB w w49 [(marksR []), (blk b14 3 [(Value.int .i64 0)]), (blk b9 28 [(Value.slice none 0 0)]), (blk b4 33 [vr]), (sl vr 2 R.length (pairs R)), (sl vu 3 rs.length (vtrips (runV lv rs))), (segsR false lv rs)] := hS52.keep [3, 0, 1, 2, 4, 5, 6] (by decide) _ rfl rfl; clear hS52
 refine fin_runM hA54 (.inl rfl) hS55 ?_
 intro w56 hS57; clear hS55
 refine ⟨_, (run_results3 hA54 rfl (.cell1 rfl ty_28 (hS57.bk 1 rfl) rfl) (.cell1 rfl ty_3 (hS57.bk 0 rfl) rfl) (.tmp rfl)), ?_⟩
 exact ⟨rfl, hS57.ext⟩
theorem made_rng {n : Nat} (h : n = 1 ∨ n = 2 ∨ n = 3) : (madeCells (Value.agg #[.int .i64 0, .int .i64 0]).cells (n * 2)).toList = pairs (List.replicate n (0, 0)) := by rcases h with rfl | rfl | rfl <;> kernel_rfl
theorem rates_ok (R : List (Int × Int)) (rs : List RunD) (lv : List Value) (vr vu : Value) (w : World) (hm : SlAt w vr 2 R.length (pairs R)) (hx : RunsAt w vu lv rs) (hlen : R.length ≤ 1000000) (hrl : rs.length ≤ 1000000) (he : possF R rs = 0) :
  Calls Try.prog 18 #[(Value.agg #[vr]), vu] w (Ret fun v w' => ∃ u, v = .tuple #[u, .int .i64 ((allowedF R rs).length : Int), .int .i64 0] ∧ Sep NoB w w' [row u 42 2 R.length (pairs (ratesF R rs))]) := by
 refine calls_enterM Try.func18 rfl fun a0 hA0 => ?_
 replace hA0 : Fr 49 (marks []) [(0, (Value.agg #[vr])), (1, vu)] a0 := hA0
 have hR := (check_mat (enter_mat (poss_is he).1)).1
 have hR1 := (check_mat (enter_mat (poss_is he).1)).2.1
 have hR3 := hR.1
 have hal_ := allowed_le (rs := rs) hR
 have hV := enter_runs (poss_is he).1
 have hS0 : Sep NoB w w [(marksR []), (sl vr 2 R.length (pairs R)), (sl vu 3 rs.length (vtrips (runV lv rs))), (segsR false lv rs)] := sep_marks (sep_ro ⟨rfl, hm, rfl, hx.runs, rfl, ⟨hx.len, hx.segs⟩, trivial⟩)
 refine c_seq ?_
 refine c_region ?_
 refine stw hA0 (op_box hS0 rfl (hA0.ev rfl) (cs := [vr]) rfl) rfl rfl (by decide) ?_
 rintro a1 _ w3 ⟨b4, rfl, hS5⟩ hA2; clear hA0 hS0 a0
 refine stw hA2 (op_alloc hS5 rfl ze_28 (cs := [(Value.slice none 0 0)]) rfl) rfl rfl (by decide) ?_
 rintro a6 _ w8 ⟨b9, rfl, hS10⟩ hA7; clear hA2 hS5 a1
 refine stw hA7 (op_alloc hS10 rfl ze_3 (cs := [(Value.int .i64 0)]) rfl) rfl rfl (by decide) ?_
 rintro a11 _ w13 ⟨b14, rfl, hS15⟩ hA12; clear hA7 hS10 a6
 refine st hA12 (op_assign rfl (evc _ _)) rfl rfl (by decide) fun a16 hA17 => ?_; clear hA12 a11
 refine wl_nil ?_
 refine then_n ?_
 refine c_seq ?_
 refine c_region ?_
 refine st hA17 (op_loadA rfl ty_33 (hA17.ev rfl) (hS15.bk 2 rfl) (l := [vr]) rfl rfl) rfl rfl (by decide) fun a18 hA19 => ?_; clear hA17 a16
 refine st hA19 (op_move rfl (hA19.ev rfl)) rfl rfl (by decide) fun a20 hA21 => ?_; clear hA19 a18
 refine stw hA21 (op_call rfl en_53 (ev2 (hA21.ev rfl) (hA21.ev rfl)) (poss_ok R rs lv vr vu _ (hm.step hS15.ext) (hx.step hS15.ext) (by omega) (by omega) he)) rfl rfl (by decide) ?_
 rintro a22 _ w24 ⟨bj27, bm28, rfl, hT25⟩ hA23; have hS26 := hS15.callS hT25 rfl; clear hT25 hA21 hS15 a20
 refine st hA23 (op_move rfl (hA23.ev rfl)) rfl rfl (by decide) fun a29 hA30 => ?_; clear hA23 a22
 refine st hA30 (op_extract rfl (hA30.ev rfl) rfl) rfl rfl (by decide) fun a31 hA32 => ?_; clear hA30 a29
 refine st hA32 (op_extract rfl (hA32.ev rfl) rfl) rfl rfl (by decide) fun a33 hA34 => ?_; clear hA32 a31
 refine st hA34 (op_assign rfl (hA34.ev rfl)) rfl rfl (by decide) fun a35 hA36 => ?_; clear hA34 a33
 refine st hA36 (op_assign rfl (hA36.ev rfl)) rfl rfl (by decide) fun a37 hA38 => ?_; clear hA36 a35
 refine wl_nil ?_
 refine then_n ?_
 refine c_seq ?_
 refine c_seq ?_
 have hA39 := hA38.as [(6, (Value.int .i64 0)), (7, (bptr bj27 0)), (5, (bptr b14 0)), (4, (bptr b9 0)), (2, (bptr b4 0))] rfl; clear hA38
 refine c_region ?_
 refine st hA39 (op_move rfl (hA39.ev rfl)) rfl rfl (by decide) fun a40 hA41 => ?_; clear hA39 a37
 refine st hA41 (op_neq rfl (hA41.ev rfl) (evc _ _)) rfl rfl (by decide) fun a42 hA43 => ?_; clear hA41 a40
 refine wl_nil ?_
 refine then_n ?_
 refine c_false hA43 rfl ?_
 refine c_skip ?_
 refine then_n ?_
 refine c_seq ?_
 refine c_region ?_
 refine st hA43 (op_field rfl fd_33_0 (hA43.ev rfl)) rfl rfl (by decide) fun a44 hA45 => ?_; clear hA43 a42
 refine st hA45 (op_load1 rfl ty_28 (hA45.ev rfl) (hS26.bk 4 rfl) rfl) rfl rfl (by decide) fun a46 hA47 => ?_; clear hA45 a44
 refine st hA47 (op_lenS rfl un_28 (hA47.ev rfl) (hS26.sk 6 rfl)) rfl rfl (by decide) fun a48 hA49 => ?_; clear hA47 a46
 refine stw hA49 (op_makeFull hS26 rfl un_28 el_42 (hA49.ev rfl) (hA49.ev rfl) (n := R.length) (cs := (pairs (List.replicate R.length (0, 0)))) (made_rng (by omega)) (by omega) (by omega) (by simp only [maxLen]; omega)) rfl rfl (by decide) ?_
 intro a50 v53 w52 hS54 hA51; clear hA49 hS26 a48
 refine sts hA51 (op_store hS54 rfl ty_28 (hA51.ev rfl) (hA51.ev rfl) (i := 4) rfl (vs := [v53]) (isSl_cells (SlAt.isSl (SlAt.of_row (hS54.ok_row 0 rfl)))) rfl (all_c (SlAt.one (SlAt.of_row (hS54.ok_row 0 rfl))) all_n) (Nat.le_of_ble_eq_true rfl)) rfl rfl ?_
 intro _ w55 hS56 hA57; clear hA51
 have hS58 : Sep NoB w w55 [(row v53 42 2 R.length (pairs (List.replicate R.length (0, 0)))), (blk bj27 119 [vr, vu, (Value.map (some bm28))]), (memo bm28 (KA rs)), (blk b14 3 [(Value.int .i64 0)]), (blk b9 28 [v53]), (blk b4 33 [vr]), (marksR []), (sl vr 2 R.length (pairs R)), (sl vu 3 rs.length (vtrips (runV lv rs))), (segsR false lv rs)] := hS56; clear hS56 hS54
 refine wl_nil ?_
 refine then_n ?_
 refine c_seq ?_
 refine c_seq ?_
 have hA59 := hA57.as [(7, (bptr bj27 0)), (5, (bptr b14 0)), (4, (bptr b9 0))] rfl; clear hA57
 refine c_region ?_
 refine st hA59 (op_move rfl (hA59.ev rfl)) rfl rfl (by decide) fun a60 hA61 => ?_; clear hA59 a50
 refine stw hA61 (op_call rfl en_54 (ev1 (hA61.ev rfl)) (every_ok _ _)) rfl rfl (by decide) ?_
 rintro a62 _ w64 ⟨bx67, rfl, hT65⟩ hA63; have hS66 := hS58.callS hT65 rfl; clear hT65 hA61 hS58 a60
 refine wl_nil ?_
 refine then_n ?_
 refine c_block ?_
 have hA68 := hA63.as [(24, (Value.func (.func 78) #[] #[(bptr bx67 0)])), (5, (bptr b14 0)), (4, (bptr b9 0))] rfl; clear hA63
 have hS69 : Sep NoB w w64 [(marksR []), (memo bm28 (KA rs)), (blk bx67 97 [(bptr bj27 0)]), (row v53 42 2 R.length (pairs (List.replicate R.length (0, 0)))), (blk bj27 119 [vr, vu, (Value.map (some bm28))]), (blk b14 3 [(Value.int .i64 0)]), (blk b9 28 [v53]), (blk b4 33 [vr]), (sl vr 2 R.length (pairs R)), (sl vu 3 rs.length (vtrips (runV lv rs))), (segsR false lv rs)] := hS66.keep [7, 3, 0, 1, 2, 4, 5, 6, 8, 9, 10] (by decide) _ rfl rfl; clear hS66
 refine c_rangeG hA68 (memo bm28 (KA rs)) rfl hS69 (hA68.ev rfl) en_78 ((allowedF R rs).length) (fun k => #[.agg (ints ((allowedF R rs).getD k [])).toArray]) (fun _ => rfl) [rob bx67 97 [bptr bj27 0], rob bj27 119 [vr, vu, .map (some bm28)], sl vr 2 R.length (pairs R), sl vu 3 rs.length (vtrips (runV lv rs)), segsR false lv rs] (fun r hr => by simp only [List.mem_cons, List.not_mem_nil, or_false] at hr; rcases hr with rfl | rfl | rfl | rfl | rfl <;> rfl) (every_it bx67 bj27 bm28 R rs lv vr vu R.length hR.1 hR hV hx.len) (fun q L_ => L_ = [(blk bx67 97 [(bptr bj27 0)]), (row v53 42 2 R.length (pairs (outF (allowedF R rs) R.length q))), (blk bj27 119 [vr, vu, (Value.map (some bm28))]), (blk b14 3 [(Value.int .i64 (q : Int))]), (blk b9 28 [v53]), (blk b4 33 [vr]), (sl vr 2 R.length (pairs R)), (sl vu 3 rs.length (vtrips (runV lv rs))), (segsR false lv rs)]) (fun _ => False) none rfl (fun q L_ hI_ G_ W_ r1_ r2_ hW_ => by obtain ⟨rfl⟩ := hI_; exact (Sep.keep ((hW_.to_ro (i := 3) rfl).to_ro (i := 5) rfl) [2, 3, 5, 9, 10, 11] (by decide) _ rfl rfl)) (fun L_ hI_ => hI_.elim) ?_ ?_ (fun _ hc_ => by cases hc_)
 ·skip
  intro q hq L_ hL_ G78 hG79 l75 D76 rc77 a70 w71 ha74 hS72; obtain ⟨rfl⟩ := hL_
  have hA73 : Fr 49 [] [(25, (Value.agg (ints ((allowedF R rs).getD q [])).toArray)), (24, (Value.func (.func 78) #[] #[(bptr bx67 0)])), (5, (bptr b14 0)), (4, (bptr b9 0))] a70 := by rw [ha74]; exact Fr.round1 hA68 (by decide)
  clear ha74 hS69
  have hl3 := (allowed_rates hR hq).1.1
  refine c_region ?_
  refine stw hA73 (op_alloc hS72 rfl ze_104 (cs := [(Value.int .i64 0), (Value.int .i64 0), (Value.int .i64 0)]) rfl) rfl rfl (by decide) ?_
  rintro a80 _ w82 ⟨b83, rfl, hS84⟩ hA81; clear hA73 hS72 a70
  refine sts hA81 (op_store hS84 rfl ty_104 (hA81.ev rfl) (hA81.ev rfl) (i := 0) rfl (vs := (ints ((allowedF R rs).getD q []))) rfl (allowed_len3 hR hq).symm (ints_one _) (by decide)) rfl rfl ?_
  intro _ w85 hS86 hA88; have hS87 := hS86.blk_say (i := 0) rfl (cs' := (ints ((allowedF R rs).getD q []))) (setFrom_all _ _ (Eq.symm (allowed_len3 hR hq).symm)); clear hS86 hA81 hS84
  refine wl_nil ?_
  have hS89 : Sep NoB w w85 [(obR l75 (.loop (rc77 .ready none))), (marksR (D76 :: [])), G78, (blk b83 104 (ints ((allowedF R rs).getD q []))), (blk bx67 97 [(bptr bj27 0)]), (row v53 42 2 R.length (pairs (outF (allowedF R rs) R.length q))), (blk bj27 119 [vr, vu, (Value.map (some bm28))]), (blk b14 3 [(Value.int .i64 (q : Int))]), (blk b9 28 [v53]), (blk b4 33 [vr]), (sl vr 2 R.length (pairs R)), (sl vu 3 rs.length (vtrips (runV lv rs))), (segsR false lv rs)] := hS87.keep [1, 2, 3, 0, 4, 5, 6, 7, 8, 9, 10, 11, 12] (by decide) _ rfl rfl; clear hS87
  refine ⟨rfl, _, hS89, ?_⟩; intro w90 hS91; clear hS89
  refine c_block ?_
  refine c_seq ?_
  refine c_seq ?_
  refine c_region ?_
  refine st hA88 (op_load1 rfl ty_28 (hA88.ev rfl) (hS91.bk 8 rfl) rfl) rfl rfl (by decide) fun a92 hA93 => ?_; clear hA88 a80
  refine st hA93 (op_lenS rfl un_28 (hA93.ev rfl) (SlAt.of_row (hS91.ok_row 5 rfl))) rfl rfl (by decide) fun a94 hA95 => ?_; clear hA93 a92
  refine st hA95 (op_move rfl (evc _ _)) rfl rfl (by decide) fun a96 hA97 => ?_; clear hA95 a94
  refine wl_nil ?_
  refine then_n ?_
  refine c_block ?_
  have hA98 := hA97.as [(28, (Value.int .i64 0)), (27, (Value.int .i64 (R.length : Int))), (8, (bptr b83 0)), (5, (bptr b14 0)), (4, (bptr b9 0))] rfl; clear hA97
  refine c_loop (G := Nat) (fun (k : Nat) a_ w_ => Fr 49 [] [(28, (Value.int .i64 (k : Int))), (27, (Value.int .i64 (R.length : Int))), (8, (bptr b83 0)), (5, (bptr b14 0)), (4, (bptr b9 0))] a_ ∧ Sep NoB w w_ [(obR l75 (.loop (rc77 .busy none))), (marksR (D76 :: [])), G78, (blk b83 104 (ints ((allowedF R rs).getD q []))), (blk bx67 97 [(bptr bj27 0)]), (row v53 42 2 R.length (pairs (midW (outF (allowedF R rs) R.length q) ((allowedF R rs).getD q []) (decide ((q : Int) = 0)) k))), (blk bj27 119 [vr, vu, (Value.map (some bm28))]), (blk b14 3 [(Value.int .i64 (q : Int))]), (blk b9 28 [v53]), (blk b4 33 [vr]), (sl vr 2 R.length (pairs R)), (sl vu 3 rs.length (vtrips (runV lv rs))), (segsR false lv rs)] ∧ (k ≤ R.length)) (fun k => R.length - k) 0 ⟨hA98.as _ rfl, (hS91.row_say (i := 5) rfl rfl (by rw [midW_zero])), by omega⟩ ?_
  clear hA98 hS91 a96
  rintro k a99 w101 ⟨hA100, hS102, hk⟩
  refine c_seq ?_
  refine c_region ?_
  refine st hA100 (op_lss rfl (hA100.ev rfl) (hA100.ev rfl)) rfl rfl (by decide) fun a103 hA104 => ?_; clear hA100 a99
  refine wl_nil ?_
  refine then_n ?_
  refine c_seq ?_
  by_cases hb105 : (k : Int) < (R.length : Int)
  ·skip
   rw [decide_eq_true hb105] at hA104
   refine c_true hA104 rfl ?_
   refine c_skip ?_
   refine then_n ?_
   refine c_seq ?_
   refine c_block ?_
   refine c_seq ?_
   refine c_region ?_
   refine st hA104 (op_move rfl (hA104.ev rfl)) rfl rfl (by decide) fun a106 hA107 => ?_; clear hA104 a103
   refine st hA107 (op_assign rfl (hA107.ev rfl)) rfl rfl (by decide) fun a108 hA109 => ?_; clear hA107 a106
   refine wl_nil ?_
   refine then_n ?_
   have hA110 := hA109.as [(9, (Value.int .i64 (k : Int))), (28, (Value.int .i64 (k : Int))), (27, (Value.int .i64 (R.length : Int))), (8, (bptr b83 0)), (5, (bptr b14 0)), (4, (bptr b9 0))] rfl; clear hA109
   refine c_drawn mixed hA110 hS102 12 [[], [], [], [], [2, 3], [4], [], [6], [7], [], [9], [5, 8, 10]] [(Yd.val v53), (Yd.val (Value.int .i64 (k : Int))), (Yd.val v53), (Yd.val (Value.int .i64 (k : Int))), (Yd.val (eptr v53 (k * 2))), (Yd.val (Value.agg #[(Value.int .i64 (((midW (outF (allowedF R rs) R.length q) ((allowedF R rs).getD q []) (decide ((q : Int) = 0)) k).getD k (0, 0)).1)), (Value.int .i64 (((midW (outF (allowedF R rs) R.length q) ((allowedF R rs).getD q []) (decide ((q : Int) = 0)) k).getD k (0, 0)).2))])), (Yd.val (Value.int .i64 (k : Int))), (Yd.val (bptr b83 (0 + k * 1))), (Yd.val (Value.int .i64 (((allowedF R rs).getD q []).getD k 0))), (Yd.val (Value.int .i64 (q : Int))), (Yd.val (Value.bool (decide ((q : Int) = 0)))), (Yd.val (Value.agg #[(Value.int .i64 (if (decide ((q : Int) = 0)) = true then (((allowedF R rs).getD q []).getD k 0) else min (((midW (outF (allowedF R rs) R.length q) ((allowedF R rs).getD q []) (decide ((q : Int) = 0)) k).getD k (0, 0)).1) (((allowedF R rs).getD q []).getD k 0))), (Value.int .i64 (if (decide ((q : Int) = 0)) = true then (((allowedF R rs).getD q []).getD k 0) else max (((midW (outF (allowedF R rs) R.length q) ((allowedF R rs).getD q []) (decide ((q : Int) = 0)) k).getD k (0, 0)).2) (((allowedF R rs).getD q []).getD k 0)))]))] (by decide +kernel) rfl rfl ?_ ?_
   ·skip
    refine ⟨fun a w hA hS hd => by exact opG_of rfl (dv (op_load1 rfl ty_28 (hA.ev rfl) (hS.bk 8 rfl) rfl) hS rfl), ?_⟩
    refine ⟨fun a w hA hS hd => by exact opG_of rfl (dv (op_move rfl (hA.ev rfl)) hS rfl), ?_⟩
    refine ⟨fun a w hA hS hd => by exact opG_of rfl (dv (op_load1 rfl ty_28 (hA.ev rfl) (hS.bk 8 rfl) rfl) hS rfl), ?_⟩
    refine ⟨fun a w hA hS hd => by exact opG_of rfl (dv (op_move rfl (hA.ev rfl)) hS rfl), ?_⟩
    refine ⟨fun a w hA hS hd => by have e2 := has_ev (hd 2 (by decide)) rfl (fun _ h => h); have e3 := has_ev (hd 3 (by decide)) rfl (fun _ h => h); exact opG_of rfl (dv (op_indexS rfl un_28 ty_42 (tmp_ev e2) (i := k) (tmp_ev e3) (SlAt.of_row (hS.ok_row 5 rfl)) (by decide) (by first | omega | (simp only [midW_len, outF_len]; omega))) hS rfl), ?_⟩
    refine ⟨fun a w hA hS hd => by have e4 := has_ev (hd 4 (by decide)) rfl (fun _ h => h); exact opG_of rfl (dv (op_loadAE rfl ty_42 (tmp_ev e4) (SlAt.of_row (hS.ok_row 5 rfl)) (pairs_all (by first | omega | (simp only [midW_len, outF_len]; omega))) rfl (by decide)) hS rfl), ?_⟩
    refine ⟨fun a w hA hS hd => by exact opG_of rfl (dv (op_move rfl (hA.ev rfl)) hS rfl), ?_⟩
    refine ⟨fun a w hA hS hd => by have e6 := has_ev (hd 6 (by decide)) rfl (fun _ h => h); exact opG_of rfl (dv (op_indexA rfl un_104 ty_3 (hA.ev rfl) (i := k) (tmp_ev e6) (by first | omega | (simp only [midW_len, outF_len]; omega))) hS rfl), ?_⟩
    refine ⟨fun a w hA hS hd => by have e7 := has_ev (hd 7 (by decide)) rfl (fun _ h => h); exact opG_of rfl (dv (op_load1 rfl ty_3 (tmp_ev e7) (hS.bk 3 rfl) (ints_at' (by first | (simp only [List.length_set]; omega) | omega))) hS rfl), ?_⟩
    refine ⟨fun a w hA hS hd => by exact opG_of rfl (dv (op_load1 rfl ty_3 (hA.ev rfl) (hS.bk 7 rfl) rfl) hS rfl), ?_⟩
    refine ⟨fun a w hA hS hd => by have e9 := has_ev (hd 9 (by decide)) rfl (fun _ h => h); exact opG_of rfl (dv (op_eql rfl (tmp_ev e9) (evc _ _)) hS rfl), ?_⟩
    refine ⟨fun a w hA hS hd => by have e5 := has_ev (hd 5 (by decide)) rfl (fun _ h => h); have e8 := has_ev (hd 8 (by decide)) rfl (fun _ h => h); have e10 := has_ev (hd 10 (by decide)) rfl (fun _ h => h); exact opG_of rfl (dx (op_call rfl en_55 (ev3 (tmp_ev e5) (tmp_ev e8) (tmp_ev e10)) (with_ok _ _ _ (decide ((q : Int) = 0)) _)) hS (fun _ => rfl)), ?_⟩
    trivial
   intro a112 w113 hA114 hS115 hH116; clear hA110 hS102
   have hA117 := hA114.add (has_ev (hH116 0 (by decide)) rfl (fun _ h => h)); clear hA114
   have hA118 := hA117.add (has_ev (hH116 1 (by decide)) rfl (fun _ h => h)); clear hA117
   have hA119 := hA118.add (has_ev (hH116 11 (by decide)) rfl (fun _ h => h)); clear hA118
   clear hH116
   refine st hA119 (op_indexS rfl un_28 ty_42 (hA119.ev rfl) (i := k) (hA119.ev rfl) (SlAt.of_row (hS115.ok_row 5 rfl)) (by decide) (by first | omega | (simp only [midW_len, outF_len]; omega))) rfl rfl (by decide) fun a120 hA121 => ?_; clear hA119 a112
   refine sts hA121 (op_storeE hS115 rfl ty_42 (hA121.ev rfl) (hA121.ev rfl) (i := 5) rfl (vs := [(Value.int .i64 (if (decide ((q : Int) = 0)) = true then (((allowedF R rs).getD q []).getD k 0) else min (((midW (outF (allowedF R rs) R.length q) ((allowedF R rs).getD q []) (decide ((q : Int) = 0)) k).getD k (0, 0)).1) (((allowedF R rs).getD q []).getD k 0))), (Value.int .i64 (if (decide ((q : Int) = 0)) = true then (((allowedF R rs).getD q []).getD k 0) else max (((midW (outF (allowedF R rs) R.length q) ((allowedF R rs).getD q []) (decide ((q : Int) = 0)) k).getD k (0, 0)).2) (((allowedF R rs).getD q []).getD k 0)))]) rfl rfl rfl (by simp only [pairs_length, midW_len, outF_len]; omega) (by decide)) rfl rfl ?_
   intro _ w122 hS123 hA125; have hS124 := hS123.row_say (i := 5) rfl (n' := R.length) (xs' := (pairs ((midW (outF (allowedF R rs) R.length q) ((allowedF R rs).getD q []) (decide ((q : Int) = 0)) k).set k (if (decide ((q : Int) = 0)) = true then (((allowedF R rs).getD q []).getD k 0) else min (((midW (outF (allowedF R rs) R.length q) ((allowedF R rs).getD q []) (decide ((q : Int) = 0)) k).getD k (0, 0)).1) (((allowedF R rs).getD q []).getD k 0), if (decide ((q : Int) = 0)) = true then (((allowedF R rs).getD q []).getD k 0) else max (((midW (outF (allowedF R rs) R.length q) ((allowedF R rs).getD q []) (decide ((q : Int) = 0)) k).getD k (0, 0)).2) (((allowedF R rs).getD q []).getD k 0))))) rfl (pairs_set _ _ (_, _)); clear hS123 hA121 hS115
   refine wl_nil ?_
   refine blk_n ?_
   refine then_n ?_
   refine c_region ?_
   refine st hA125 (op_add rfl (hA125.ev rfl) (evc _ _) (by omega) (by omega)) rfl rfl (by decide) fun a126 hA127 => ?_; clear hA125 a120
   refine st hA127 (op_move rfl (hA127.ev rfl)) rfl rfl (by decide) fun a128 hA129 => ?_; clear hA127 a126
   refine wl_nil ?_
   exact then_n ⟨k + 1, ⟨hA129.as _ rfl, (hS124.row_say (i := 5) rfl rfl (congrArg pairs (midW_set (old := (outF (allowedF R rs) R.length q)) (l := (allowedF R rs).getD q []) (first := decide ((q : Int) = 0)) (b := k) (by rw [outF_len]; omega)))), by omega⟩, by omega⟩
  ·skip
   rw [decide_eq_false hb105] at hA104
   refine c_false hA104 rfl ?_
   refine c_exit ?_
   refine then_exit ?_
   refine then_exit ?_
   refine blk_hit ?_
   refine then_n ?_
   refine c_region ?_
   refine st hA104 (op_load1 rfl ty_3 (hA104.ev rfl) (hS102.bk 7 rfl) rfl) rfl rfl (by decide) fun a130 hA131 => ?_; clear hA104 a103
   refine st hA131 (op_add rfl (hA131.ev rfl) (evc _ _) (by omega) (by omega)) rfl rfl (by decide) fun a132 hA133 => ?_; clear hA131 a130
   refine sts hA133 (op_store hS102 rfl ty_3 (hA133.ev rfl) (hA133.ev rfl) (i := 7) rfl (vs := [(Value.int .i64 ((q : Int) + 1))]) rfl rfl rfl (Nat.le_of_ble_eq_true rfl)) rfl rfl ?_
   intro _ w134 hS135 hA136; clear hA133
   have hS137 : Sep NoB w w134 [(obR l75 (.loop (rc77 .busy none))), (marksR (D76 :: [])), G78, (blk b83 104 (ints ((allowedF R rs).getD q []))), (blk bx67 97 [(bptr bj27 0)]), (row v53 42 2 R.length (pairs (midW (outF (allowedF R rs) R.length q) ((allowedF R rs).getD q []) (decide ((q : Int) = 0)) k))), (blk bj27 119 [vr, vu, (Value.map (some bm28))]), (blk b14 3 [(Value.int .i64 ((q : Int) + 1))]), (blk b9 28 [v53]), (blk b4 33 [vr]), (sl vr 2 R.length (pairs R)), (sl vu 3 rs.length (vtrips (runV lv rs))), (segsR false lv rs)] := hS135; clear hS135 hS102
   refine wl_nil ?_
   refine blk_n ?_
   have hS138 : Sep NoB w w134 [(obR l75 (.loop (rc77 .busy none))), (marksR (D76 :: [])), G78, (blk bx67 97 [(bptr bj27 0)]), (row v53 42 2 R.length (pairs (midW (outF (allowedF R rs) R.length q) ((allowedF R rs).getD q []) (decide ((q : Int) = 0)) k))), (blk bj27 119 [vr, vu, (Value.map (some bm28))]), (blk b14 3 [(Value.int .i64 ((q : Int) + 1))]), (blk b9 28 [v53]), (blk b4 33 [vr]), (sl vr 2 R.length (pairs R)), (sl vu 3 rs.length (vtrips (runV lv rs))), (segsR false lv rs)] := hS137.keep [0, 1, 2, 4, 5, 6, 7, 8, 9, 10, 11, 12] (by decide) _ rfl rfl; clear hS137
   exact re_n ⟨_, rfl, rfl⟩ (hS138.row_say (i := 4) rfl rfl (by rw [outF_succ _ _ _ (by omega)]))
 intro L_ hL_ D143 a139 w140 hA142 hS141; obtain ⟨rfl⟩ := hL_; clear hA68 hS69
 refine blk_n ?_
 refine then_n ?_
 refine c_seq ?_
 have hA144 := hA142.as [(5, (bptr b14 0)), (4, (bptr b9 0))] rfl; clear hA142
 refine c_drawF mixed hA144 hS141 2 1 rfl rfl [[], []] [(fun (vs145 : Nat → Value) (v_ : Value) (rs_ : List Res) => v_ = v53 ∧ rs_ = []), (fun (vs145 : Nat → Value) (v_ : Value) (rs_ : List Res) => v_ = (Value.int .i64 ((allowedF R rs).length : Int)) ∧ rs_ = [])] (by decide +kernel) (by decide +kernel) (by decide +kernel) rfl rfl ⟨(fun _ _ _ _ _ h_ => h_), (fun _ _ _ _ _ h_ => h_), trivial⟩ ?_ ?_ ?_
 ·skip
  refine ⟨fun a w vs145 hA hS hd => ?_, ?_⟩
  ·skip
   exact opG_of rfl (vv (op_load1 rfl ty_28 (hA.ev rfl) (hS.bk 6 rfl) rfl) (And.intro rfl rfl))
  refine ⟨fun a w vs145 hA hS hd => ?_, ?_⟩
  ·skip
   exact opG_of rfl (vv (op_load1 rfl ty_3 (hA.ev rfl) (hS.bk 5 rfl) rfl) (And.intro rfl rfl))
  trivial
 ·skip
  intro a146 w147 vs145 rsf151 hA148 hH150 hS149; clear hA144 hS141
  obtain ⟨hs_0, hy_0⟩ := hH150 0 (by decide)
  obtain ⟨hv_0, hr_0⟩ := hy_0
  obtain ⟨hs_1, hy_1⟩ := hH150 1 (by decide)
  obtain ⟨hv_1, hr_1⟩ := hy_1
  have hS152 : Sep NoB w w147 [(marksR (D143 :: [])), (memo bm28 (KA rs)), (blk bx67 97 [(bptr bj27 0)]), (row v53 42 2 R.length (pairs (outF (allowedF R rs) R.length (allowedF R rs).length))), (blk bj27 119 [vr, vu, (Value.map (some bm28))]), (blk b14 3 [(Value.int .i64 ((allowedF R rs).length : Int))]), (blk b9 28 [v53]), (blk b4 33 [vr]), (sl vr 2 R.length (pairs R)), (sl vu 3 rs.length (vtrips (runV lv rs))), (segsR false lv rs)] := by rw [show catR rsf151 0 2 = ([] : List Res) by (try simp only [catR, hr_0, hr_1]); (try rfl)] at hS149; exact hS149
  rw [hv_0] at hs_0
  have hA153 : Fr 49 (marks (D143 :: [])) [(47, v53), (5, (bptr b14 0)), (4, (bptr b9 0))] a146 := hA148.add (slot_ev hs_0 rfl); clear hA148
  rw [hv_1] at hs_1
  have hA154 : Fr 49 (marks (D143 :: [])) [(48, (Value.int .i64 ((allowedF R rs).length : Int))), (47, v53), (5, (bptr b14 0)), (4, (bptr b9 0))] a146 := hA153.add (slot_ev hs_1 rfl); clear hA153
  clear hH150 hS149 hs_0 hs_1
  clear hr_0
  clear hv_0
  clear hr_1
  clear hv_1
  refine sts hA154 (op_store hS152 rfl ty_28 (hA154.ev rfl) (hA154.ev rfl) (i := 6) rfl (vs := [v53]) (isSl_cells (SlAt.isSl (SlAt.of_row (hS152.ok_row 3 rfl)))) rfl (all_c (SlAt.one (SlAt.of_row (hS152.ok_row 3 rfl))) all_n) (Nat.le_of_ble_eq_true rfl)) rfl rfl ?_
  intro _ w155 hS156 hA157; clear hA154
  have hS158 : Sep NoB w w155 [(marksR (D143 :: [])), (memo bm28 (KA rs)), (blk bx67 97 [(bptr bj27 0)]), (row v53 42 2 R.length (pairs (outF (allowedF R rs) R.length (allowedF R rs).length))), (blk bj27 119 [vr, vu, (Value.map (some bm28))]), (blk b14 3 [(Value.int .i64 ((allowedF R rs).length : Int))]), (blk b9 28 [v53]), (blk b4 33 [vr]), (sl vr 2 R.length (pairs R)), (sl vu 3 rs.length (vtrips (runV lv rs))), (segsR false lv rs)] := hS156; clear hS156 hS152
  refine sts hA157 (op_store hS158 rfl ty_3 (hA157.ev rfl) (hA157.ev rfl) (i := 5) rfl (vs := [(Value.int .i64 ((allowedF R rs).length : Int))]) rfl rfl rfl (Nat.le_of_ble_eq_true rfl)) rfl rfl ?_
  intro _ w159 hS160 hA161; clear hA157
  have hS162 : Sep NoB w w159 [(marksR (D143 :: [])), (memo bm28 (KA rs)), (blk bx67 97 [(bptr bj27 0)]), (row v53 42 2 R.length (pairs (outF (allowedF R rs) R.length (allowedF R rs).length))), (blk bj27 119 [vr, vu, (Value.map (some bm28))]), (blk b14 3 [(Value.int .i64 ((allowedF R rs).length : Int))]), (blk b9 28 [v53]), (blk b4 33 [vr]), (sl vr 2 R.length (pairs R)), (sl vu 3 rs.length (vtrips (runV lv rs))), (segsR false lv rs)] := hS160; clear hS160 hS158
  refine st hA161 (op_assign rfl (evc _ _)) rfl rfl (by decide) fun a163 hA164 => ?_; clear hA161 a146
  refine wl_nil ?_
  refine then_n ?_
  refine c_ret ?_
  refine fin_runM hA164 (.inl rfl) hS162 ?_
  intro w165 hS166; clear hS162
  refine ⟨_, (run_results3 hA164 rfl (.cell1 rfl ty_28 (hS166.bk 5 rfl) rfl) (.cell1 rfl ty_3 (hS166.bk 4 rfl) rfl) (.tmp rfl)), ?_⟩
  exact ⟨_, rfl, hS166.keep [2] (by decide) _ rfl rfl⟩
 ·skip
  intro a167 w168 vs145 rsf172 hA169 hH171 hrq hS170; clear hA144 hS141
  obtain ⟨hs_0, hy_0⟩ := hH171 0 (by decide) (by decide)
  obtain ⟨hv_0, hr_0⟩ := hy_0
  have hS173 : Sep NoB w w168 [(marksR (D143 :: [])), (memo bm28 (KA rs)), (blk bx67 97 [(bptr bj27 0)]), (row v53 42 2 R.length (pairs (outF (allowedF R rs) R.length (allowedF R rs).length))), (blk bj27 119 [vr, vu, (Value.map (some bm28))]), (blk b14 3 [(Value.int .i64 ((allowedF R rs).length : Int))]), (blk b9 28 [v53]), (blk b4 33 [vr]), (sl vr 2 R.length (pairs R)), (sl vu 3 rs.length (vtrips (runV lv rs))), (segsR false lv rs)] := by rw [show catR rsf172 0 2 = ([] : List Res) by (try simp only [catR, hr_0, hrq]); (try rfl)] at hS170; exact hS170
  rw [hv_0] at hs_0
  have hA174 : Fr 49 (marks (D143 :: [])) [(47, v53), (5, (bptr b14 0)), (4, (bptr b9 0))] a167 := hA169.add (slot_ev hs_0 rfl); clear hA169
  clear hH171 hS170 hs_0 hrq
  clear hr_0
  clear hv_0
  refine sts hA174 (op_store hS173 rfl ty_28 (hA174.ev rfl) (hA174.ev rfl) (i := 6) rfl (vs := [v53]) (isSl_cells (SlAt.isSl (SlAt.of_row (hS173.ok_row 3 rfl)))) rfl (all_c (SlAt.one (SlAt.of_row (hS173.ok_row 3 rfl))) all_n) (Nat.le_of_ble_eq_true rfl)) rfl rfl ?_
  intro _ w175 hS176 hA177; clear hA174
  have hS178 : Sep NoB w w175 [(marksR (D143 :: [])), (memo bm28 (KA rs)), (blk bx67 97 [(bptr bj27 0)]), (row v53 42 2 R.length (pairs (outF (allowedF R rs) R.length (allowedF R rs).length))), (blk bj27 119 [vr, vu, (Value.map (some bm28))]), (blk b14 3 [(Value.int .i64 ((allowedF R rs).length : Int))]), (blk b9 28 [v53]), (blk b4 33 [vr]), (sl vr 2 R.length (pairs R)), (sl vu 3 rs.length (vtrips (runV lv rs))), (segsR false lv rs)] := hS176; clear hS176 hS173
  refine st hA177 (op_load1 rfl ty_3 (hA177.ev rfl) (hS178.bk 5 rfl) rfl) rfl rfl (by decide) fun a179 hA180 => ?_; clear hA177 a167
  refine sts hA180 (op_store hS178 rfl ty_3 (hA180.ev rfl) (hA180.ev rfl) (i := 5) rfl (vs := [(Value.int .i64 ((allowedF R rs).length : Int))]) rfl rfl rfl (Nat.le_of_ble_eq_true rfl)) rfl rfl ?_
  intro _ w181 hS182 hA183; clear hA180
  have hS184 : Sep NoB w w181 [(marksR (D143 :: [])), (memo bm28 (KA rs)), (blk bx67 97 [(bptr bj27 0)]), (row v53 42 2 R.length (pairs (outF (allowedF R rs) R.length (allowedF R rs).length))), (blk bj27 119 [vr, vu, (Value.map (some bm28))]), (blk b14 3 [(Value.int .i64 ((allowedF R rs).length : Int))]), (blk b9 28 [v53]), (blk b4 33 [vr]), (sl vr 2 R.length (pairs R)), (sl vu 3 rs.length (vtrips (runV lv rs))), (segsR false lv rs)] := hS182; clear hS182 hS178
  refine st hA183 (op_assign rfl (evc _ _)) rfl rfl (by decide) fun a185 hA186 => ?_; clear hA183 a179
  refine wl_nil ?_
  refine then_n ?_
  refine c_ret ?_
  refine fin_runM hA186 (.inl rfl) hS184 ?_
  intro w187 hS188; clear hS184
  refine ⟨_, (run_results3 hA186 rfl (.cell1 rfl ty_28 (hS188.bk 5 rfl) rfl) (.cell1 rfl ty_3 (hS188.bk 4 rfl) rfl) (.tmp rfl)), ?_⟩
  exact ⟨_, rfl, hS188.keep [2] (by decide) _ rfl rfl⟩
end Go.Proofs.Ytkkglkdnnfegkaa

namespace Go.Proofs.Ytkkglkdnnfegkaa
open Go.RowKit Go.Eng
def allSegB (n : Nat) (plan : List Seg) : Bool := (List.range plan.length).all fun i => segB n (plan.getD i (0, 0, 0))
def planF (R : List (Int × Int)) (rs : List RunD) (plan : List Seg) : Int :=
  if possF R rs ≠ 0 then possF R rs else if plan.length ≤ 8 ∧ allSegB R.length plan = true then 0 else 2
theorem plan_p {R : List (Int × Int)} {rs : List RunD} {plan : List Seg} (h : possF R rs ≠ 0) : planF R rs plan = possF R rs := if_pos h
theorem plan_0 {R : List (Int × Int)} {rs : List RunD} {plan : List Seg} (h : possF R rs = 0) (h1 : plan.length ≤ 8) (h2 : allSegB R.length plan = true) : planF R rs plan = 0 := by
  unfold planF; rw [if_neg (fun hh => hh h), if_pos ⟨h1, h2⟩]
theorem plan_2 {R : List (Int × Int)} {rs : List RunD} {plan : List Seg} (h : possF R rs = 0) (h1 : ¬ (plan.length ≤ 8 ∧ allSegB R.length plan = true)) : planF R rs plan = 2 := by
  unfold planF; rw [if_neg (fun hh => hh h), if_neg h1]
theorem plan_2a {R : List (Int × Int)} {rs : List RunD} {plan : List Seg} (h : possF R rs = 0) (h1 : ¬ plan.length ≤ 8) : planF R rs plan = 2 := plan_2 h (fun hh => h1 hh.1)
theorem plan_2b {R : List (Int × Int)} {rs : List RunD} {plan : List Seg} (h : possF R rs = 0) (h1 : allSegB R.length plan = false) : planF R rs plan = 2 := plan_2 h (fun hh => by rw [h1] at hh; exact absurd hh.2 (by decide))
theorem plan_is {R : List (Int × Int)} {rs : List RunD} {plan : List Seg} (h : planF R rs plan = 0) : possF R rs = 0 ∧ plan.length ≤ 8 ∧ ∀ i, i < plan.length → SegV R.length (plan.getD i (0, 0, 0)) := by
  unfold planF at h
  by_cases hp : possF R rs = 0
  · rw [if_neg (fun hh => hh hp)] at h
    by_cases h1 : plan.length ≤ 8 ∧ allSegB R.length plan = true
    · exact ⟨hp, h1.1, fun i hi => segV_of (List.all_eq_true.1 h1.2 i (List.mem_range.2 hi))⟩
    · rw [if_neg h1] at h; exact absurd h (by decide)
  · rw [if_pos hp] at h; exact absurd h hp
def leastF (plan : List Seg) (A : List (List Int)) : Nat → List Int
  | 0 => [0, 0, 0]
  | k + 1 => if k = 0 ∨ stLo plan (A.getD k []) < stLo plan (leastF plan A k) then A.getD k [] else leastF plan A k
def mostF (plan : List Seg) (A : List (List Int)) : Nat → List Int
  | 0 => [0, 0, 0]
  | k + 1 => if k = 0 ∨ stHi plan (mostF plan A k) < stHi plan (A.getD k []) then A.getD k [] else mostF plan A k
section
variable {plan : List Seg} {A : List (List Int)} {q : Nat}
theorem least_a (h : decide (q = 0) = true) : leastF plan A (q + 1) = A.getD q [] := if_pos (.inl (of_decide_eq_true h))
theorem least_b (h : stLo plan (A.getD q []) < stLo plan (leastF plan A q)) : leastF plan A (q + 1) = A.getD q [] := if_pos (.inr h)
theorem least_c (h : decide (q = 0) = false) (h2 : ¬ stLo plan (A.getD q []) < stLo plan (leastF plan A q)) : leastF plan A (q + 1) = leastF plan A q := if_neg (fun hh => hh.elim (of_decide_eq_false h) h2)
theorem most_a (h : decide (q = 0) = true) : mostF plan A (q + 1) = A.getD q [] := if_pos (.inl (of_decide_eq_true h))
theorem most_b (h : stHi plan (mostF plan A q) < stHi plan (A.getD q [])) : mostF plan A (q + 1) = A.getD q [] := if_pos (.inr h)
theorem most_c (h : decide (q = 0) = false) (h2 : ¬ stHi plan (mostF plan A q) < stHi plan (A.getD q [])) : mostF plan A (q + 1) = mostF plan A q := if_neg (fun hh => hh.elim (of_decide_eq_false h) h2)
theorem least_rates (hA : ∀ k, k < A.length → RatesV (A.getD k [])) : ∀ q, q ≤ A.length → RatesV (leastF plan A q)
  | 0, _ => zero_rates
  | q + 1, h => by
    unfold leastF; split
    · exact hA q (by omega)
    · exact least_rates hA q (by omega)
theorem most_rates (hA : ∀ k, k < A.length → RatesV (A.getD k [])) : ∀ q, q ≤ A.length → RatesV (mostF plan A q)
  | 0, _ => zero_rates
  | q + 1, h => by
    unfold mostF; split
    · exact hA q (by omega)
    · exact most_rates hA q (by omega)
end
def leastR (R : List (Int × Int)) (rs : List RunD) (plan : List Seg) : List Int := leastF plan (allowedF R rs) (allowedF R rs).length
def mostR (R : List (Int × Int)) (rs : List RunD) (plan : List Seg) : List Int := mostF plan (allowedF R rs) (allowedF R rs).length
theorem leastR_rates {R : List (Int × Int)} {rs : List RunD} {plan : List Seg} (hR : MatV R) : RatesV (leastR R rs plan) := least_rates (fun _ hk => (allowed_rates hR hk).1) _ (Nat.le_refl _)
theorem mostR_rates {R : List (Int × Int)} {rs : List RunD} {plan : List Seg} (hR : MatV R) : RatesV (mostR R rs plan) := most_rates (fun _ hk => (allowed_rates hR hk).1) _ (Nat.le_refl _)
def lifeU (A : List (List Int)) (band : Nat) (s : Int) : Nat → (Int × Int) × Bool
  | 0 => ((-1, -1), false)
  | k + 1 =>
    if hoursF ((A.getD k []).getD band 0) s = -1 then ((lifeU A band s k).1, true)
    else (withF (lifeU A band s k).1 (hoursF ((A.getD k []).getD band 0) s) (decide ((lifeU A band s k).1.1 = -1) && decide ((lifeU A band s k).1.2 = -1)), (lifeU A band s k).2)
theorem lifeU_y {A : List (List Int)} {band q : Nat} {s : Int} (h : hoursF ((A.getD q []).getD band 0) s = -1) : lifeU A band s (q + 1) = ((lifeU A band s q).1, true) := if_pos h
theorem lifeU_n {A : List (List Int)} {band q : Nat} {s : Int} (h : ¬ hoursF ((A.getD q []).getD band 0) s = -1) : lifeU A band s (q + 1) = (withF (lifeU A band s q).1 (hoursF ((A.getD q []).getD band 0) s) (decide ((lifeU A band s q).1.1 = -1) && decide ((lifeU A band s q).1.2 = -1)), (lifeU A band s q).2) := if_neg h
def lifeR (A : List (List Int)) (band : Nat) (s : Int) : Int × Int := ((lifeU A band s A.length).1.1, if (lifeU A band s A.length).2 = true then -1 else (lifeU A band s A.length).1.2)
def lifeE (R : List (Int × Int)) (rs : List RunD) (band s : Int) : Int :=
  if possF R rs ≠ 0 then possF R rs else if (0 ≤ band ∧ band ≤ (R.length : Int) - 1) ∧ 0 ≤ s ∧ s ≤ 10000000000 then 0 else 2
theorem life_p {R : List (Int × Int)} {rs : List RunD} {band s : Int} (h : possF R rs ≠ 0) : lifeE R rs band s = possF R rs := if_pos h
theorem life_0 {R : List (Int × Int)} {rs : List RunD} {band s : Int} (h : possF R rs = 0) (h1 : (0 ≤ band ∧ band ≤ (R.length : Int) - 1) ∧ 0 ≤ s ∧ s ≤ 10000000000) : lifeE R rs band s = 0 := by
  unfold lifeE; rw [if_neg (fun hh => hh h), if_pos h1]
theorem life_2 {R : List (Int × Int)} {rs : List RunD} {band s : Int} (h : possF R rs = 0) (h1 : ¬ ((0 ≤ band ∧ band ≤ (R.length : Int) - 1) ∧ 0 ≤ s ∧ s ≤ 10000000000)) : lifeE R rs band s = 2 := by
  unfold lifeE; rw [if_neg (fun hh => hh h), if_neg h1]
end Go.Proofs.Ytkkglkdnnfegkaa

namespace Go.Proofs.Ytkkglkdnnfegkaa
open Go.RowKit Go.Shelf Go.Eng
theorem plan_p_ok (R : List (Int × Int)) (rs : List RunD) (lv : List Value) (vr vu : Value) (w : World) (hm : SlAt w vr 2 R.length (pairs R)) (hx : RunsAt w vu lv rs) (hlen : R.length ≤ 1000000) (hrl : rs.length ≤ 1000000) (plan : List Seg) (vp : Value) (hp : SlAt w vp 3 plan.length (trips plan)) (hpl : plan.length ≤ 1000000) (he : possF R rs ≠ 0) :
  Calls Try.prog 58 #[(Value.agg #[vr]), vu, vp] w (Ret fun v w' => v = .tuple #[.pointer none, .int .i64 (possF R rs)] ∧ Ext NoB w w') := by
 refine calls_enter Try.func58 rfl fun a0 hA0 => ?_
 replace hA0 : Fr 32 [] [(0, (Value.agg #[vr])), (1, vu), (2, vp)] a0 := hA0
 have hS0 : Sep NoB w w [(sl vr 2 R.length (pairs R)), (sl vu 3 rs.length (vtrips (runV lv rs))), (segsR false lv rs), (sl vp 3 plan.length (trips plan))] := sep_ro ⟨rfl, hm, rfl, hx.runs, rfl, ⟨hx.len, hx.segs⟩, rfl, hp, trivial⟩
 refine c_seq ?_
 refine c_region ?_
 refine stw hA0 (op_box hS0 rfl (hA0.ev rfl) (cs := [vr]) rfl) rfl rfl (by decide) ?_
 rintro a1 _ w3 ⟨b4, rfl, hS5⟩ hA2; clear hA0 hS0 a0
 refine st hA2 (op_assign rfl (evc _ _)) rfl rfl (by decide) fun a6 hA7 => ?_; clear hA2 a1
 refine st hA7 (op_assign rfl (evc _ _)) rfl rfl (by decide) fun a8 hA9 => ?_; clear hA7 a6
 refine wl_nil ?_
 refine then_n ?_
 refine c_seq ?_
 refine c_region ?_
 refine st hA9 (op_loadA rfl ty_33 (hA9.ev rfl) (hS5.bk 0 rfl) (l := [vr]) rfl rfl) rfl rfl (by decide) fun a10 hA11 => ?_; clear hA9 a8
 refine st hA11 (op_move rfl (hA11.ev rfl)) rfl rfl (by decide) fun a12 hA13 => ?_; clear hA11 a10
 refine stw hA13 (op_call rfl en_53 (ev2 (hA13.ev rfl) (hA13.ev rfl)) (poss_bad R rs lv vr vu _ (hm.step hS5.ext) (hx.step hS5.ext) (by omega) (by omega) he)) rfl rfl (by decide) ?_
 rintro a14 _ w16 ⟨rfl, hE17⟩ hA15; have hS18 := hS5.step hE17; clear hE17 hA13 hS5 a12
 refine st hA15 (op_move rfl (hA15.ev rfl)) rfl rfl (by decide) fun a19 hA20 => ?_; clear hA15 a14
 refine st hA20 (op_extract rfl (hA20.ev rfl) rfl) rfl rfl (by decide) fun a21 hA22 => ?_; clear hA20 a19
 refine st hA22 (op_extract rfl (hA22.ev rfl) rfl) rfl rfl (by decide) fun a23 hA24 => ?_; clear hA22 a21
 refine st hA24 (op_assign rfl (hA24.ev rfl)) rfl rfl (by decide) fun a25 hA26 => ?_; clear hA24 a23
 refine st hA26 (op_assign rfl (hA26.ev rfl)) rfl rfl (by decide) fun a27 hA28 => ?_; clear hA26 a25
 refine wl_nil ?_
 refine then_n ?_
 refine c_seq ?_
 refine c_block ?_
 refine c_seq ?_
 have hA29 := hA28.as [(9, (Value.int .i64 (possF R rs))), (8, (Value.pointer none)), (3, (bptr b4 0)), (2, vp)] rfl; clear hA28
 refine c_region ?_
 refine st hA29 (op_move rfl (hA29.ev rfl)) rfl rfl (by decide) fun a30 hA31 => ?_; clear hA29 a27
 refine st hA31 (op_neq rfl (hA31.ev rfl) (evc _ _)) rfl rfl (by decide) fun a32 hA33 => ?_; clear hA31 a30
 have hd34 : ¬ ((possF R rs) = 0) := he
 rw [decide_eq_false hd34] at hA33
 refine st hA33 (op_assign rfl (hA33.ev rfl)) rfl rfl (by decide) fun a35 hA36 => ?_; clear hA33 a32
 refine wl_nil ?_
 refine then_n ?_
 refine c_true hA36 rfl ?_
 refine c_seq ?_
 have hA37 := hA36.as [(9, (Value.int .i64 (possF R rs)))] rfl; clear hA36
 refine c_region ?_
 refine st hA37 (op_move rfl (hA37.ev rfl)) rfl rfl (by decide) fun a38 hA39 => ?_; clear hA37 a35
 refine st hA39 (op_assign rfl (evc _ _)) rfl rfl (by decide) fun a40 hA41 => ?_; clear hA39 a38
 refine st hA41 (op_assign rfl (hA41.ev rfl)) rfl rfl (by decide) fun a42 hA43 => ?_; clear hA41 a40
 refine wl_nil ?_
 refine then_n ?_
 refine c_ret ?_
 refine blk_ret ?_
 refine then_ret ?_
 refine fin_run hA43 (.inl rfl) (run_results2 hA43 rfl (.tmp rfl) (.tmp rfl)) ?_
 exact ⟨rfl, hS18.ext⟩
theorem plan_any (R : List (Int × Int)) (rs : List RunD) (lv : List Value) (vr vu : Value) (w : World) (hm : SlAt w vr 2 R.length (pairs R)) (hx : RunsAt w vu lv rs) (hlen : R.length ≤ 1000000) (hrl : rs.length ≤ 1000000) (plan : List Seg) (vp : Value) (hp : SlAt w vp 3 plan.length (trips plan)) (hpl : plan.length ≤ 1000000) (he : possF R rs = 0) :
  Calls Try.prog 58 #[(Value.agg #[vr]), vu, vp] w (Ret fun v w' => (planF R rs plan = 2 ∧ v = .tuple #[.pointer none, .int .i64 2] ∧ Ext NoB w w') ∨ (planF R rs plan = 0 ∧ ∃ bj bm, v = .tuple #[bptr bj 0, .int .i64 0] ∧ Sep NoB w w' [blk bj 119 [vr, vu, .map (some bm)], memo bm (KA rs)])) := by
 refine calls_enter Try.func58 rfl fun a0 hA0 => ?_
 replace hA0 : Fr 32 [] [(0, (Value.agg #[vr])), (1, vu), (2, vp)] a0 := hA0
 have hS0 : Sep NoB w w [(sl vr 2 R.length (pairs R)), (sl vu 3 rs.length (vtrips (runV lv rs))), (segsR false lv rs), (sl vp 3 plan.length (trips plan))] := sep_ro ⟨rfl, hm, rfl, hx.runs, rfl, ⟨hx.len, hx.segs⟩, rfl, hp, trivial⟩
 refine c_seq ?_
 refine c_region ?_
 refine stw hA0 (op_box hS0 rfl (hA0.ev rfl) (cs := [vr]) rfl) rfl rfl (by decide) ?_
 rintro a1 _ w3 ⟨b4, rfl, hS5⟩ hA2; clear hA0 hS0 a0
 refine st hA2 (op_assign rfl (evc _ _)) rfl rfl (by decide) fun a6 hA7 => ?_; clear hA2 a1
 refine st hA7 (op_assign rfl (evc _ _)) rfl rfl (by decide) fun a8 hA9 => ?_; clear hA7 a6
 refine wl_nil ?_
 refine then_n ?_
 refine c_seq ?_
 refine c_region ?_
 refine st hA9 (op_loadA rfl ty_33 (hA9.ev rfl) (hS5.bk 0 rfl) (l := [vr]) rfl rfl) rfl rfl (by decide) fun a10 hA11 => ?_; clear hA9 a8
 refine st hA11 (op_move rfl (hA11.ev rfl)) rfl rfl (by decide) fun a12 hA13 => ?_; clear hA11 a10
 refine stw hA13 (op_call rfl en_53 (ev2 (hA13.ev rfl) (hA13.ev rfl)) (poss_ok R rs lv vr vu _ (hm.step hS5.ext) (hx.step hS5.ext) (by omega) (by omega) he)) rfl rfl (by decide) ?_
 rintro a14 _ w16 ⟨bj19, bm20, rfl, hT17⟩ hA15; have hS18 := hS5.callS hT17 rfl; clear hT17 hA13 hS5 a12
 refine st hA15 (op_move rfl (hA15.ev rfl)) rfl rfl (by decide) fun a21 hA22 => ?_; clear hA15 a14
 refine st hA22 (op_extract rfl (hA22.ev rfl) rfl) rfl rfl (by decide) fun a23 hA24 => ?_; clear hA22 a21
 refine st hA24 (op_extract rfl (hA24.ev rfl) rfl) rfl rfl (by decide) fun a25 hA26 => ?_; clear hA24 a23
 refine st hA26 (op_assign rfl (hA26.ev rfl)) rfl rfl (by decide) fun a27 hA28 => ?_; clear hA26 a25
 refine st hA28 (op_assign rfl (hA28.ev rfl)) rfl rfl (by decide) fun a29 hA30 => ?_; clear hA28 a27
 refine wl_nil ?_
 refine then_n ?_
 refine c_seq ?_
 refine c_block ?_
 refine c_seq ?_
 have hA31 := hA30.as [(9, (Value.int .i64 0)), (8, (bptr bj19 0)), (3, (bptr b4 0)), (2, vp)] rfl; clear hA30
 refine c_region ?_
 refine st hA31 (op_move rfl (hA31.ev rfl)) rfl rfl (by decide) fun a32 hA33 => ?_; clear hA31 a29
 refine st hA33 (op_neq rfl (hA33.ev rfl) (evc _ _)) rfl rfl (by decide) fun a34 hA35 => ?_; clear hA33 a32
 refine st hA35 (op_assign rfl (hA35.ev rfl)) rfl rfl (by decide) fun a36 hA37 => ?_; clear hA35 a34
 refine wl_nil ?_
 refine then_n ?_
 refine c_false hA37 rfl ?_
 refine c_seq ?_
 refine c_region ?_
 refine st hA37 (op_move rfl (hA37.ev rfl)) rfl rfl (by decide) fun a38 hA39 => ?_; clear hA37 a36
 refine st hA39 (op_lenS rfl un_58 (hA39.ev rfl) (hS18.sk 6 rfl)) rfl rfl (by decide) fun a40 hA41 => ?_; clear hA39 a38
 refine st hA41 (op_gtr rfl (hA41.ev rfl) (evc _ _)) rfl rfl (by decide) fun a42 hA43 => ?_; clear hA41 a40
 refine st hA43 (op_move rfl (hA43.ev rfl)) rfl rfl (by decide) fun a44 hA45 => ?_; clear hA43 a42
 by_cases hb46 : 8 < (plan.length : Int)
 ·skip
  rw [decide_eq_true hb46] at hA45
  refine skp hA45 rfl rfl rfl rfl rfl (by decide) fun a47 hA48 => ?_; clear hA45 a44
  refine skp hA48 rfl rfl rfl rfl rfl (by decide) fun a49 hA50 => ?_; clear hA48 a47
  refine skp hA50 rfl rfl rfl rfl rfl (by decide) fun a51 hA52 => ?_; clear hA50 a49
  refine skp hA52 rfl rfl rfl rfl rfl (by decide) fun a53 hA54 => ?_; clear hA52 a51
  refine skp hA54 rfl rfl rfl rfl rfl (by decide) fun a55 hA56 => ?_; clear hA54 a53
  refine st hA56 (op_pick_t rfl (hA56.ev rfl) (evc _ _)) rfl rfl (by decide) fun a57 hA58 => ?_; clear hA56 a55
  refine st hA58 (op_assign rfl (hA58.ev rfl)) rfl rfl (by decide) fun a59 hA60 => ?_; clear hA58 a57
  refine wl_nil ?_
  refine then_n ?_
  refine c_true hA60 rfl ?_
  refine c_seq ?_
  have hA61 := hA60.as [] rfl; clear hA60
  refine c_region ?_
  refine st hA61 (op_assign rfl (evc _ _)) rfl rfl (by decide) fun a62 hA63 => ?_; clear hA61 a59
  refine st hA63 (op_assign rfl (evc _ _)) rfl rfl (by decide) fun a64 hA65 => ?_; clear hA63 a62
  refine wl_nil ?_
  refine then_n ?_
  refine c_ret ?_
  refine blk_ret ?_
  refine then_ret ?_
  refine fin_run hA65 (.inl rfl) (run_results2 hA65 rfl (.tmp rfl) (.tmp rfl)) ?_
  exact .inl ⟨by first | exact plan_2a he (by omega) | exact plan_2b he (by assumption), rfl, hS18.ext⟩
 ·skip
  rw [decide_eq_false hb46] at hA45
  refine stg hA45 (op_move rfl (hA45.ev rfl)) rfl rfl rfl rfl (by decide) fun a66 hA67 => ?_; clear hA45 a44
  refine stg hA67 (op_loadA rfl ty_33 (hA67.ev rfl) (hS18.bk 2 rfl) (l := [vr]) rfl rfl) rfl rfl rfl rfl (by decide) fun a68 hA69 => ?_; clear hA67 a66
  refine stg hA69 (op_makeFunc rfl (ev1 (hA69.ev rfl)) ev0) rfl rfl rfl rfl (by decide) fun a70 hA71 => ?_; clear hA69 a68
  refine stwg hA71 (op_call rfl en_79 (ev2 (hA71.ev rfl) (hA71.ev rfl)) (callsB (all_seg plan _ 80 #[(Value.agg #[vr])] #[] (fun i => segB R.length (plan.getD i (0, 0, 0))) _ (hS18.sk 6 rfl) (by omega) ⟨en_80, fun i hi W hW => segment_ok R vr _ _ _ W (hm.step (hS18.ext.trans hW)) hlen⟩) (allSegB R.length plan) rfl)) rfl rfl rfl rfl (by decide) ?_
  rintro a72 _ w74 ⟨rfl, hE75⟩ hA73; have hS76 := hS18.step hE75; clear hE75 hA71 hS18 a70
  refine stg hA73 (op_not rfl (hA73.ev rfl)) rfl rfl rfl rfl (by decide) fun a77 hA78 => ?_; clear hA73 a72
  refine st hA78 (op_pick_f rfl (hA78.ev rfl) (hA78.ev rfl)) rfl rfl (by decide) fun a79 hA80 => ?_; clear hA78 a77
  refine st hA80 (op_assign rfl (hA80.ev rfl)) rfl rfl (by decide) fun a81 hA82 => ?_; clear hA80 a79
  refine wl_nil ?_
  refine then_n ?_
  rcases Bool.eq_false_or_eq_true ((allSegB R.length plan)) with hb83 | hb83
  ·skip
   rw [hb83] at hA82
   refine c_false hA82 rfl ?_
   refine c_skip ?_
   refine blk_n ?_
   refine then_n ?_
   refine c_seq ?_
   have hA84 := hA82.as [(8, (bptr bj19 0))] rfl; clear hA82
   refine c_region ?_
   refine st hA84 (op_move rfl (hA84.ev rfl)) rfl rfl (by decide) fun a85 hA86 => ?_; clear hA84 a81
   refine st hA86 (op_assign rfl (hA86.ev rfl)) rfl rfl (by decide) fun a87 hA88 => ?_; clear hA86 a85
   refine st hA88 (op_assign rfl (evc _ _)) rfl rfl (by decide) fun a89 hA90 => ?_; clear hA88 a87
   refine wl_nil ?_
   refine then_n ?_
   refine c_ret ?_
   refine fin_run hA90 (.inl rfl) (run_results2 hA90 rfl (.tmp rfl) (.tmp rfl)) ?_
   exact .inr ⟨plan_0 he (by omega) (by assumption), _, _, rfl, hS76.keep [0, 1] (by decide) _ rfl rfl⟩
  ·skip
   rw [hb83] at hA82
   refine c_true hA82 rfl ?_
   refine c_seq ?_
   have hA91 := hA82.as [] rfl; clear hA82
   refine c_region ?_
   refine st hA91 (op_assign rfl (evc _ _)) rfl rfl (by decide) fun a92 hA93 => ?_; clear hA91 a81
   refine st hA93 (op_assign rfl (evc _ _)) rfl rfl (by decide) fun a94 hA95 => ?_; clear hA93 a92
   refine wl_nil ?_
   refine then_n ?_
   refine c_ret ?_
   refine blk_ret ?_
   refine then_ret ?_
   refine fin_run hA95 (.inl rfl) (run_results2 hA95 rfl (.tmp rfl) (.tmp rfl)) ?_
   exact .inl ⟨by first | exact plan_2a he (by omega) | exact plan_2b he (by assumption), rfl, hS76.ext⟩
theorem plan_bad (R : List (Int × Int)) (rs : List RunD) (lv : List Value) (vr vu : Value) (w : World) (hm : SlAt w vr 2 R.length (pairs R)) (hx : RunsAt w vu lv rs) (hlen : R.length ≤ 1000000) (hrl : rs.length ≤ 1000000) (plan : List Seg) (vp : Value) (hp : SlAt w vp 3 plan.length (trips plan)) (hpl : plan.length ≤ 1000000) (he : planF R rs plan ≠ 0) : Calls Try.prog 58 #[.agg #[vr], vu, vp] w (Ret fun v w' => v = .tuple #[.pointer none, .int .i64 (planF R rs plan)] ∧ Ext NoB w w') := by
 by_cases h0 : possF R rs = 0
 ·exact (plan_any R rs lv vr vu w hm hx hlen hrl plan vp hp hpl h0).mono (Ret.mono fun v w' h => by
   rcases h with ⟨h1, h⟩ | ⟨h, _⟩
   ·rw [h1]; exact h
   ·exact absurd h he)
 ·have := plan_p_ok R rs lv vr vu w hm hx hlen hrl plan vp hp hpl h0
  rw [plan_p h0]; exact this
theorem plan_ok (R : List (Int × Int)) (rs : List RunD) (lv : List Value) (vr vu : Value) (w : World) (hm : SlAt w vr 2 R.length (pairs R)) (hx : RunsAt w vu lv rs) (hlen : R.length ≤ 1000000) (hrl : rs.length ≤ 1000000) (plan : List Seg) (vp : Value) (hp : SlAt w vp 3 plan.length (trips plan)) (hpl : plan.length ≤ 1000000) (he : planF R rs plan = 0) : Calls Try.prog 58 #[.agg #[vr], vu, vp] w (Ret fun v w' => ∃ bj bm, v = .tuple #[bptr bj 0, .int .i64 0] ∧ Sep NoB w w' [blk bj 119 [vr, vu, .map (some bm)], memo bm (KA rs)]) :=
 (plan_any R rs lv vr vu w hm hx hlen hrl plan vp hp hpl (plan_is he).1).mono (Ret.mono fun v w' h => by
  rcases h with ⟨h, _⟩ | ⟨_, h⟩
  ·rw [he] at h; exact absurd h (by decide)
  ·exact h)
end Go.Proofs.Ytkkglkdnnfegkaa

namespace Go.Proofs.Ytkkglkdnnfegkaa
open Go.RowKit Go.Shelf Go.Eng
theorem ty_4 : tyK Try.prog 4 = some (false, 1) := by kernel_rfl
theorem bd_fv_42_0_i64i64 (x0 x1 : Int) (w : World) : (Instr.field 42 (.agg #[(.int .i64 x0), (.int .i64 x1)]) 0).run Try.prog w = .ok (.int .i64 x0) w := by kernel_rfl
theorem bd_fv_42_1_i64i64 (x0 x1 : Int) (w : World) : (Instr.field 42 (.agg #[(.int .i64 x0), (.int .i64 x1)]) 1).run Try.prog w = .ok (.int .i64 x1) w := by kernel_rfl
theorem ends_ok (bj bm : Nat) (R : List (Int × Int)) (rs : List RunD) (lv : List Value) (vr vu vp : Value) (plan : List Seg) (w : World) (hR : MatV R) (hV : RunsV R.length rs) (hl : lv.length = rs.length) (hpl : plan.length ≤ 8) (hs : ∀ i, i < plan.length → SegV R.length (plan.getD i (0, 0, 0))) (hJ : Sep (fun b => b = bm) w w [(memo bm (KA rs)), (rob bj 119 [vr, vu, (Value.map (some bm))]), (sl vr 2 R.length (pairs R)), (sl vu 3 rs.length (vtrips (runV lv rs))), (segsR false lv rs), (sl vp 3 plan.length (trips plan))]) :
  Calls Try.prog 59 #[(bptr bj 0), vp] w (Ret fun v w' => v = .tuple #[.agg (ints (leastR R rs plan)).toArray, .agg (ints (mostR R rs plan)).toArray] ∧ Ext (fun b => b = bm) w w' ∧ (memo bm (KA rs)).p w') := by
 refine calls_enterM Try.func59 rfl fun a0 hA0 => ?_
 replace hA0 : Fr 43 (marks []) [(0, (bptr bj 0)), (1, vp)] a0 := hA0
 have hS0 : Sep (fun b => b = bm) w w [(marksR []), (memo bm (KA rs)), (rob bj 119 [vr, vu, (Value.map (some bm))]), (sl vr 2 R.length (pairs R)), (sl vu 3 rs.length (vtrips (runV lv rs))), (segsR false lv rs), (sl vp 3 plan.length (trips plan))] := sep_marks (hJ)
 refine c_seq ?_
 refine c_region ?_
 refine stw hA0 (op_box hS0 rfl (hA0.ev rfl) (cs := [vp]) (isSl_cells (SlAt.isSl (hS0.sk 6 rfl)))) rfl rfl (by decide) ?_
 rintro a1 _ w3 ⟨b4, rfl, hS5⟩ hA2; clear hA0 hS0 a0
 refine stw hA2 (op_alloc hS5 rfl ze_104 (cs := (ints ([0, 0, 0]))) rfl) rfl rfl (by decide) ?_
 rintro a6 _ w8 ⟨b9, rfl, hS10⟩ hA7; clear hA2 hS5 a1
 refine stw hA7 (op_alloc hS10 rfl ze_104 (cs := (ints ([0, 0, 0]))) rfl) rfl rfl (by decide) ?_
 rintro a11 _ w13 ⟨b14, rfl, hS15⟩ hA12; clear hA7 hS10 a6
 refine wl_nil ?_
 refine then_n ?_
 refine c_seq ?_
 refine c_region ?_
 refine stw hA12 (op_alloc hS15 rfl ze_4 (cs := [(Value.bool false)]) rfl) rfl rfl (by decide) ?_
 rintro a16 _ w18 ⟨b19, rfl, hS20⟩ hA17; clear hA12 hS15 a11
 refine sts hA17 (op_store hS20 rfl ty_4 (hA17.ev rfl) (evc _ _) (i := 0) rfl (vs := [(Value.bool true)]) rfl rfl rfl (Nat.le_of_ble_eq_true rfl)) rfl rfl ?_
 intro _ w21 hS22 hA23; clear hA17
 have hS24 : Sep (fun b => b = bm) w w21 [(blk b19 4 [(Value.bool true)]), (blk b14 104 (ints ([0, 0, 0]))), (blk b9 104 (ints ([0, 0, 0]))), (blk b4 58 [vp]), (marksR []), (memo bm (KA rs)), (rob bj 119 [vr, vu, (Value.map (some bm))]), (sl vr 2 R.length (pairs R)), (sl vu 3 rs.length (vtrips (runV lv rs))), (segsR false lv rs), (sl vp 3 plan.length (trips plan))] := hS22; clear hS22 hS20
 refine wl_nil ?_
 refine then_n ?_
 refine c_seq ?_
 refine c_seq ?_
 refine c_region ?_
 refine st hA23 (op_move rfl (hA23.ev rfl)) rfl rfl (by decide) fun a25 hA26 => ?_; clear hA23 a16
 refine stw hA26 (op_call rfl en_54 (ev1 (hA26.ev rfl)) (every_ok _ _)) rfl rfl (by decide) ?_
 rintro a27 _ w29 ⟨bx32, rfl, hT30⟩ hA28; have hS31 := hS24.callS hT30 rfl; clear hT30 hA26 hS24 a25
 refine wl_nil ?_
 refine then_n ?_
 refine c_block ?_
 have hA33 := hA28.as [(11, (Value.func (.func 78) #[] #[(bptr bx32 0)])), (6, (bptr b19 0)), (5, (bptr b14 0)), (4, (bptr b9 0)), (3, (bptr b4 0))] rfl; clear hA28
 have hS34 : Sep (fun b => b = bm) w w29 [(marksR []), (memo bm (KA rs)), (blk bx32 97 [(bptr bj 0)]), (blk b19 4 [(Value.bool true)]), (blk b14 104 (ints ([0, 0, 0]))), (blk b9 104 (ints ([0, 0, 0]))), (blk b4 58 [vp]), (rob bj 119 [vr, vu, (Value.map (some bm))]), (sl vr 2 R.length (pairs R)), (sl vu 3 rs.length (vtrips (runV lv rs))), (segsR false lv rs), (sl vp 3 plan.length (trips plan))] := hS31.keep [5, 6, 0, 1, 2, 3, 4, 7, 8, 9, 10, 11] (by decide) _ rfl rfl; clear hS31
 refine c_rangeG hA33 (memo bm (KA rs)) rfl hS34 (hA33.ev rfl) en_78 ((allowedF R rs).length) (fun k => #[.agg (ints ((allowedF R rs).getD k [])).toArray]) (fun _ => rfl) [rob bx32 97 [bptr bj 0], rob bj 119 [vr, vu, .map (some bm)], sl vr 2 R.length (pairs R), sl vu 3 rs.length (vtrips (runV lv rs)), segsR false lv rs] (fun r hr => by simp only [List.mem_cons, List.not_mem_nil, or_false] at hr; rcases hr with rfl | rfl | rfl | rfl | rfl <;> rfl) (every_it bx32 bj bm R rs lv vr vu R.length hR.1 hR hV hl) (fun q L_ => L_ = [(blk bx32 97 [(bptr bj 0)]), (blk b19 4 [(Value.bool (decide (q = 0)))]), (blk b14 104 (ints (mostF plan (allowedF R rs) q))), (blk b9 104 (ints (leastF plan (allowedF R rs) q))), (blk b4 58 [vp]), (rob bj 119 [vr, vu, (Value.map (some bm))]), (sl vr 2 R.length (pairs R)), (sl vu 3 rs.length (vtrips (runV lv rs))), (segsR false lv rs), (sl vp 3 plan.length (trips plan))]) (fun _ => False) none rfl (fun q L_ hI_ G_ W_ r1_ r2_ hW_ => by obtain ⟨rfl⟩ := hI_; exact (Sep.keep (hW_.to_ro (i := 3) rfl) [2, 3, 8, 9, 10, 11] (by decide) _ rfl rfl)) (fun L_ hI_ => hI_.elim) ?_ ?_ (fun _ hc_ => by cases hc_)
 ·skip
  intro q hq L_ hL_ G43 hG44 l40 D41 rc42 a35 w36 ha39 hS37; obtain ⟨rfl⟩ := hL_
  have hA38 : Fr 43 [] [(12, (Value.agg (ints ((allowedF R rs).getD q [])).toArray)), (11, (Value.func (.func 78) #[] #[(bptr bx32 0)])), (6, (bptr b19 0)), (5, (bptr b14 0)), (4, (bptr b9 0)), (3, (bptr b4 0))] a35 := by rw [ha39]; exact Fr.round1 hA33 (by decide)
  clear ha39 hS34
  have hl3 := (allowed_rates hR hq).1.1
  refine c_region ?_
  refine stw hA38 (op_alloc hS37 rfl ze_104 (cs := [(Value.int .i64 0), (Value.int .i64 0), (Value.int .i64 0)]) rfl) rfl rfl (by decide) ?_
  rintro a45 _ w47 ⟨b48, rfl, hS49⟩ hA46; clear hA38 hS37 a35
  refine sts hA46 (op_store hS49 rfl ty_104 (hA46.ev rfl) (hA46.ev rfl) (i := 0) rfl (vs := (ints ((allowedF R rs).getD q []))) rfl (allowed_len3 hR hq).symm (ints_one _) (by decide)) rfl rfl ?_
  intro _ w50 hS51 hA53; have hS52 := hS51.blk_say (i := 0) rfl (cs' := (ints ((allowedF R rs).getD q []))) (setFrom_all _ _ (Eq.symm (allowed_len3 hR hq).symm)); clear hS51 hA46 hS49
  refine wl_nil ?_
  have hS54 : Sep (fun b => b = bm) w w50 [(obR l40 (.loop (rc42 .ready none))), (marksR (D41 :: [])), G43, (blk b48 104 (ints ((allowedF R rs).getD q []))), (blk bx32 97 [(bptr bj 0)]), (blk b19 4 [(Value.bool (decide (q = 0)))]), (blk b14 104 (ints (mostF plan (allowedF R rs) q))), (blk b9 104 (ints (leastF plan (allowedF R rs) q))), (blk b4 58 [vp]), (rob bj 119 [vr, vu, (Value.map (some bm))]), (sl vr 2 R.length (pairs R)), (sl vu 3 rs.length (vtrips (runV lv rs))), (segsR false lv rs), (sl vp 3 plan.length (trips plan))] := hS52.keep [1, 2, 3, 0, 4, 5, 6, 7, 8, 9, 10, 11, 12, 13] (by decide) _ rfl rfl; clear hS52
  refine ⟨rfl, _, hS54, ?_⟩; intro w55 hS56; clear hS54
  refine c_block ?_
  refine c_seq ?_
  refine c_seq ?_
  refine c_region ?_
  refine st hA53 (op_load1 rfl ty_58 (hA53.ev rfl) (hS56.bk 8 rfl) rfl) rfl rfl (by decide) fun a57 hA58 => ?_; clear hA53 a45
  refine st hA58 (op_loadA rfl ty_104 (hA58.ev rfl) (hS56.bk 3 rfl) (l := (ints ((allowedF R rs).getD q []))) (drop_take_all _ _ (allowed_len3 hR hq).symm) (allowed_len3 hR hq).symm) rfl rfl (by decide) fun a59 hA60 => ?_; clear hA58 a57
  refine stw hA60 (op_call rfl en_60 (ev2 (hA60.ev rfl) (hA60.ev rfl)) (stretch_ok plan _ ((allowedF R rs).getD q []) R.length _ (by omega) hR.1 (allowed_rates hR hq).1 hs (hS56.sk 13 rfl))) rfl rfl (by decide) ?_
  rintro a61 _ w63 ⟨rfl, hE64⟩ hA62; have hS65 := hS56.step hE64; clear hE64 hA60 hS56 a59
  refine stw hA62 (op_alloc hS65 rfl ze_42 (cs := [(Value.int .i64 0), (Value.int .i64 0)]) rfl) rfl rfl (by decide) ?_
  rintro a66 _ w68 ⟨b69, rfl, hS70⟩ hA67; clear hA62 hS65 a61
  refine sts hA67 (op_store hS70 rfl ty_42 (hA67.ev rfl) (hA67.ev rfl) (i := 0) rfl (vs := [(Value.int .i64 (stLo plan ((allowedF R rs).getD q []))), (Value.int .i64 (stHi plan ((allowedF R rs).getD q [])))]) rfl rfl rfl (Nat.le_of_ble_eq_true rfl)) rfl rfl ?_
  intro _ w71 hS72 hA73; clear hA67
  have hS74 : Sep (fun b => b = bm) w w71 [(blk b69 42 [(Value.int .i64 (stLo plan ((allowedF R rs).getD q []))), (Value.int .i64 (stHi plan ((allowedF R rs).getD q [])))]), (obR l40 (.loop (rc42 .busy none))), (marksR (D41 :: [])), G43, (blk b48 104 (ints ((allowedF R rs).getD q []))), (blk bx32 97 [(bptr bj 0)]), (blk b19 4 [(Value.bool (decide (q = 0)))]), (blk b14 104 (ints (mostF plan (allowedF R rs) q))), (blk b9 104 (ints (leastF plan (allowedF R rs) q))), (blk b4 58 [vp]), (rob bj 119 [vr, vu, (Value.map (some bm))]), (sl vr 2 R.length (pairs R)), (sl vu 3 rs.length (vtrips (runV lv rs))), (segsR false lv rs), (sl vp 3 plan.length (trips plan))] := hS72; clear hS72 hS70
  refine wl_nil ?_
  refine then_n ?_
  refine c_seq ?_
  have hA75 := hA73.as [(8, (bptr b69 0)), (7, (bptr b48 0)), (6, (bptr b19 0)), (5, (bptr b14 0)), (4, (bptr b9 0)), (3, (bptr b4 0))] rfl; clear hA73
  rcases Bool.eq_false_or_eq_true ((decide (q = 0))) with hb77 | hb77
  ·skip
   have hA78 := hA75.as [(8, (bptr b69 0)), (7, (bptr b48 0)), (6, (bptr b19 0)), (5, (bptr b14 0)), (4, (bptr b9 0)), (3, (bptr b4 0))] rfl; clear hA75
   refine c_drawn mixed hA78 hS74 8 [[], [0], [1], [1, 2], [1], [1], [1, 4, 5], [1, 6]] [(Yd.val (Value.bool true)), (Yd.val (Value.bool true)), (Yd.val undef), (Yd.val undef), (Yd.val undef), (Yd.val undef), (Yd.val undef), (Yd.val undef)] (by decide +kernel) rfl rfl ?_ ?_
   ·skip
    refine ⟨fun a w hA hS hd => by exact opG_of rfl (dv (op_load1 rfl ty_4 (hA.ev rfl) (hS.bk 6 rfl) rfl) hS (by show Value.bool _ = _; simp only [hb77, decide_true, decide_false, Bool.not_true, Bool.not_false])), ?_⟩
    refine ⟨fun a w hA hS hd => by have e0 := has_ev (hd 0 (by decide)) rfl (fun _ h => h); exact opG_of rfl (dv (op_move rfl (tmp_ev e0)) hS rfl), ?_⟩
    refine ⟨fun a w hA hS hd => by have e1 := has_ev (hd 1 (by decide)) rfl (fun _ h => h); exact opG_no rfl rfl e1 rfl (dskip hS rfl), ?_⟩
    refine ⟨fun a w hA hS hd => by have e1 := has_ev (hd 1 (by decide)) rfl (fun _ h => h); have e2 := has_ev (hd 2 (by decide)) rfl (fun _ h => h); exact opG_no rfl rfl e1 rfl (dskip hS rfl), ?_⟩
    refine ⟨fun a w hA hS hd => by have e1 := has_ev (hd 1 (by decide)) rfl (fun _ h => h); exact opG_no rfl rfl e1 rfl (dskip hS rfl), ?_⟩
    refine ⟨fun a w hA hS hd => by have e1 := has_ev (hd 1 (by decide)) rfl (fun _ h => h); exact opG_no rfl rfl e1 rfl (dskip hS rfl), ?_⟩
    refine ⟨fun a w hA hS hd => by have e1 := has_ev (hd 1 (by decide)) rfl (fun _ h => h); have e4 := has_ev (hd 4 (by decide)) rfl (fun _ h => h); have e5 := has_ev (hd 5 (by decide)) rfl (fun _ h => h); exact opG_no rfl rfl e1 rfl (dskip hS rfl), ?_⟩
    refine ⟨fun a w hA hS hd => by have e1 := has_ev (hd 1 (by decide)) rfl (fun _ h => h); have e6 := has_ev (hd 6 (by decide)) rfl (fun _ h => h); exact opG_no rfl rfl e1 rfl (dskip hS rfl), ?_⟩
    trivial
   intro a80 w81 hA82 hS83 hH84; clear hA78 hS74
   have hA85 := hA82.add (has_ev (hH84 1 (by decide)) rfl (fun _ h => h)); clear hA82
   have hA86 := hA85.add (has_ev (hH84 3 (by decide)) rfl (fun _ h => h)); clear hA85
   have hA87 := hA86.add (has_ev (hH84 7 (by decide)) rfl (fun _ h => h)); clear hA86
   clear hH84
   refine skp hA87 rfl rfl rfl rfl rfl (by decide) fun a88 hA89 => ?_; clear hA87 a80
   refine st hA89 (op_pick_t rfl (hA89.ev rfl) (evc _ _)) rfl rfl (by decide) fun a90 hA91 => ?_; clear hA89 a88
   refine wl_nil ?_
   refine then_n ?_
   refine c_true hA91 rfl ?_
   have hA92 := hA91.as [(7, (bptr b48 0)), (6, (bptr b19 0)), (5, (bptr b14 0)), (4, (bptr b9 0)), (3, (bptr b4 0))] rfl; clear hA91
   refine c_region ?_
   refine st hA92 (op_loadA rfl ty_104 (hA92.ev rfl) (hS83.bk 4 rfl) (l := (ints ((allowedF R rs).getD q []))) (drop_take_all _ _ (allowed_len3 hR hq).symm) (allowed_len3 hR hq).symm) rfl rfl (by decide) fun a93 hA94 => ?_; clear hA92 a90
   refine sts hA94 (op_store hS83 rfl ty_104 (hA94.ev rfl) (hA94.ev rfl) (i := 8) rfl (vs := (ints ((allowedF R rs).getD q []))) rfl (allowed_len3 hR hq).symm (ints_one _) (by first | (simp only [ints, List.length_map, List.length_set]; omega) | (have h2_ := (show (ints (leastF plan (allowedF R rs) q)).length = 3 from (by rw [ints, List.length_map]; exact (least_rates (fun k hk => (allowed_rates hR hk).1) _ (by omega)).1)); omega))) rfl rfl ?_
   intro _ w95 hS96 hA98; have hS97 := hS96.blk_say (i := 8) rfl (cs' := (ints ((allowedF R rs).getD q []))) (setFrom_all _ _ (by first | (simp only [ints, List.length_map, List.length_set]; omega) | (have h1_ := (show (ints ((allowedF R rs).getD q [])).length = 3 from (allowed_len3 hR hq).symm); have h2_ := (show (ints (leastF plan (allowedF R rs) q)).length = 3 from (by rw [ints, List.length_map]; exact (least_rates (fun k hk => (allowed_rates hR hk).1) _ (by omega)).1)); omega))); clear hS96 hA94 hS83
   refine wl_nil ?_
   refine then_n ?_
   refine c_seq ?_
   refine c_seq ?_
   refine c_region ?_
   refine st hA98 (op_load1 rfl ty_58 (hA98.ev rfl) (hS97.bk 9 rfl) rfl) rfl rfl (by decide) fun a99 hA100 => ?_; clear hA98 a93
   refine st hA100 (op_loadA rfl ty_104 (hA100.ev rfl) (hS97.bk 4 rfl) (l := (ints ((allowedF R rs).getD q []))) (drop_take_all _ _ (allowed_len3 hR hq).symm) (allowed_len3 hR hq).symm) rfl rfl (by decide) fun a101 hA102 => ?_; clear hA100 a99
   refine stw hA102 (op_call rfl en_60 (ev2 (hA102.ev rfl) (hA102.ev rfl)) (stretch_ok plan _ ((allowedF R rs).getD q []) R.length _ (by omega) hR.1 (allowed_rates hR hq).1 hs (hS97.sk 14 rfl))) rfl rfl (by decide) ?_
   rintro a103 _ w105 ⟨rfl, hE106⟩ hA104; have hS107 := hS97.step hE106; clear hE106 hA102 hS97 a101
   refine stw hA104 (op_alloc hS107 rfl ze_42 (cs := [(Value.int .i64 0), (Value.int .i64 0)]) rfl) rfl rfl (by decide) ?_
   rintro a108 _ w110 ⟨b111, rfl, hS112⟩ hA109; clear hA104 hS107 a103
   refine sts hA109 (op_store hS112 rfl ty_42 (hA109.ev rfl) (hA109.ev rfl) (i := 0) rfl (vs := [(Value.int .i64 (stLo plan ((allowedF R rs).getD q []))), (Value.int .i64 (stHi plan ((allowedF R rs).getD q [])))]) rfl rfl rfl (Nat.le_of_ble_eq_true rfl)) rfl rfl ?_
   intro _ w113 hS114 hA115; clear hA109
   have hS116 : Sep (fun b => b = bm) w w113 [(blk b111 42 [(Value.int .i64 (stLo plan ((allowedF R rs).getD q []))), (Value.int .i64 (stHi plan ((allowedF R rs).getD q [])))]), (blk b69 42 [(Value.int .i64 (stLo plan ((allowedF R rs).getD q []))), (Value.int .i64 (stHi plan ((allowedF R rs).getD q [])))]), (obR l40 (.loop (rc42 .busy none))), (marksR (D41 :: [])), G43, (blk b48 104 (ints ((allowedF R rs).getD q []))), (blk bx32 97 [(bptr bj 0)]), (blk b19 4 [(Value.bool (decide (q = 0)))]), (blk b14 104 (ints (mostF plan (allowedF R rs) q))), (blk b9 104 (ints ((allowedF R rs).getD q []))), (blk b4 58 [vp]), (rob bj 119 [vr, vu, (Value.map (some bm))]), (sl vr 2 R.length (pairs R)), (sl vu 3 rs.length (vtrips (runV lv rs))), (segsR false lv rs), (sl vp 3 plan.length (trips plan))] := hS114; clear hS114 hS112
   refine wl_nil ?_
   refine then_n ?_
   refine c_seq ?_
   have hA117 := hA115.as [(9, (bptr b111 0)), (7, (bptr b48 0)), (6, (bptr b19 0)), (5, (bptr b14 0)), (3, (bptr b4 0))] rfl; clear hA115
   refine c_drawn mixed hA117 hS116 8 [[], [0], [1], [1, 2], [1], [1], [1, 4, 5], [1, 6]] [(Yd.val (Value.bool true)), (Yd.val (Value.bool true)), (Yd.val undef), (Yd.val undef), (Yd.val undef), (Yd.val undef), (Yd.val undef), (Yd.val undef)] (by decide +kernel) rfl rfl ?_ ?_
   ·skip
    refine ⟨fun a w hA hS hd => by exact opG_of rfl (dv (op_load1 rfl ty_4 (hA.ev rfl) (hS.bk 7 rfl) rfl) hS (by show Value.bool _ = _; simp only [hb77, decide_true, decide_false, Bool.not_true, Bool.not_false])), ?_⟩
    refine ⟨fun a w hA hS hd => by have e0 := has_ev (hd 0 (by decide)) rfl (fun _ h => h); exact opG_of rfl (dv (op_move rfl (tmp_ev e0)) hS rfl), ?_⟩
    refine ⟨fun a w hA hS hd => by have e1 := has_ev (hd 1 (by decide)) rfl (fun _ h => h); exact opG_no rfl rfl e1 rfl (dskip hS rfl), ?_⟩
    refine ⟨fun a w hA hS hd => by have e1 := has_ev (hd 1 (by decide)) rfl (fun _ h => h); have e2 := has_ev (hd 2 (by decide)) rfl (fun _ h => h); exact opG_no rfl rfl e1 rfl (dskip hS rfl), ?_⟩
    refine ⟨fun a w hA hS hd => by have e1 := has_ev (hd 1 (by decide)) rfl (fun _ h => h); exact opG_no rfl rfl e1 rfl (dskip hS rfl), ?_⟩
    refine ⟨fun a w hA hS hd => by have e1 := has_ev (hd 1 (by decide)) rfl (fun _ h => h); exact opG_no rfl rfl e1 rfl (dskip hS rfl), ?_⟩
    refine ⟨fun a w hA hS hd => by have e1 := has_ev (hd 1 (by decide)) rfl (fun _ h => h); have e4 := has_ev (hd 4 (by decide)) rfl (fun _ h => h); have e5 := has_ev (hd 5 (by decide)) rfl (fun _ h => h); exact opG_no rfl rfl e1 rfl (dskip hS rfl), ?_⟩
    refine ⟨fun a w hA hS hd => by have e1 := has_ev (hd 1 (by decide)) rfl (fun _ h => h); have e6 := has_ev (hd 6 (by decide)) rfl (fun _ h => h); exact opG_no rfl rfl e1 rfl (dskip hS rfl), ?_⟩
    trivial
   intro a119 w120 hA121 hS122 hH123; clear hA117 hS116
   have hA124 := hA121.add (has_ev (hH123 1 (by decide)) rfl (fun _ h => h)); clear hA121
   have hA125 := hA124.add (has_ev (hH123 3 (by decide)) rfl (fun _ h => h)); clear hA124
   have hA126 := hA125.add (has_ev (hH123 7 (by decide)) rfl (fun _ h => h)); clear hA125
   clear hH123
   refine skp hA126 rfl rfl rfl rfl rfl (by decide) fun a127 hA128 => ?_; clear hA126 a119
   refine st hA128 (op_pick_t rfl (hA128.ev rfl) (evc _ _)) rfl rfl (by decide) fun a129 hA130 => ?_; clear hA128 a127
   refine wl_nil ?_
   refine then_n ?_
   refine c_true hA130 rfl ?_
   have hA131 := hA130.as [(7, (bptr b48 0)), (6, (bptr b19 0)), (5, (bptr b14 0))] rfl; clear hA130
   refine c_region ?_
   refine st hA131 (op_loadA rfl ty_104 (hA131.ev rfl) (hS122.bk 5 rfl) (l := (ints ((allowedF R rs).getD q []))) (drop_take_all _ _ (allowed_len3 hR hq).symm) (allowed_len3 hR hq).symm) rfl rfl (by decide) fun a132 hA133 => ?_; clear hA131 a129
   refine sts hA133 (op_store hS122 rfl ty_104 (hA133.ev rfl) (hA133.ev rfl) (i := 8) rfl (vs := (ints ((allowedF R rs).getD q []))) rfl (allowed_len3 hR hq).symm (ints_one _) (by first | (simp only [ints, List.length_map, List.length_set]; omega) | (have h2_ := (show (ints (mostF plan (allowedF R rs) q)).length = 3 from (by rw [ints, List.length_map]; exact (most_rates (fun k hk => (allowed_rates hR hk).1) _ (by omega)).1)); omega))) rfl rfl ?_
   intro _ w134 hS135 hA137; have hS136 := hS135.blk_say (i := 8) rfl (cs' := (ints ((allowedF R rs).getD q []))) (setFrom_all _ _ (by first | (simp only [ints, List.length_map, List.length_set]; omega) | (have h1_ := (show (ints ((allowedF R rs).getD q [])).length = 3 from (allowed_len3 hR hq).symm); have h2_ := (show (ints (mostF plan (allowedF R rs) q)).length = 3 from (by rw [ints, List.length_map]; exact (most_rates (fun k hk => (allowed_rates hR hk).1) _ (by omega)).1)); omega))); clear hS135 hA133 hS122
   refine wl_nil ?_
   refine then_n ?_
   refine c_region ?_
   refine sts hA137 (op_store hS136 rfl ty_4 (hA137.ev rfl) (evc _ _) (i := 7) rfl (vs := [(Value.bool false)]) rfl rfl rfl (Nat.le_of_ble_eq_true rfl)) rfl rfl ?_
   intro _ w138 hS139 hA140; clear hA137
   have hS141 : Sep (fun b => b = bm) w w138 [(blk b111 42 [(Value.int .i64 (stLo plan ((allowedF R rs).getD q []))), (Value.int .i64 (stHi plan ((allowedF R rs).getD q [])))]), (blk b69 42 [(Value.int .i64 (stLo plan ((allowedF R rs).getD q []))), (Value.int .i64 (stHi plan ((allowedF R rs).getD q [])))]), (obR l40 (.loop (rc42 .busy none))), (marksR (D41 :: [])), G43, (blk b48 104 (ints ((allowedF R rs).getD q []))), (blk bx32 97 [(bptr bj 0)]), (blk b19 4 [(Value.bool false)]), (blk b14 104 (ints ((allowedF R rs).getD q []))), (blk b9 104 (ints ((allowedF R rs).getD q []))), (blk b4 58 [vp]), (rob bj 119 [vr, vu, (Value.map (some bm))]), (sl vr 2 R.length (pairs R)), (sl vu 3 rs.length (vtrips (runV lv rs))), (segsR false lv rs), (sl vp 3 plan.length (trips plan))] := hS139; clear hS139 hS136
   refine wl_nil ?_
   refine blk_n ?_
   have hS142 : Sep (fun b => b = bm) w w138 [(obR l40 (.loop (rc42 .busy none))), (marksR (D41 :: [])), G43, (blk bx32 97 [(bptr bj 0)]), (blk b19 4 [(Value.bool false)]), (blk b14 104 (ints ((allowedF R rs).getD q []))), (blk b9 104 (ints ((allowedF R rs).getD q []))), (blk b4 58 [vp]), (rob bj 119 [vr, vu, (Value.map (some bm))]), (sl vr 2 R.length (pairs R)), (sl vu 3 rs.length (vtrips (runV lv rs))), (segsR false lv rs), (sl vp 3 plan.length (trips plan))] := hS141.keep [2, 3, 4, 6, 7, 8, 9, 10, 11, 12, 13, 14, 15] (by decide) _ rfl rfl; clear hS141
   exact re_n ⟨_, rfl, rfl⟩ (((hS142.blk_say (i := 6) rfl (cs' := ints (leastF plan (allowedF R rs) (q + 1))) (congrArg ints (by first | exact (least_a (by assumption)).symm | exact (least_b (by assumption)).symm | exact (least_c (by assumption) (by assumption)).symm))).blk_say (i := 5) rfl (cs' := ints (mostF plan (allowedF R rs) (q + 1))) (congrArg ints (by first | exact (most_a (by assumption)).symm | exact (most_b (by assumption)).symm | exact (most_c (by assumption) (by assumption)).symm))).blk_say (i := 4) rfl (cs' := [Value.bool (decide (q + 1 = 0))]) (by rw [decide_eq_false (Nat.succ_ne_zero q)]))
  ·skip
   have hA143 := hA75.as [(8, (bptr b69 0)), (7, (bptr b48 0)), (6, (bptr b19 0)), (5, (bptr b14 0)), (4, (bptr b9 0)), (3, (bptr b4 0))] rfl; clear hA75
   refine c_drawn mixed hA143 hS74 8 [[], [0], [1], [1, 2], [1], [1], [1, 4, 5], [1, 6]] [(Yd.val (Value.bool false)), (Yd.val (Value.bool false)), (Yd.val (bptr b69 0)), (Yd.val (Value.int .i64 (stLo plan ((allowedF R rs).getD q [])))), (Yd.val vp), (Yd.val (Value.agg (ints (leastF plan (allowedF R rs) q)).toArray)), (Yd.val (Value.agg #[(Value.int .i64 (stLo plan (leastF plan (allowedF R rs) q))), (Value.int .i64 (stHi plan (leastF plan (allowedF R rs) q)))])), (Yd.val (Value.int .i64 (stLo plan (leastF plan (allowedF R rs) q))))] (by decide +kernel) rfl rfl ?_ ?_
   ·skip
    refine ⟨fun a w hA hS hd => by exact opG_of rfl (dv (op_load1 rfl ty_4 (hA.ev rfl) (hS.bk 6 rfl) rfl) hS (by show Value.bool _ = _; simp only [hb77, decide_true, decide_false, Bool.not_true, Bool.not_false])), ?_⟩
    refine ⟨fun a w hA hS hd => by have e0 := has_ev (hd 0 (by decide)) rfl (fun _ h => h); exact opG_of rfl (dv (op_move rfl (tmp_ev e0)) hS rfl), ?_⟩
    refine ⟨fun a w hA hS hd => by have e1 := has_ev (hd 1 (by decide)) rfl (fun _ h => h); exact opG_yes rfl rfl e1 (dv (op_field rfl fd_42_0 (hA.ev rfl)) hS rfl), ?_⟩
    refine ⟨fun a w hA hS hd => by have e1 := has_ev (hd 1 (by decide)) rfl (fun _ h => h); have e2 := has_ev (hd 2 (by decide)) rfl (fun _ h => h); exact opG_yes rfl rfl e1 (dv (op_load1 rfl ty_3 (tmp_ev e2) (hS.bk 0 rfl) rfl) hS rfl), ?_⟩
    refine ⟨fun a w hA hS hd => by have e1 := has_ev (hd 1 (by decide)) rfl (fun _ h => h); exact opG_yes rfl rfl e1 (dv (op_load1 rfl ty_58 (hA.ev rfl) (hS.bk 9 rfl) rfl) hS rfl), ?_⟩
    refine ⟨fun a w hA hS hd => by have e1 := has_ev (hd 1 (by decide)) rfl (fun _ h => h); exact opG_yes rfl rfl e1 (dv (op_loadA rfl ty_104 (hA.ev rfl) (hS.bk 8 rfl) (l := (ints (leastF plan (allowedF R rs) q))) (drop_take_all _ _ (by rw [ints, List.length_map]; exact (least_rates (fun k hk => (allowed_rates hR hk).1) _ (by omega)).1)) (by rw [ints, List.length_map]; exact (least_rates (fun k hk => (allowed_rates hR hk).1) _ (by omega)).1)) hS rfl), ?_⟩
    refine ⟨fun a w hA hS hd => by have e1 := has_ev (hd 1 (by decide)) rfl (fun _ h => h); have e4 := has_ev (hd 4 (by decide)) rfl (fun _ h => h); have e5 := has_ev (hd 5 (by decide)) rfl (fun _ h => h); exact opG_yes rfl rfl e1 (dx (op_call rfl en_60 (ev2 (tmp_ev e4) (tmp_ev e5)) (stretch_ok plan _ (leastF plan (allowedF R rs) q) R.length _ (by omega) hR.1 (least_rates (fun k hk => (allowed_rates hR hk).1) q (by omega)) hs (hS.sk 14 rfl))) hS (fun _ => rfl)), ?_⟩
    refine ⟨fun a w hA hS hd => by have e1 := has_ev (hd 1 (by decide)) rfl (fun _ h => h); have e6 := has_ev (hd 6 (by decide)) rfl (fun _ h => h); exact opG_yes rfl rfl e1 (dv (op_fieldV rfl (tmp_ev e6) (bd_fv_42_0_i64i64 _ _)) hS rfl), ?_⟩
    trivial
   intro a145 w146 hA147 hS148 hH149; clear hA143 hS74
   have hA150 := hA147.add (has_ev (hH149 1 (by decide)) rfl (fun _ h => h)); clear hA147
   have hA151 := hA150.add (has_ev (hH149 3 (by decide)) rfl (fun _ h => h)); clear hA150
   have hA152 := hA151.add (has_ev (hH149 7 (by decide)) rfl (fun _ h => h)); clear hA151
   clear hH149
   refine stg hA152 (op_lss rfl (hA152.ev rfl) (hA152.ev rfl)) rfl rfl rfl rfl (by decide) fun a153 hA154 => ?_; clear hA152 a145
   refine st hA154 (op_pick_f rfl (hA154.ev rfl) (hA154.ev rfl)) rfl rfl (by decide) fun a155 hA156 => ?_; clear hA154 a153
   refine wl_nil ?_
   refine then_n ?_
   by_cases hb157 : (stLo plan ((allowedF R rs).getD q [])) < (stLo plan (leastF plan (allowedF R rs) q))
   ·skip
    rw [decide_eq_true hb157] at hA156
    refine c_true hA156 rfl ?_
    have hA158 := hA156.as [(7, (bptr b48 0)), (6, (bptr b19 0)), (5, (bptr b14 0)), (4, (bptr b9 0)), (3, (bptr b4 0))] rfl; clear hA156
    refine c_region ?_
    refine st hA158 (op_loadA rfl ty_104 (hA158.ev rfl) (hS148.bk 4 rfl) (l := (ints ((allowedF R rs).getD q []))) (drop_take_all _ _ (allowed_len3 hR hq).symm) (allowed_len3 hR hq).symm) rfl rfl (by decide) fun a159 hA160 => ?_; clear hA158 a155
    refine sts hA160 (op_store hS148 rfl ty_104 (hA160.ev rfl) (hA160.ev rfl) (i := 8) rfl (vs := (ints ((allowedF R rs).getD q []))) rfl (allowed_len3 hR hq).symm (ints_one _) (by first | (simp only [ints, List.length_map, List.length_set]; omega) | (have h2_ := (show (ints (leastF plan (allowedF R rs) q)).length = 3 from (by rw [ints, List.length_map]; exact (least_rates (fun k hk => (allowed_rates hR hk).1) _ (by omega)).1)); omega))) rfl rfl ?_
    intro _ w161 hS162 hA164; have hS163 := hS162.blk_say (i := 8) rfl (cs' := (ints ((allowedF R rs).getD q []))) (setFrom_all _ _ (by first | (simp only [ints, List.length_map, List.length_set]; omega) | (have h1_ := (show (ints ((allowedF R rs).getD q [])).length = 3 from (allowed_len3 hR hq).symm); have h2_ := (show (ints (leastF plan (allowedF R rs) q)).length = 3 from (by rw [ints, List.length_map]; exact (least_rates (fun k hk => (allowed_rates hR hk).1) _ (by omega)).1)); omega))); clear hS162 hA160 hS148
    refine wl_nil ?_
    refine then_n ?_
    refine c_seq ?_
    refine c_seq ?_
    refine c_region ?_
    refine st hA164 (op_load1 rfl ty_58 (hA164.ev rfl) (hS163.bk 9 rfl) rfl) rfl rfl (by decide) fun a165 hA166 => ?_; clear hA164 a159
    refine st hA166 (op_loadA rfl ty_104 (hA166.ev rfl) (hS163.bk 4 rfl) (l := (ints ((allowedF R rs).getD q []))) (drop_take_all _ _ (allowed_len3 hR hq).symm) (allowed_len3 hR hq).symm) rfl rfl (by decide) fun a167 hA168 => ?_; clear hA166 a165
    refine stw hA168 (op_call rfl en_60 (ev2 (hA168.ev rfl) (hA168.ev rfl)) (stretch_ok plan _ ((allowedF R rs).getD q []) R.length _ (by omega) hR.1 (allowed_rates hR hq).1 hs (hS163.sk 14 rfl))) rfl rfl (by decide) ?_
    rintro a169 _ w171 ⟨rfl, hE172⟩ hA170; have hS173 := hS163.step hE172; clear hE172 hA168 hS163 a167
    refine stw hA170 (op_alloc hS173 rfl ze_42 (cs := [(Value.int .i64 0), (Value.int .i64 0)]) rfl) rfl rfl (by decide) ?_
    rintro a174 _ w176 ⟨b177, rfl, hS178⟩ hA175; clear hA170 hS173 a169
    refine sts hA175 (op_store hS178 rfl ty_42 (hA175.ev rfl) (hA175.ev rfl) (i := 0) rfl (vs := [(Value.int .i64 (stLo plan ((allowedF R rs).getD q []))), (Value.int .i64 (stHi plan ((allowedF R rs).getD q [])))]) rfl rfl rfl (Nat.le_of_ble_eq_true rfl)) rfl rfl ?_
    intro _ w179 hS180 hA181; clear hA175
    have hS182 : Sep (fun b => b = bm) w w179 [(blk b177 42 [(Value.int .i64 (stLo plan ((allowedF R rs).getD q []))), (Value.int .i64 (stHi plan ((allowedF R rs).getD q [])))]), (blk b69 42 [(Value.int .i64 (stLo plan ((allowedF R rs).getD q []))), (Value.int .i64 (stHi plan ((allowedF R rs).getD q [])))]), (obR l40 (.loop (rc42 .busy none))), (marksR (D41 :: [])), G43, (blk b48 104 (ints ((allowedF R rs).getD q []))), (blk bx32 97 [(bptr bj 0)]), (blk b19 4 [(Value.bool (decide (q = 0)))]), (blk b14 104 (ints (mostF plan (allowedF R rs) q))), (blk b9 104 (ints ((allowedF R rs).getD q []))), (blk b4 58 [vp]), (rob bj 119 [vr, vu, (Value.map (some bm))]), (sl vr 2 R.length (pairs R)), (sl vu 3 rs.length (vtrips (runV lv rs))), (segsR false lv rs), (sl vp 3 plan.length (trips plan))] := hS180; clear hS180 hS178
    refine wl_nil ?_
    refine then_n ?_
    refine c_seq ?_
    have hA183 := hA181.as [(9, (bptr b177 0)), (7, (bptr b48 0)), (6, (bptr b19 0)), (5, (bptr b14 0)), (3, (bptr b4 0))] rfl; clear hA181
    refine c_drawn mixed hA183 hS182 8 [[], [0], [1], [1, 2], [1], [1], [1, 4, 5], [1, 6]] [(Yd.val (Value.bool false)), (Yd.val (Value.bool false)), (Yd.val (bptr b177 1)), (Yd.val (Value.int .i64 (stHi plan ((allowedF R rs).getD q [])))), (Yd.val vp), (Yd.val (Value.agg (ints (mostF plan (allowedF R rs) q)).toArray)), (Yd.val (Value.agg #[(Value.int .i64 (stLo plan (mostF plan (allowedF R rs) q))), (Value.int .i64 (stHi plan (mostF plan (allowedF R rs) q)))])), (Yd.val (Value.int .i64 (stHi plan (mostF plan (allowedF R rs) q))))] (by decide +kernel) rfl rfl ?_ ?_
    ·skip
     refine ⟨fun a w hA hS hd => by exact opG_of rfl (dv (op_load1 rfl ty_4 (hA.ev rfl) (hS.bk 7 rfl) rfl) hS (by show Value.bool _ = _; simp only [hb77, decide_true, decide_false, Bool.not_true, Bool.not_false])), ?_⟩
     refine ⟨fun a w hA hS hd => by have e0 := has_ev (hd 0 (by decide)) rfl (fun _ h => h); exact opG_of rfl (dv (op_move rfl (tmp_ev e0)) hS rfl), ?_⟩
     refine ⟨fun a w hA hS hd => by have e1 := has_ev (hd 1 (by decide)) rfl (fun _ h => h); exact opG_yes rfl rfl e1 (dv (op_field rfl fd_42_1 (hA.ev rfl)) hS rfl), ?_⟩
     refine ⟨fun a w hA hS hd => by have e1 := has_ev (hd 1 (by decide)) rfl (fun _ h => h); have e2 := has_ev (hd 2 (by decide)) rfl (fun _ h => h); exact opG_yes rfl rfl e1 (dv (op_load1 rfl ty_3 (tmp_ev e2) (hS.bk 0 rfl) rfl) hS rfl), ?_⟩
     refine ⟨fun a w hA hS hd => by have e1 := has_ev (hd 1 (by decide)) rfl (fun _ h => h); exact opG_yes rfl rfl e1 (dv (op_load1 rfl ty_58 (hA.ev rfl) (hS.bk 10 rfl) rfl) hS rfl), ?_⟩
     refine ⟨fun a w hA hS hd => by have e1 := has_ev (hd 1 (by decide)) rfl (fun _ h => h); exact opG_yes rfl rfl e1 (dv (op_loadA rfl ty_104 (hA.ev rfl) (hS.bk 8 rfl) (l := (ints (mostF plan (allowedF R rs) q))) (drop_take_all _ _ (by rw [ints, List.length_map]; exact (most_rates (fun k hk => (allowed_rates hR hk).1) _ (by omega)).1)) (by rw [ints, List.length_map]; exact (most_rates (fun k hk => (allowed_rates hR hk).1) _ (by omega)).1)) hS rfl), ?_⟩
     refine ⟨fun a w hA hS hd => by have e1 := has_ev (hd 1 (by decide)) rfl (fun _ h => h); have e4 := has_ev (hd 4 (by decide)) rfl (fun _ h => h); have e5 := has_ev (hd 5 (by decide)) rfl (fun _ h => h); exact opG_yes rfl rfl e1 (dx (op_call rfl en_60 (ev2 (tmp_ev e4) (tmp_ev e5)) (stretch_ok plan _ (mostF plan (allowedF R rs) q) R.length _ (by omega) hR.1 (most_rates (fun k hk => (allowed_rates hR hk).1) q (by omega)) hs (hS.sk 15 rfl))) hS (fun _ => rfl)), ?_⟩
     refine ⟨fun a w hA hS hd => by have e1 := has_ev (hd 1 (by decide)) rfl (fun _ h => h); have e6 := has_ev (hd 6 (by decide)) rfl (fun _ h => h); exact opG_yes rfl rfl e1 (dv (op_fieldV rfl (tmp_ev e6) (bd_fv_42_1_i64i64 _ _)) hS rfl), ?_⟩
     trivial
    intro a185 w186 hA187 hS188 hH189; clear hA183 hS182
    have hA190 := hA187.add (has_ev (hH189 1 (by decide)) rfl (fun _ h => h)); clear hA187
    have hA191 := hA190.add (has_ev (hH189 3 (by decide)) rfl (fun _ h => h)); clear hA190
    have hA192 := hA191.add (has_ev (hH189 7 (by decide)) rfl (fun _ h => h)); clear hA191
    clear hH189
    refine stg hA192 (op_gtr rfl (hA192.ev rfl) (hA192.ev rfl)) rfl rfl rfl rfl (by decide) fun a193 hA194 => ?_; clear hA192 a185
    refine st hA194 (op_pick_f rfl (hA194.ev rfl) (hA194.ev rfl)) rfl rfl (by decide) fun a195 hA196 => ?_; clear hA194 a193
    refine wl_nil ?_
    refine then_n ?_
    by_cases hb197 : (stHi plan (mostF plan (allowedF R rs) q)) < (stHi plan ((allowedF R rs).getD q []))
    ·skip
     rw [decide_eq_true hb197] at hA196
     refine c_true hA196 rfl ?_
     have hA198 := hA196.as [(7, (bptr b48 0)), (6, (bptr b19 0)), (5, (bptr b14 0))] rfl; clear hA196
     refine c_region ?_
     refine st hA198 (op_loadA rfl ty_104 (hA198.ev rfl) (hS188.bk 5 rfl) (l := (ints ((allowedF R rs).getD q []))) (drop_take_all _ _ (allowed_len3 hR hq).symm) (allowed_len3 hR hq).symm) rfl rfl (by decide) fun a199 hA200 => ?_; clear hA198 a195
     refine sts hA200 (op_store hS188 rfl ty_104 (hA200.ev rfl) (hA200.ev rfl) (i := 8) rfl (vs := (ints ((allowedF R rs).getD q []))) rfl (allowed_len3 hR hq).symm (ints_one _) (by first | (simp only [ints, List.length_map, List.length_set]; omega) | (have h2_ := (show (ints (mostF plan (allowedF R rs) q)).length = 3 from (by rw [ints, List.length_map]; exact (most_rates (fun k hk => (allowed_rates hR hk).1) _ (by omega)).1)); omega))) rfl rfl ?_
     intro _ w201 hS202 hA204; have hS203 := hS202.blk_say (i := 8) rfl (cs' := (ints ((allowedF R rs).getD q []))) (setFrom_all _ _ (by first | (simp only [ints, List.length_map, List.length_set]; omega) | (have h1_ := (show (ints ((allowedF R rs).getD q [])).length = 3 from (allowed_len3 hR hq).symm); have h2_ := (show (ints (mostF plan (allowedF R rs) q)).length = 3 from (by rw [ints, List.length_map]; exact (most_rates (fun k hk => (allowed_rates hR hk).1) _ (by omega)).1)); omega))); clear hS202 hA200 hS188
     refine wl_nil ?_
     refine then_n ?_
     refine c_region ?_
     refine sts hA204 (op_store hS203 rfl ty_4 (hA204.ev rfl) (evc _ _) (i := 7) rfl (vs := [(Value.bool false)]) rfl rfl rfl (Nat.le_of_ble_eq_true rfl)) rfl rfl ?_
     intro _ w205 hS206 hA207; clear hA204
     have hS208 : Sep (fun b => b = bm) w w205 [(blk b177 42 [(Value.int .i64 (stLo plan ((allowedF R rs).getD q []))), (Value.int .i64 (stHi plan ((allowedF R rs).getD q [])))]), (blk b69 42 [(Value.int .i64 (stLo plan ((allowedF R rs).getD q []))), (Value.int .i64 (stHi plan ((allowedF R rs).getD q [])))]), (obR l40 (.loop (rc42 .busy none))), (marksR (D41 :: [])), G43, (blk b48 104 (ints ((allowedF R rs).getD q []))), (blk bx32 97 [(bptr bj 0)]), (blk b19 4 [(Value.bool false)]), (blk b14 104 (ints ((allowedF R rs).getD q []))), (blk b9 104 (ints ((allowedF R rs).getD q []))), (blk b4 58 [vp]), (rob bj 119 [vr, vu, (Value.map (some bm))]), (sl vr 2 R.length (pairs R)), (sl vu 3 rs.length (vtrips (runV lv rs))), (segsR false lv rs), (sl vp 3 plan.length (trips plan))] := hS206; clear hS206 hS203
     refine wl_nil ?_
     refine blk_n ?_
     have hS209 : Sep (fun b => b = bm) w w205 [(obR l40 (.loop (rc42 .busy none))), (marksR (D41 :: [])), G43, (blk bx32 97 [(bptr bj 0)]), (blk b19 4 [(Value.bool false)]), (blk b14 104 (ints ((allowedF R rs).getD q []))), (blk b9 104 (ints ((allowedF R rs).getD q []))), (blk b4 58 [vp]), (rob bj 119 [vr, vu, (Value.map (some bm))]), (sl vr 2 R.length (pairs R)), (sl vu 3 rs.length (vtrips (runV lv rs))), (segsR false lv rs), (sl vp 3 plan.length (trips plan))] := hS208.keep [2, 3, 4, 6, 7, 8, 9, 10, 11, 12, 13, 14, 15] (by decide) _ rfl rfl; clear hS208
     exact re_n ⟨_, rfl, rfl⟩ (((hS209.blk_say (i := 6) rfl (cs' := ints (leastF plan (allowedF R rs) (q + 1))) (congrArg ints (by first | exact (least_a (by assumption)).symm | exact (least_b (by assumption)).symm | exact (least_c (by assumption) (by assumption)).symm))).blk_say (i := 5) rfl (cs' := ints (mostF plan (allowedF R rs) (q + 1))) (congrArg ints (by first | exact (most_a (by assumption)).symm | exact (most_b (by assumption)).symm | exact (most_c (by assumption) (by assumption)).symm))).blk_say (i := 4) rfl (cs' := [Value.bool (decide (q + 1 = 0))]) (by rw [decide_eq_false (Nat.succ_ne_zero q)]))
    ·skip
     rw [decide_eq_false hb197] at hA196
     refine c_false hA196 rfl ?_
     refine c_skip ?_
     refine then_n ?_
     have hA210 := hA196.as [(6, (bptr b19 0))] rfl; clear hA196
     refine c_region ?_
     refine sts hA210 (op_store hS188 rfl ty_4 (hA210.ev rfl) (evc _ _) (i := 7) rfl (vs := [(Value.bool false)]) rfl rfl rfl (Nat.le_of_ble_eq_true rfl)) rfl rfl ?_
     intro _ w211 hS212 hA213; clear hA210
     have hS214 : Sep (fun b => b = bm) w w211 [(blk b177 42 [(Value.int .i64 (stLo plan ((allowedF R rs).getD q []))), (Value.int .i64 (stHi plan ((allowedF R rs).getD q [])))]), (blk b69 42 [(Value.int .i64 (stLo plan ((allowedF R rs).getD q []))), (Value.int .i64 (stHi plan ((allowedF R rs).getD q [])))]), (obR l40 (.loop (rc42 .busy none))), (marksR (D41 :: [])), G43, (blk b48 104 (ints ((allowedF R rs).getD q []))), (blk bx32 97 [(bptr bj 0)]), (blk b19 4 [(Value.bool false)]), (blk b14 104 (ints (mostF plan (allowedF R rs) q))), (blk b9 104 (ints ((allowedF R rs).getD q []))), (blk b4 58 [vp]), (rob bj 119 [vr, vu, (Value.map (some bm))]), (sl vr 2 R.length (pairs R)), (sl vu 3 rs.length (vtrips (runV lv rs))), (segsR false lv rs), (sl vp 3 plan.length (trips plan))] := hS212; clear hS212 hS188
     refine wl_nil ?_
     refine blk_n ?_
     have hS215 : Sep (fun b => b = bm) w w211 [(obR l40 (.loop (rc42 .busy none))), (marksR (D41 :: [])), G43, (blk bx32 97 [(bptr bj 0)]), (blk b19 4 [(Value.bool false)]), (blk b14 104 (ints (mostF plan (allowedF R rs) q))), (blk b9 104 (ints ((allowedF R rs).getD q []))), (blk b4 58 [vp]), (rob bj 119 [vr, vu, (Value.map (some bm))]), (sl vr 2 R.length (pairs R)), (sl vu 3 rs.length (vtrips (runV lv rs))), (segsR false lv rs), (sl vp 3 plan.length (trips plan))] := hS214.keep [2, 3, 4, 6, 7, 8, 9, 10, 11, 12, 13, 14, 15] (by decide) _ rfl rfl; clear hS214
     exact re_n ⟨_, rfl, rfl⟩ (((hS215.blk_say (i := 6) rfl (cs' := ints (leastF plan (allowedF R rs) (q + 1))) (congrArg ints (by first | exact (least_a (by assumption)).symm | exact (least_b (by assumption)).symm | exact (least_c (by assumption) (by assumption)).symm))).blk_say (i := 5) rfl (cs' := ints (mostF plan (allowedF R rs) (q + 1))) (congrArg ints (by first | exact (most_a (by assumption)).symm | exact (most_b (by assumption)).symm | exact (most_c (by assumption) (by assumption)).symm))).blk_say (i := 4) rfl (cs' := [Value.bool (decide (q + 1 = 0))]) (by rw [decide_eq_false (Nat.succ_ne_zero q)]))
   ·skip
    rw [decide_eq_false hb157] at hA156
    refine c_false hA156 rfl ?_
    refine c_skip ?_
    refine then_n ?_
    refine c_seq ?_
    refine c_seq ?_
    have hA216 := hA156.as [(7, (bptr b48 0)), (6, (bptr b19 0)), (5, (bptr b14 0)), (3, (bptr b4 0))] rfl; clear hA156
    refine c_region ?_
    refine st hA216 (op_load1 rfl ty_58 (hA216.ev rfl) (hS148.bk 9 rfl) rfl) rfl rfl (by decide) fun a217 hA218 => ?_; clear hA216 a155
    refine st hA218 (op_loadA rfl ty_104 (hA218.ev rfl) (hS148.bk 4 rfl) (l := (ints ((allowedF R rs).getD q []))) (drop_take_all _ _ (allowed_len3 hR hq).symm) (allowed_len3 hR hq).symm) rfl rfl (by decide) fun a219 hA220 => ?_; clear hA218 a217
    refine stw hA220 (op_call rfl en_60 (ev2 (hA220.ev rfl) (hA220.ev rfl)) (stretch_ok plan _ ((allowedF R rs).getD q []) R.length _ (by omega) hR.1 (allowed_rates hR hq).1 hs (hS148.sk 14 rfl))) rfl rfl (by decide) ?_
    rintro a221 _ w223 ⟨rfl, hE224⟩ hA222; have hS225 := hS148.step hE224; clear hE224 hA220 hS148 a219
    refine stw hA222 (op_alloc hS225 rfl ze_42 (cs := [(Value.int .i64 0), (Value.int .i64 0)]) rfl) rfl rfl (by decide) ?_
    rintro a226 _ w228 ⟨b229, rfl, hS230⟩ hA227; clear hA222 hS225 a221
    refine sts hA227 (op_store hS230 rfl ty_42 (hA227.ev rfl) (hA227.ev rfl) (i := 0) rfl (vs := [(Value.int .i64 (stLo plan ((allowedF R rs).getD q []))), (Value.int .i64 (stHi plan ((allowedF R rs).getD q [])))]) rfl rfl rfl (Nat.le_of_ble_eq_true rfl)) rfl rfl ?_
    intro _ w231 hS232 hA233; clear hA227
    have hS234 : Sep (fun b => b = bm) w w231 [(blk b229 42 [(Value.int .i64 (stLo plan ((allowedF R rs).getD q []))), (Value.int .i64 (stHi plan ((allowedF R rs).getD q [])))]), (blk b69 42 [(Value.int .i64 (stLo plan ((allowedF R rs).getD q []))), (Value.int .i64 (stHi plan ((allowedF R rs).getD q [])))]), (obR l40 (.loop (rc42 .busy none))), (marksR (D41 :: [])), G43, (blk b48 104 (ints ((allowedF R rs).getD q []))), (blk bx32 97 [(bptr bj 0)]), (blk b19 4 [(Value.bool (decide (q = 0)))]), (blk b14 104 (ints (mostF plan (allowedF R rs) q))), (blk b9 104 (ints (leastF plan (allowedF R rs) q))), (blk b4 58 [vp]), (rob bj 119 [vr, vu, (Value.map (some bm))]), (sl vr 2 R.length (pairs R)), (sl vu 3 rs.length (vtrips (runV lv rs))), (segsR false lv rs), (sl vp 3 plan.length (trips plan))] := hS232; clear hS232 hS230
    refine wl_nil ?_
    refine then_n ?_
    refine c_seq ?_
    have hA235 := hA233.as [(9, (bptr b229 0)), (7, (bptr b48 0)), (6, (bptr b19 0)), (5, (bptr b14 0)), (3, (bptr b4 0))] rfl; clear hA233
    refine c_drawn mixed hA235 hS234 8 [[], [0], [1], [1, 2], [1], [1], [1, 4, 5], [1, 6]] [(Yd.val (Value.bool false)), (Yd.val (Value.bool false)), (Yd.val (bptr b229 1)), (Yd.val (Value.int .i64 (stHi plan ((allowedF R rs).getD q [])))), (Yd.val vp), (Yd.val (Value.agg (ints (mostF plan (allowedF R rs) q)).toArray)), (Yd.val (Value.agg #[(Value.int .i64 (stLo plan (mostF plan (allowedF R rs) q))), (Value.int .i64 (stHi plan (mostF plan (allowedF R rs) q)))])), (Yd.val (Value.int .i64 (stHi plan (mostF plan (allowedF R rs) q))))] (by decide +kernel) rfl rfl ?_ ?_
    ·skip
     refine ⟨fun a w hA hS hd => by exact opG_of rfl (dv (op_load1 rfl ty_4 (hA.ev rfl) (hS.bk 7 rfl) rfl) hS (by show Value.bool _ = _; simp only [hb77, decide_true, decide_false, Bool.not_true, Bool.not_false])), ?_⟩
     refine ⟨fun a w hA hS hd => by have e0 := has_ev (hd 0 (by decide)) rfl (fun _ h => h); exact opG_of rfl (dv (op_move rfl (tmp_ev e0)) hS rfl), ?_⟩
     refine ⟨fun a w hA hS hd => by have e1 := has_ev (hd 1 (by decide)) rfl (fun _ h => h); exact opG_yes rfl rfl e1 (dv (op_field rfl fd_42_1 (hA.ev rfl)) hS rfl), ?_⟩
     refine ⟨fun a w hA hS hd => by have e1 := has_ev (hd 1 (by decide)) rfl (fun _ h => h); have e2 := has_ev (hd 2 (by decide)) rfl (fun _ h => h); exact opG_yes rfl rfl e1 (dv (op_load1 rfl ty_3 (tmp_ev e2) (hS.bk 0 rfl) rfl) hS rfl), ?_⟩
     refine ⟨fun a w hA hS hd => by have e1 := has_ev (hd 1 (by decide)) rfl (fun _ h => h); exact opG_yes rfl rfl e1 (dv (op_load1 rfl ty_58 (hA.ev rfl) (hS.bk 10 rfl) rfl) hS rfl), ?_⟩
     refine ⟨fun a w hA hS hd => by have e1 := has_ev (hd 1 (by decide)) rfl (fun _ h => h); exact opG_yes rfl rfl e1 (dv (op_loadA rfl ty_104 (hA.ev rfl) (hS.bk 8 rfl) (l := (ints (mostF plan (allowedF R rs) q))) (drop_take_all _ _ (by rw [ints, List.length_map]; exact (most_rates (fun k hk => (allowed_rates hR hk).1) _ (by omega)).1)) (by rw [ints, List.length_map]; exact (most_rates (fun k hk => (allowed_rates hR hk).1) _ (by omega)).1)) hS rfl), ?_⟩
     refine ⟨fun a w hA hS hd => by have e1 := has_ev (hd 1 (by decide)) rfl (fun _ h => h); have e4 := has_ev (hd 4 (by decide)) rfl (fun _ h => h); have e5 := has_ev (hd 5 (by decide)) rfl (fun _ h => h); exact opG_yes rfl rfl e1 (dx (op_call rfl en_60 (ev2 (tmp_ev e4) (tmp_ev e5)) (stretch_ok plan _ (mostF plan (allowedF R rs) q) R.length _ (by omega) hR.1 (most_rates (fun k hk => (allowed_rates hR hk).1) q (by omega)) hs (hS.sk 15 rfl))) hS (fun _ => rfl)), ?_⟩
     refine ⟨fun a w hA hS hd => by have e1 := has_ev (hd 1 (by decide)) rfl (fun _ h => h); have e6 := has_ev (hd 6 (by decide)) rfl (fun _ h => h); exact opG_yes rfl rfl e1 (dv (op_fieldV rfl (tmp_ev e6) (bd_fv_42_1_i64i64 _ _)) hS rfl), ?_⟩
     trivial
    intro a237 w238 hA239 hS240 hH241; clear hA235 hS234
    have hA242 := hA239.add (has_ev (hH241 1 (by decide)) rfl (fun _ h => h)); clear hA239
    have hA243 := hA242.add (has_ev (hH241 3 (by decide)) rfl (fun _ h => h)); clear hA242
    have hA244 := hA243.add (has_ev (hH241 7 (by decide)) rfl (fun _ h => h)); clear hA243
    clear hH241
    refine stg hA244 (op_gtr rfl (hA244.ev rfl) (hA244.ev rfl)) rfl rfl rfl rfl (by decide) fun a245 hA246 => ?_; clear hA244 a237
    refine st hA246 (op_pick_f rfl (hA246.ev rfl) (hA246.ev rfl)) rfl rfl (by decide) fun a247 hA248 => ?_; clear hA246 a245
    refine wl_nil ?_
    refine then_n ?_
    by_cases hb249 : (stHi plan (mostF plan (allowedF R rs) q)) < (stHi plan ((allowedF R rs).getD q []))
    ·skip
     rw [decide_eq_true hb249] at hA248
     refine c_true hA248 rfl ?_
     have hA250 := hA248.as [(7, (bptr b48 0)), (6, (bptr b19 0)), (5, (bptr b14 0))] rfl; clear hA248
     refine c_region ?_
     refine st hA250 (op_loadA rfl ty_104 (hA250.ev rfl) (hS240.bk 5 rfl) (l := (ints ((allowedF R rs).getD q []))) (drop_take_all _ _ (allowed_len3 hR hq).symm) (allowed_len3 hR hq).symm) rfl rfl (by decide) fun a251 hA252 => ?_; clear hA250 a247
     refine sts hA252 (op_store hS240 rfl ty_104 (hA252.ev rfl) (hA252.ev rfl) (i := 8) rfl (vs := (ints ((allowedF R rs).getD q []))) rfl (allowed_len3 hR hq).symm (ints_one _) (by first | (simp only [ints, List.length_map, List.length_set]; omega) | (have h2_ := (show (ints (mostF plan (allowedF R rs) q)).length = 3 from (by rw [ints, List.length_map]; exact (most_rates (fun k hk => (allowed_rates hR hk).1) _ (by omega)).1)); omega))) rfl rfl ?_
     intro _ w253 hS254 hA256; have hS255 := hS254.blk_say (i := 8) rfl (cs' := (ints ((allowedF R rs).getD q []))) (setFrom_all _ _ (by first | (simp only [ints, List.length_map, List.length_set]; omega) | (have h1_ := (show (ints ((allowedF R rs).getD q [])).length = 3 from (allowed_len3 hR hq).symm); have h2_ := (show (ints (mostF plan (allowedF R rs) q)).length = 3 from (by rw [ints, List.length_map]; exact (most_rates (fun k hk => (allowed_rates hR hk).1) _ (by omega)).1)); omega))); clear hS254 hA252 hS240
     refine wl_nil ?_
     refine then_n ?_
     refine c_region ?_
     refine sts hA256 (op_store hS255 rfl ty_4 (hA256.ev rfl) (evc _ _) (i := 7) rfl (vs := [(Value.bool false)]) rfl rfl rfl (Nat.le_of_ble_eq_true rfl)) rfl rfl ?_
     intro _ w257 hS258 hA259; clear hA256
     have hS260 : Sep (fun b => b = bm) w w257 [(blk b229 42 [(Value.int .i64 (stLo plan ((allowedF R rs).getD q []))), (Value.int .i64 (stHi plan ((allowedF R rs).getD q [])))]), (blk b69 42 [(Value.int .i64 (stLo plan ((allowedF R rs).getD q []))), (Value.int .i64 (stHi plan ((allowedF R rs).getD q [])))]), (obR l40 (.loop (rc42 .busy none))), (marksR (D41 :: [])), G43, (blk b48 104 (ints ((allowedF R rs).getD q []))), (blk bx32 97 [(bptr bj 0)]), (blk b19 4 [(Value.bool false)]), (blk b14 104 (ints ((allowedF R rs).getD q []))), (blk b9 104 (ints (leastF plan (allowedF R rs) q))), (blk b4 58 [vp]), (rob bj 119 [vr, vu, (Value.map (some bm))]), (sl vr 2 R.length (pairs R)), (sl vu 3 rs.length (vtrips (runV lv rs))), (segsR false lv rs), (sl vp 3 plan.length (trips plan))] := hS258; clear hS258 hS255
     refine wl_nil ?_
     refine blk_n ?_
     have hS261 : Sep (fun b => b = bm) w w257 [(obR l40 (.loop (rc42 .busy none))), (marksR (D41 :: [])), G43, (blk bx32 97 [(bptr bj 0)]), (blk b19 4 [(Value.bool false)]), (blk b14 104 (ints ((allowedF R rs).getD q []))), (blk b9 104 (ints (leastF plan (allowedF R rs) q))), (blk b4 58 [vp]), (rob bj 119 [vr, vu, (Value.map (some bm))]), (sl vr 2 R.length (pairs R)), (sl vu 3 rs.length (vtrips (runV lv rs))), (segsR false lv rs), (sl vp 3 plan.length (trips plan))] := hS260.keep [2, 3, 4, 6, 7, 8, 9, 10, 11, 12, 13, 14, 15] (by decide) _ rfl rfl; clear hS260
     exact re_n ⟨_, rfl, rfl⟩ (((hS261.blk_say (i := 6) rfl (cs' := ints (leastF plan (allowedF R rs) (q + 1))) (congrArg ints (by first | exact (least_a (by assumption)).symm | exact (least_b (by assumption)).symm | exact (least_c (by assumption) (by assumption)).symm))).blk_say (i := 5) rfl (cs' := ints (mostF plan (allowedF R rs) (q + 1))) (congrArg ints (by first | exact (most_a (by assumption)).symm | exact (most_b (by assumption)).symm | exact (most_c (by assumption) (by assumption)).symm))).blk_say (i := 4) rfl (cs' := [Value.bool (decide (q + 1 = 0))]) (by rw [decide_eq_false (Nat.succ_ne_zero q)]))
    ·skip
     rw [decide_eq_false hb249] at hA248
     refine c_false hA248 rfl ?_
     refine c_skip ?_
     refine then_n ?_
     have hA262 := hA248.as [(6, (bptr b19 0))] rfl; clear hA248
     refine c_region ?_
     refine sts hA262 (op_store hS240 rfl ty_4 (hA262.ev rfl) (evc _ _) (i := 7) rfl (vs := [(Value.bool false)]) rfl rfl rfl (Nat.le_of_ble_eq_true rfl)) rfl rfl ?_
     intro _ w263 hS264 hA265; clear hA262
     have hS266 : Sep (fun b => b = bm) w w263 [(blk b229 42 [(Value.int .i64 (stLo plan ((allowedF R rs).getD q []))), (Value.int .i64 (stHi plan ((allowedF R rs).getD q [])))]), (blk b69 42 [(Value.int .i64 (stLo plan ((allowedF R rs).getD q []))), (Value.int .i64 (stHi plan ((allowedF R rs).getD q [])))]), (obR l40 (.loop (rc42 .busy none))), (marksR (D41 :: [])), G43, (blk b48 104 (ints ((allowedF R rs).getD q []))), (blk bx32 97 [(bptr bj 0)]), (blk b19 4 [(Value.bool false)]), (blk b14 104 (ints (mostF plan (allowedF R rs) q))), (blk b9 104 (ints (leastF plan (allowedF R rs) q))), (blk b4 58 [vp]), (rob bj 119 [vr, vu, (Value.map (some bm))]), (sl vr 2 R.length (pairs R)), (sl vu 3 rs.length (vtrips (runV lv rs))), (segsR false lv rs), (sl vp 3 plan.length (trips plan))] := hS264; clear hS264 hS240
     refine wl_nil ?_
     refine blk_n ?_
     have hS267 : Sep (fun b => b = bm) w w263 [(obR l40 (.loop (rc42 .busy none))), (marksR (D41 :: [])), G43, (blk bx32 97 [(bptr bj 0)]), (blk b19 4 [(Value.bool false)]), (blk b14 104 (ints (mostF plan (allowedF R rs) q))), (blk b9 104 (ints (leastF plan (allowedF R rs) q))), (blk b4 58 [vp]), (rob bj 119 [vr, vu, (Value.map (some bm))]), (sl vr 2 R.length (pairs R)), (sl vu 3 rs.length (vtrips (runV lv rs))), (segsR false lv rs), (sl vp 3 plan.length (trips plan))] := hS266.keep [2, 3, 4, 6, 7, 8, 9, 10, 11, 12, 13, 14, 15] (by decide) _ rfl rfl; clear hS266
     exact re_n ⟨_, rfl, rfl⟩ (((hS267.blk_say (i := 6) rfl (cs' := ints (leastF plan (allowedF R rs) (q + 1))) (congrArg ints (by first | exact (least_a (by assumption)).symm | exact (least_b (by assumption)).symm | exact (least_c (by assumption) (by assumption)).symm))).blk_say (i := 5) rfl (cs' := ints (mostF plan (allowedF R rs) (q + 1))) (congrArg ints (by first | exact (most_a (by assumption)).symm | exact (most_b (by assumption)).symm | exact (most_c (by assumption) (by assumption)).symm))).blk_say (i := 4) rfl (cs' := [Value.bool (decide (q + 1 = 0))]) (by rw [decide_eq_false (Nat.succ_ne_zero q)]))
 intro L_ hL_ D272 a268 w269 hA271 hS270; obtain ⟨rfl⟩ := hL_; clear hA33 hS34
 refine blk_n ?_
 refine then_n ?_
 refine c_seq ?_
 have hA273 := hA271.as [(5, (bptr b14 0)), (4, (bptr b9 0))] rfl; clear hA271
 refine c_drawF mixed hA273 hS270 2 1 rfl rfl [[], []] [(fun (vs274 : Nat → Value) (v_ : Value) (rs_ : List Res) => v_ = (Value.agg (ints (leastF plan (allowedF R rs) (allowedF R rs).length)).toArray) ∧ rs_ = []), (fun (vs274 : Nat → Value) (v_ : Value) (rs_ : List Res) => v_ = (Value.agg (ints (mostF plan (allowedF R rs) (allowedF R rs).length)).toArray) ∧ rs_ = [])] (by decide +kernel) (by decide +kernel) (by decide +kernel) rfl rfl ⟨(fun _ _ _ _ _ h_ => h_), (fun _ _ _ _ _ h_ => h_), trivial⟩ ?_ ?_ ?_
 ·skip
  refine ⟨fun a w vs274 hA hS hd => ?_, ?_⟩
  ·skip
   exact opG_of rfl (vv (op_loadA rfl ty_104 (hA.ev rfl) (hS.bk 5 rfl) (l := (ints (leastF plan (allowedF R rs) (allowedF R rs).length))) (drop_take_all _ _ (by rw [ints, List.length_map]; exact (least_rates (fun k hk => (allowed_rates hR hk).1) _ (by omega)).1)) (by rw [ints, List.length_map]; exact (least_rates (fun k hk => (allowed_rates hR hk).1) _ (by omega)).1)) (And.intro rfl rfl))
  refine ⟨fun a w vs274 hA hS hd => ?_, ?_⟩
  ·skip
   exact opG_of rfl (vv (op_loadA rfl ty_104 (hA.ev rfl) (hS.bk 4 rfl) (l := (ints (mostF plan (allowedF R rs) (allowedF R rs).length))) (drop_take_all _ _ (by rw [ints, List.length_map]; exact (most_rates (fun k hk => (allowed_rates hR hk).1) _ (by omega)).1)) (by rw [ints, List.length_map]; exact (most_rates (fun k hk => (allowed_rates hR hk).1) _ (by omega)).1)) (And.intro rfl rfl))
  trivial
 ·skip
  intro a275 w276 vs274 rsf280 hA277 hH279 hS278; clear hA273 hS270
  obtain ⟨hs_0, hy_0⟩ := hH279 0 (by decide)
  obtain ⟨hv_0, hr_0⟩ := hy_0
  obtain ⟨hs_1, hy_1⟩ := hH279 1 (by decide)
  obtain ⟨hv_1, hr_1⟩ := hy_1
  have hS281 : Sep (fun b => b = bm) w w276 [(marksR (D272 :: [])), (memo bm (KA rs)), (blk bx32 97 [(bptr bj 0)]), (blk b19 4 [(Value.bool (decide ((allowedF R rs).length = 0)))]), (blk b14 104 (ints (mostF plan (allowedF R rs) (allowedF R rs).length))), (blk b9 104 (ints (leastF plan (allowedF R rs) (allowedF R rs).length))), (blk b4 58 [vp]), (rob bj 119 [vr, vu, (Value.map (some bm))]), (sl vr 2 R.length (pairs R)), (sl vu 3 rs.length (vtrips (runV lv rs))), (segsR false lv rs), (sl vp 3 plan.length (trips plan))] := by rw [show catR rsf280 0 2 = ([] : List Res) by (try simp only [catR, hr_0, hr_1]); (try rfl)] at hS278; exact hS278
  rw [hv_0] at hs_0
  have hA282 : Fr 43 (marks (D272 :: [])) [(41, (Value.agg (ints (leastF plan (allowedF R rs) (allowedF R rs).length)).toArray)), (5, (bptr b14 0)), (4, (bptr b9 0))] a275 := hA277.add (slot_ev hs_0 rfl); clear hA277
  rw [hv_1] at hs_1
  have hA283 : Fr 43 (marks (D272 :: [])) [(42, (Value.agg (ints (mostF plan (allowedF R rs) (allowedF R rs).length)).toArray)), (41, (Value.agg (ints (leastF plan (allowedF R rs) (allowedF R rs).length)).toArray)), (5, (bptr b14 0)), (4, (bptr b9 0))] a275 := hA282.add (slot_ev hs_1 rfl); clear hA282
  clear hH279 hS278 hs_0 hs_1
  clear hr_0
  clear hv_0
  clear hr_1
  clear hv_1
  refine sts hA283 (op_store hS281 rfl ty_104 (hA283.ev rfl) (hA283.ev rfl) (i := 5) rfl (vs := (ints (leastF plan (allowedF R rs) (allowedF R rs).length))) rfl (by rw [ints, List.length_map]; exact (least_rates (fun k hk => (allowed_rates hR hk).1) _ (by omega)).1) (ints_one _) (by first | (simp only [ints, List.length_map, List.length_set]; omega) | (have h2_ := (show (ints (leastF plan (allowedF R rs) (allowedF R rs).length)).length = 3 from (by rw [ints, List.length_map]; exact (least_rates (fun k hk => (allowed_rates hR hk).1) _ (by omega)).1)); omega))) rfl rfl ?_
  intro _ w284 hS285 hA287; have hS286 := hS285.blk_say (i := 5) rfl (cs' := (ints (leastF plan (allowedF R rs) (allowedF R rs).length))) (setFrom_all _ _ (by first | (simp only [ints, List.length_map, List.length_set]; omega) | (have h1_ := (show (ints (leastF plan (allowedF R rs) (allowedF R rs).length)).length = 3 from (by rw [ints, List.length_map]; exact (least_rates (fun k hk => (allowed_rates hR hk).1) _ (by omega)).1)); have h2_ := (show (ints (leastF plan (allowedF R rs) (allowedF R rs).length)).length = 3 from (by rw [ints, List.length_map]; exact (least_rates (fun k hk => (allowed_rates hR hk).1) _ (by omega)).1)); omega))); clear hS285 hA283 hS281
  refine sts hA287 (op_store hS286 rfl ty_104 (hA287.ev rfl) (hA287.ev rfl) (i := 4) rfl (vs := (ints (mostF plan (allowedF R rs) (allowedF R rs).length))) rfl (by rw [ints, List.length_map]; exact (most_rates (fun k hk => (allowed_rates hR hk).1) _ (by omega)).1) (ints_one _) (by first | (simp only [ints, List.length_map, List.length_set]; omega) | (have h2_ := (show (ints (mostF plan (allowedF R rs) (allowedF R rs).length)).length = 3 from (by rw [ints, List.length_map]; exact (most_rates (fun k hk => (allowed_rates hR hk).1) _ (by omega)).1)); omega))) rfl rfl ?_
  intro _ w288 hS289 hA291; have hS290 := hS289.blk_say (i := 4) rfl (cs' := (ints (mostF plan (allowedF R rs) (allowedF R rs).length))) (setFrom_all _ _ (by first | (simp only [ints, List.length_map, List.length_set]; omega) | (have h1_ := (show (ints (mostF plan (allowedF R rs) (allowedF R rs).length)).length = 3 from (by rw [ints, List.length_map]; exact (most_rates (fun k hk => (allowed_rates hR hk).1) _ (by omega)).1)); have h2_ := (show (ints (mostF plan (allowedF R rs) (allowedF R rs).length)).length = 3 from (by rw [ints, List.length_map]; exact (most_rates (fun k hk => (allowed_rates hR hk).1) _ (by omega)).1)); omega))); clear hS289 hA287 hS286
  refine wl_nil ?_
  refine then_n ?_
  refine c_ret ?_
  refine fin_runM hA291 (.inl rfl) hS290 ?_
  intro w292 hS293; clear hS290
  refine ⟨_, (run_results2 hA291 rfl (.cellA rfl ty_104 (hS293.bk 4 rfl) (l := (ints (leastF plan (allowedF R rs) (allowedF R rs).length))) (drop_take_all _ _ (by rw [ints, List.length_map]; exact (least_rates (fun k hk => (allowed_rates hR hk).1) _ (by omega)).1)) (by rw [ints, List.length_map]; exact (least_rates (fun k hk => (allowed_rates hR hk).1) _ (by omega)).1)) (.cellA rfl ty_104 (hS293.bk 3 rfl) (l := (ints (mostF plan (allowedF R rs) (allowedF R rs).length))) (drop_take_all _ _ (by rw [ints, List.length_map]; exact (most_rates (fun k hk => (allowed_rates hR hk).1) _ (by omega)).1)) (by rw [ints, List.length_map]; exact (most_rates (fun k hk => (allowed_rates hR hk).1) _ (by omega)).1))), ?_⟩
  exact ⟨rfl, hS293.ext, hS293.ok 0 _ rfl⟩
 ·skip
  intro a294 w295 vs274 rsf299 hA296 hH298 hrq hS297; clear hA273 hS270
  obtain ⟨hs_0, hy_0⟩ := hH298 0 (by decide) (by decide)
  obtain ⟨hv_0, hr_0⟩ := hy_0
  have hS300 : Sep (fun b => b = bm) w w295 [(marksR (D272 :: [])), (memo bm (KA rs)), (blk bx32 97 [(bptr bj 0)]), (blk b19 4 [(Value.bool (decide ((allowedF R rs).length = 0)))]), (blk b14 104 (ints (mostF plan (allowedF R rs) (allowedF R rs).length))), (blk b9 104 (ints (leastF plan (allowedF R rs) (allowedF R rs).length))), (blk b4 58 [vp]), (rob bj 119 [vr, vu, (Value.map (some bm))]), (sl vr 2 R.length (pairs R)), (sl vu 3 rs.length (vtrips (runV lv rs))), (segsR false lv rs), (sl vp 3 plan.length (trips plan))] := by rw [show catR rsf299 0 2 = ([] : List Res) by (try simp only [catR, hr_0, hrq]); (try rfl)] at hS297; exact hS297
  rw [hv_0] at hs_0
  have hA301 : Fr 43 (marks (D272 :: [])) [(41, (Value.agg (ints (leastF plan (allowedF R rs) (allowedF R rs).length)).toArray)), (5, (bptr b14 0)), (4, (bptr b9 0))] a294 := hA296.add (slot_ev hs_0 rfl); clear hA296
  clear hH298 hS297 hs_0 hrq
  clear hr_0
  clear hv_0
  refine sts hA301 (op_store hS300 rfl ty_104 (hA301.ev rfl) (hA301.ev rfl) (i := 5) rfl (vs := (ints (leastF plan (allowedF R rs) (allowedF R rs).length))) rfl (by rw [ints, List.length_map]; exact (least_rates (fun k hk => (allowed_rates hR hk).1) _ (by omega)).1) (ints_one _) (by first | (simp only [ints, List.length_map, List.length_set]; omega) | (have h2_ := (show (ints (leastF plan (allowedF R rs) (allowedF R rs).length)).length = 3 from (by rw [ints, List.length_map]; exact (least_rates (fun k hk => (allowed_rates hR hk).1) _ (by omega)).1)); omega))) rfl rfl ?_
  intro _ w302 hS303 hA305; have hS304 := hS303.blk_say (i := 5) rfl (cs' := (ints (leastF plan (allowedF R rs) (allowedF R rs).length))) (setFrom_all _ _ (by first | (simp only [ints, List.length_map, List.length_set]; omega) | (have h1_ := (show (ints (leastF plan (allowedF R rs) (allowedF R rs).length)).length = 3 from (by rw [ints, List.length_map]; exact (least_rates (fun k hk => (allowed_rates hR hk).1) _ (by omega)).1)); have h2_ := (show (ints (leastF plan (allowedF R rs) (allowedF R rs).length)).length = 3 from (by rw [ints, List.length_map]; exact (least_rates (fun k hk => (allowed_rates hR hk).1) _ (by omega)).1)); omega))); clear hS303 hA301 hS300
  refine st hA305 (op_loadA rfl ty_104 (hA305.ev rfl) (hS304.bk 4 rfl) (l := (ints (mostF plan (allowedF R rs) (allowedF R rs).length))) (drop_take_all _ _ (by rw [ints, List.length_map]; exact (most_rates (fun k hk => (allowed_rates hR hk).1) _ (by omega)).1)) (by rw [ints, List.length_map]; exact (most_rates (fun k hk => (allowed_rates hR hk).1) _ (by omega)).1)) rfl rfl (by decide) fun a306 hA307 => ?_; clear hA305 a294
  refine sts hA307 (op_store hS304 rfl ty_104 (hA307.ev rfl) (hA307.ev rfl) (i := 4) rfl (vs := (ints (mostF plan (allowedF R rs) (allowedF R rs).length))) rfl (by rw [ints, List.length_map]; exact (most_rates (fun k hk => (allowed_rates hR hk).1) _ (by omega)).1) (ints_one _) (by first | (simp only [ints, List.length_map, List.length_set]; omega) | (have h2_ := (show (ints (mostF plan (allowedF R rs) (allowedF R rs).length)).length = 3 from (by rw [ints, List.length_map]; exact (most_rates (fun k hk => (allowed_rates hR hk).1) _ (by omega)).1)); omega))) rfl rfl ?_
  intro _ w308 hS309 hA311; have hS310 := hS309.blk_say (i := 4) rfl (cs' := (ints (mostF plan (allowedF R rs) (allowedF R rs).length))) (setFrom_all _ _ (by first | (simp only [ints, List.length_map, List.length_set]; omega) | (have h1_ := (show (ints (mostF plan (allowedF R rs) (allowedF R rs).length)).length = 3 from (by rw [ints, List.length_map]; exact (most_rates (fun k hk => (allowed_rates hR hk).1) _ (by omega)).1)); have h2_ := (show (ints (mostF plan (allowedF R rs) (allowedF R rs).length)).length = 3 from (by rw [ints, List.length_map]; exact (most_rates (fun k hk => (allowed_rates hR hk).1) _ (by omega)).1)); omega))); clear hS309 hA307 hS304
  refine wl_nil ?_
  refine then_n ?_
  refine c_ret ?_
  refine fin_runM hA311 (.inl rfl) hS310 ?_
  intro w312 hS313; clear hS310
  refine ⟨_, (run_results2 hA311 rfl (.cellA rfl ty_104 (hS313.bk 4 rfl) (l := (ints (leastF plan (allowedF R rs) (allowedF R rs).length))) (drop_take_all _ _ (by rw [ints, List.length_map]; exact (least_rates (fun k hk => (allowed_rates hR hk).1) _ (by omega)).1)) (by rw [ints, List.length_map]; exact (least_rates (fun k hk => (allowed_rates hR hk).1) _ (by omega)).1)) (.cellA rfl ty_104 (hS313.bk 3 rfl) (l := (ints (mostF plan (allowedF R rs) (allowedF R rs).length))) (drop_take_all _ _ (by rw [ints, List.length_map]; exact (most_rates (fun k hk => (allowed_rates hR hk).1) _ (by omega)).1)) (by rw [ints, List.length_map]; exact (most_rates (fun k hk => (allowed_rates hR hk).1) _ (by omega)).1))), ?_⟩
  exact ⟨rfl, hS313.ext, hS313.ok 0 _ rfl⟩
end Go.Proofs.Ytkkglkdnnfegkaa

namespace Go.Proofs.Ytkkglkdnnfegkaa
open Go.RowKit Go.Shelf Go.Eng
theorem en_58 : ∀ args w, (callFunc 58 args).run Try.prog w = .ok (.enter 58 args) w := enters_of Try.func58 (by kernel_rfl) rfl
theorem bd_42_  (w : World) : (Instr.build 42 #[]).run Try.prog w = .ok (.agg #[(Value.int .i64 0), (Value.int .i64 0)]) w := by kernel_rfl
theorem en_59 : ∀ args w, (callFunc 59 args).run Try.prog w = .ok (.enter 59 args) w := enters_of Try.func59 (by kernel_rfl) rfl
theorem en_57 : ∀ args w, (callFunc 57 args).run Try.prog w = .ok (.enter 57 args) w := enters_of Try.func57 (by kernel_rfl) rfl
theorem tw_42 : twoInts Try.prog 42 = true := by kernel_rfl
theorem stretch_bad (R : List (Int × Int)) (rs : List RunD) (lv : List Value) (vr vu : Value) (w : World) (hm : SlAt w vr 2 R.length (pairs R)) (hx : RunsAt w vu lv rs) (hlen : R.length ≤ 1000000) (hrl : rs.length ≤ 1000000) (plan : List Seg) (vp : Value) (hp : SlAt w vp 3 plan.length (trips plan)) (hpl : plan.length ≤ 1000000) (he : planF R rs plan ≠ 0) :
  Calls Try.prog 28 #[(Value.agg #[vr]), vu, vp] w (Ret fun v w' => v = .tuple #[.agg #[.int .i64 0, .int .i64 0], .int .i64 (planF R rs plan)] ∧ Ext NoB w w') := by
 refine calls_enter Try.func28 rfl fun a0 hA0 => ?_
 replace hA0 : Fr 38 [] [(0, (Value.agg #[vr])), (1, vu), (2, vp)] a0 := hA0
 have hS0 : Sep NoB w w [(sl vr 2 R.length (pairs R)), (sl vu 3 rs.length (vtrips (runV lv rs))), (segsR false lv rs), (sl vp 3 plan.length (trips plan))] := sep_ro ⟨rfl, hm, rfl, hx.runs, rfl, ⟨hx.len, hx.segs⟩, rfl, hp, trivial⟩
 refine c_seq ?_
 refine c_region ?_
 refine stw hA0 (op_box hS0 rfl (hA0.ev rfl) (cs := [vr]) rfl) rfl rfl (by decide) ?_
 rintro a1 _ w3 ⟨b4, rfl, hS5⟩ hA2; clear hA0 hS0 a0
 refine stw hA2 (op_alloc hS5 rfl ze_42 (cs := [(Value.int .i64 0), (Value.int .i64 0)]) rfl) rfl rfl (by decide) ?_
 rintro a6 _ w8 ⟨b9, rfl, hS10⟩ hA7; clear hA2 hS5 a1
 refine st hA7 (op_assign rfl (evc _ _)) rfl rfl (by decide) fun a11 hA12 => ?_; clear hA7 a6
 refine wl_nil ?_
 refine then_n ?_
 refine c_seq ?_
 refine c_region ?_
 refine st hA12 (op_loadA rfl ty_33 (hA12.ev rfl) (hS10.bk 1 rfl) (l := [vr]) rfl rfl) rfl rfl (by decide) fun a13 hA14 => ?_; clear hA12 a11
 refine st hA14 (op_move rfl (hA14.ev rfl)) rfl rfl (by decide) fun a15 hA16 => ?_; clear hA14 a13
 refine st hA16 (op_move rfl (hA16.ev rfl)) rfl rfl (by decide) fun a17 hA18 => ?_; clear hA16 a15
 refine stw hA18 (op_call rfl en_58 (ev3 (hA18.ev rfl) (hA18.ev rfl) (hA18.ev rfl)) (plan_bad R rs lv vr vu _ (hm.step hS10.ext) (hx.step hS10.ext) (by omega) (by omega) plan vp (hp.step hS10.ext) (by omega) he)) rfl rfl (by decide) ?_
 rintro a19 _ w21 ⟨rfl, hE22⟩ hA20; have hS23 := hS10.step hE22; clear hE22 hA18 hS10 a17
 refine st hA20 (op_move rfl (hA20.ev rfl)) rfl rfl (by decide) fun a24 hA25 => ?_; clear hA20 a19
 refine st hA25 (op_extract rfl (hA25.ev rfl) rfl) rfl rfl (by decide) fun a26 hA27 => ?_; clear hA25 a24
 refine st hA27 (op_extract rfl (hA27.ev rfl) rfl) rfl rfl (by decide) fun a28 hA29 => ?_; clear hA27 a26
 refine st hA29 (op_assign rfl (hA29.ev rfl)) rfl rfl (by decide) fun a30 hA31 => ?_; clear hA29 a28
 refine st hA31 (op_assign rfl (hA31.ev rfl)) rfl rfl (by decide) fun a32 hA33 => ?_; clear hA31 a30
 refine wl_nil ?_
 refine then_n ?_
 refine c_seq ?_
 refine c_seq ?_
 have hA34 := hA33.as [(9, (Value.int .i64 (planF R rs plan))), (8, (Value.pointer none)), (6, (bptr b9 0)), (2, vp)] rfl; clear hA33
 refine c_region ?_
 refine st hA34 (op_move rfl (hA34.ev rfl)) rfl rfl (by decide) fun a35 hA36 => ?_; clear hA34 a32
 refine st hA36 (op_neq rfl (hA36.ev rfl) (evc _ _)) rfl rfl (by decide) fun a37 hA38 => ?_; clear hA36 a35
 have hd39 : ¬ ((planF R rs plan) = 0) := he
 rw [decide_eq_false hd39] at hA38
 refine wl_nil ?_
 refine then_n ?_
 refine c_true hA38 rfl ?_
 refine c_seq ?_
 refine c_region ?_
 refine st hA38 (op_build rfl pv0 bd_42_) rfl rfl (by decide) fun a40 hA41 => ?_; clear hA38 a37
 refine st hA41 (op_move rfl (hA41.ev rfl)) rfl rfl (by decide) fun a42 hA43 => ?_; clear hA41 a40
 refine sts hA43 (op_store hS23 rfl ty_42 (hA43.ev rfl) (hA43.ev rfl) (i := 0) rfl (vs := [(Value.int .i64 0), (Value.int .i64 0)]) rfl rfl rfl (Nat.le_of_ble_eq_true rfl)) rfl rfl ?_
 intro _ w44 hS45 hA46; clear hA43
 have hS47 : Sep NoB w w44 [(blk b9 42 [(Value.int .i64 0), (Value.int .i64 0)]), (blk b4 33 [vr]), (sl vr 2 R.length (pairs R)), (sl vu 3 rs.length (vtrips (runV lv rs))), (segsR false lv rs), (sl vp 3 plan.length (trips plan))] := hS45; clear hS45 hS23
 refine st hA46 (op_assign rfl (hA46.ev rfl)) rfl rfl (by decide) fun a48 hA49 => ?_; clear hA46 a42
 refine wl_nil ?_
 refine then_n ?_
 refine c_ret ?_
 refine then_ret ?_
 refine fin_run hA49 (.inl rfl) (run_results2 hA49 rfl (.cellA rfl ty_42 (hS47.bk 0 rfl) (l := [(Value.int .i64 0), (Value.int .i64 0)]) rfl rfl) (.tmp rfl)) ?_
 exact ⟨rfl, hS47.ext⟩
theorem stretch_fine (R : List (Int × Int)) (rs : List RunD) (lv : List Value) (vr vu : Value) (w : World) (hm : SlAt w vr 2 R.length (pairs R)) (hx : RunsAt w vu lv rs) (hlen : R.length ≤ 1000000) (hrl : rs.length ≤ 1000000) (plan : List Seg) (vp : Value) (hp : SlAt w vp 3 plan.length (trips plan)) (hpl : plan.length ≤ 1000000) (he : planF R rs plan = 0) :
  Calls Try.prog 28 #[(Value.agg #[vr]), vu, vp] w (Ret fun v w' => v = .tuple #[.agg #[.int .i64 (stLo plan (leastR R rs plan)), .int .i64 (stHi plan (mostR R rs plan))], .int .i64 0] ∧ Ext NoB w w') := by
 refine calls_enter Try.func28 rfl fun a0 hA0 => ?_
 replace hA0 : Fr 38 [] [(0, (Value.agg #[vr])), (1, vu), (2, vp)] a0 := hA0
 have hpi := plan_is he
 have hs := hpi.2.2
 have hp8 := hpi.2.1
 have hR := (check_mat (enter_mat (poss_is hpi.1).1)).1
 have hR1 := (check_mat (enter_mat (poss_is hpi.1).1)).2.1
 have hR3 := hR.1
 have hV := enter_runs (poss_is hpi.1).1
 have hS0 : Sep NoB w w [(sl vr 2 R.length (pairs R)), (sl vu 3 rs.length (vtrips (runV lv rs))), (segsR false lv rs), (sl vp 3 plan.length (trips plan))] := sep_ro ⟨rfl, hm, rfl, hx.runs, rfl, ⟨hx.len, hx.segs⟩, rfl, hp, trivial⟩
 refine c_seq ?_
 refine c_region ?_
 refine stw hA0 (op_box hS0 rfl (hA0.ev rfl) (cs := [vr]) rfl) rfl rfl (by decide) ?_
 rintro a1 _ w3 ⟨b4, rfl, hS5⟩ hA2; clear hA0 hS0 a0
 refine stw hA2 (op_alloc hS5 rfl ze_42 (cs := [(Value.int .i64 0), (Value.int .i64 0)]) rfl) rfl rfl (by decide) ?_
 rintro a6 _ w8 ⟨b9, rfl, hS10⟩ hA7; clear hA2 hS5 a1
 refine st hA7 (op_assign rfl (evc _ _)) rfl rfl (by decide) fun a11 hA12 => ?_; clear hA7 a6
 refine wl_nil ?_
 refine then_n ?_
 refine c_seq ?_
 refine c_region ?_
 refine st hA12 (op_loadA rfl ty_33 (hA12.ev rfl) (hS10.bk 1 rfl) (l := [vr]) rfl rfl) rfl rfl (by decide) fun a13 hA14 => ?_; clear hA12 a11
 refine st hA14 (op_move rfl (hA14.ev rfl)) rfl rfl (by decide) fun a15 hA16 => ?_; clear hA14 a13
 refine st hA16 (op_move rfl (hA16.ev rfl)) rfl rfl (by decide) fun a17 hA18 => ?_; clear hA16 a15
 refine stw hA18 (op_call rfl en_58 (ev3 (hA18.ev rfl) (hA18.ev rfl) (hA18.ev rfl)) (plan_ok R rs lv vr vu _ (hm.step hS10.ext) (hx.step hS10.ext) (by omega) (by omega) plan vp (hp.step hS10.ext) (by omega) he)) rfl rfl (by decide) ?_
 rintro a19 _ w21 ⟨bj24, bm25, rfl, hT22⟩ hA20; have hS23 := hS10.callS hT22 rfl; clear hT22 hA18 hS10 a17
 refine st hA20 (op_move rfl (hA20.ev rfl)) rfl rfl (by decide) fun a26 hA27 => ?_; clear hA20 a19
 refine st hA27 (op_extract rfl (hA27.ev rfl) rfl) rfl rfl (by decide) fun a28 hA29 => ?_; clear hA27 a26
 refine st hA29 (op_extract rfl (hA29.ev rfl) rfl) rfl rfl (by decide) fun a30 hA31 => ?_; clear hA29 a28
 refine st hA31 (op_assign rfl (hA31.ev rfl)) rfl rfl (by decide) fun a32 hA33 => ?_; clear hA31 a30
 refine st hA33 (op_assign rfl (hA33.ev rfl)) rfl rfl (by decide) fun a34 hA35 => ?_; clear hA33 a32
 refine wl_nil ?_
 refine then_n ?_
 refine c_seq ?_
 refine c_seq ?_
 have hA36 := hA35.as [(9, (Value.int .i64 0)), (8, (bptr bj24 0)), (6, (bptr b9 0)), (2, vp)] rfl; clear hA35
 refine c_region ?_
 refine st hA36 (op_move rfl (hA36.ev rfl)) rfl rfl (by decide) fun a37 hA38 => ?_; clear hA36 a34
 refine st hA38 (op_neq rfl (hA38.ev rfl) (evc _ _)) rfl rfl (by decide) fun a39 hA40 => ?_; clear hA38 a37
 refine wl_nil ?_
 refine then_n ?_
 refine c_false hA40 rfl ?_
 refine c_skip ?_
 refine then_n ?_
 refine c_seq ?_
 refine c_region ?_
 refine st hA40 (op_move rfl (hA40.ev rfl)) rfl rfl (by decide) fun a41 hA42 => ?_; clear hA40 a39
 refine st hA42 (op_move rfl (hA42.ev rfl)) rfl rfl (by decide) fun a43 hA44 => ?_; clear hA42 a41
 refine stw hA44 (op_call rfl en_59 (ev2 (hA44.ev rfl) (hA44.ev rfl)) (ends_ok _ _ R rs lv vr vu vp plan _ hR hV hx.len hp8 hs (hS23.lendM (i := 1) rfl [0, 4, 5, 6, 7] ⟨rfl, by decide, hS23.bk 0 rfl, ⟨_, rfl, fun _ hz => hz⟩, rfl, by decide, hS23.sk 4 rfl, ⟨_, rfl, fun _ hz => hz⟩, rfl, by decide, hS23.sk 5 rfl, ⟨_, rfl, fun _ hz => hz⟩, rfl, by decide, hS23.ok 6 _ rfl, ⟨_, rfl, fun _ hz => hz⟩, rfl, by decide, hS23.sk 7 rfl, ⟨_, rfl, fun _ hz => hz⟩, trivial⟩))) rfl rfl (by decide) ?_
 rintro a45 _ w47 ⟨rfl, hE48, hM49⟩ hA46; have hS50 := hS23.updM (i := 1) rfl hE48 hM49; clear hE48 hM49 hA44 hS23 a43
 refine st hA46 (op_move rfl (hA46.ev rfl)) rfl rfl (by decide) fun a51 hA52 => ?_; clear hA46 a45
 refine st hA52 (op_extract rfl (hA52.ev rfl) rfl) rfl rfl (by decide) fun a53 hA54 => ?_; clear hA52 a51
 refine st hA54 (op_extract rfl (hA54.ev rfl) rfl) rfl rfl (by decide) fun a55 hA56 => ?_; clear hA54 a53
 refine stw hA56 (op_alloc hS50 rfl ze_104 (cs := [(Value.int .i64 0), (Value.int .i64 0), (Value.int .i64 0)]) rfl) rfl rfl (by decide) ?_
 rintro a57 _ w59 ⟨b60, rfl, hS61⟩ hA58; clear hA56 hS50 a55
 refine stw hA58 (op_alloc hS61 rfl ze_104 (cs := [(Value.int .i64 0), (Value.int .i64 0), (Value.int .i64 0)]) rfl) rfl rfl (by decide) ?_
 rintro a62 _ w64 ⟨b65, rfl, hS66⟩ hA63; clear hA58 hS61 a57
 refine sts hA63 (op_store hS66 rfl ty_104 (hA63.ev rfl) (hA63.ev rfl) (i := 1) rfl (vs := (ints (leastR R rs plan))) rfl (by rw [ints, List.length_map]; exact (leastR_rates hR).1) (ints_one _) (by decide)) rfl rfl ?_
 intro _ w67 hS68 hA70; have hS69 := hS68.blk_say (i := 1) rfl (cs' := (ints (leastR R rs plan))) (setFrom_all _ _ (Eq.symm (by rw [ints, List.length_map]; exact (leastR_rates hR).1))); clear hS68 hA63 hS66
 refine sts hA70 (op_store hS69 rfl ty_104 (hA70.ev rfl) (hA70.ev rfl) (i := 0) rfl (vs := (ints (mostR R rs plan))) rfl (by rw [ints, List.length_map]; exact (mostR_rates hR).1) (ints_one _) (by decide)) rfl rfl ?_
 intro _ w71 hS72 hA74; have hS73 := hS72.blk_say (i := 0) rfl (cs' := (ints (mostR R rs plan))) (setFrom_all _ _ (Eq.symm (by rw [ints, List.length_map]; exact (mostR_rates hR).1))); clear hS72 hA70 hS69
 refine wl_nil ?_
 refine then_n ?_
 refine c_seq ?_
 have hA75 := hA74.as [(11, (bptr b65 0)), (10, (bptr b60 0)), (6, (bptr b9 0)), (2, vp)] rfl; clear hA74
 have hA76 := hA75.as [(11, (bptr b65 0)), (10, (bptr b60 0)), (6, (bptr b9 0)), (2, vp)] rfl; clear hA75
 refine c_drawn mixed hA76 hS73 8 [[], [], [0, 1], [2], [], [], [4, 5], [6]] [(Yd.val vp), (Yd.val (Value.agg (ints (leastR R rs plan)).toArray)), (Yd.val (Value.agg #[(Value.int .i64 (stLo plan (leastR R rs plan))), (Value.int .i64 (stHi plan (leastR R rs plan)))])), (Yd.val (Value.int .i64 (stLo plan (leastR R rs plan)))), (Yd.val vp), (Yd.val (Value.agg (ints (mostR R rs plan)).toArray)), (Yd.val (Value.agg #[(Value.int .i64 (stLo plan (mostR R rs plan))), (Value.int .i64 (stHi plan (mostR R rs plan)))])), (Yd.val (Value.int .i64 (stHi plan (mostR R rs plan))))] (by decide +kernel) rfl rfl ?_ ?_
 ·skip
  refine ⟨fun a w hA hS hd => by exact opG_of rfl (dv (op_move rfl (hA.ev rfl)) hS rfl), ?_⟩
  refine ⟨fun a w hA hS hd => by exact opG_of rfl (dv (op_loadA rfl ty_104 (hA.ev rfl) (hS.bk 1 rfl) (l := (ints (leastR R rs plan))) (drop_take_all _ _ (by rw [ints, List.length_map]; exact (leastR_rates hR).1)) (by rw [ints, List.length_map]; exact (leastR_rates hR).1)) hS rfl), ?_⟩
  refine ⟨fun a w hA hS hd => by have e0 := has_ev (hd 0 (by decide)) rfl (fun _ h => h); have e1 := has_ev (hd 1 (by decide)) rfl (fun _ h => h); exact opG_of rfl (dx (op_call rfl en_60 (ev2 (tmp_ev e0) (tmp_ev e1)) (stretch_ok plan _ (leastR R rs plan) R.length _ (by omega) hR.1 (leastR_rates hR) hs (hS.sk 9 rfl))) hS (fun _ => rfl)), ?_⟩
  refine ⟨fun a w hA hS hd => by have e2 := has_ev (hd 2 (by decide)) rfl (fun _ h => h); exact opG_of rfl (dv (op_fieldV rfl (tmp_ev e2) (bd_fv_42_0_i64i64 _ _)) hS rfl), ?_⟩
  refine ⟨fun a w hA hS hd => by exact opG_of rfl (dv (op_move rfl (hA.ev rfl)) hS rfl), ?_⟩
  refine ⟨fun a w hA hS hd => by exact opG_of rfl (dv (op_loadA rfl ty_104 (hA.ev rfl) (hS.bk 0 rfl) (l := (ints (mostR R rs plan))) (drop_take_all _ _ (by rw [ints, List.length_map]; exact (mostR_rates hR).1)) (by rw [ints, List.length_map]; exact (mostR_rates hR).1)) hS rfl), ?_⟩
  refine ⟨fun a w hA hS hd => by have e4 := has_ev (hd 4 (by decide)) rfl (fun _ h => h); have e5 := has_ev (hd 5 (by decide)) rfl (fun _ h => h); exact opG_of rfl (dx (op_call rfl en_60 (ev2 (tmp_ev e4) (tmp_ev e5)) (stretch_ok plan _ (mostR R rs plan) R.length _ (by omega) hR.1 (mostR_rates hR) hs (hS.sk 9 rfl))) hS (fun _ => rfl)), ?_⟩
  refine ⟨fun a w hA hS hd => by have e6 := has_ev (hd 6 (by decide)) rfl (fun _ h => h); exact opG_of rfl (dv (op_fieldV rfl (tmp_ev e6) (bd_fv_42_1_i64i64 _ _)) hS rfl), ?_⟩
  trivial
 intro a78 w79 hA80 hS81 hH82; clear hA76 hS73
 have hA83 := hA80.add (has_ev (hH82 3 (by decide)) rfl (fun _ h => h)); clear hA80
 have hA84 := hA83.add (has_ev (hH82 7 (by decide)) rfl (fun _ h => h)); clear hA83
 clear hH82
 refine st hA84 (op_build rfl (pv2 (hA84.ev rfl) (hA84.ev rfl)) (bd_42_0i_1i _ _)) rfl rfl (by decide) fun a85 hA86 => ?_; clear hA84 a78
 refine sts hA86 (op_store hS81 rfl ty_42 (hA86.ev rfl) (hA86.ev rfl) (i := 4) rfl (vs := [(Value.int .i64 (stLo plan (leastR R rs plan))), (Value.int .i64 (stHi plan (mostR R rs plan)))]) rfl rfl rfl (Nat.le_of_ble_eq_true rfl)) rfl rfl ?_
 intro _ w87 hS88 hA89; clear hA86
 have hS90 : Sep NoB w w87 [(blk b65 104 (ints (mostR R rs plan))), (blk b60 104 (ints (leastR R rs plan))), (blk bj24 119 [vr, vu, (Value.map (some bm25))]), (memo bm25 (KA rs)), (blk b9 42 [(Value.int .i64 (stLo plan (leastR R rs plan))), (Value.int .i64 (stHi plan (mostR R rs plan)))]), (blk b4 33 [vr]), (sl vr 2 R.length (pairs R)), (sl vu 3 rs.length (vtrips (runV lv rs))), (segsR false lv rs), (sl vp 3 plan.length (trips plan))] := hS88; clear hS88 hS81
 refine st hA89 (op_assign rfl (evc _ _)) rfl rfl (by decide) fun a91 hA92 => ?_; clear hA89 a85
 refine wl_nil ?_
 refine then_n ?_
 refine c_ret ?_
 refine fin_run hA92 (.inl rfl) (run_results2 hA92 rfl (.cellA rfl ty_42 (hS90.bk 4 rfl) (l := [(Value.int .i64 (stLo plan (leastR R rs plan))), (Value.int .i64 (stHi plan (mostR R rs plan)))]) rfl rfl) (.tmp rfl)) ?_
 exact ⟨rfl, hS90.ext⟩
theorem life_bad (R : List (Int × Int)) (rs : List RunD) (lv : List Value) (vr vu : Value) (w : World) (hm : SlAt w vr 2 R.length (pairs R)) (hx : RunsAt w vu lv rs) (hlen : R.length ≤ 1000000) (hrl : rs.length ≤ 1000000) (band s : Int) (he : possF R rs ≠ 0) :
  Calls Try.prog 23 #[(Value.agg #[vr]), vu, (Value.int .i64 band), (Value.int .i64 s)] w (Ret fun v w' => v = .tuple #[.agg #[.int .i64 0, .int .i64 0], .int .i64 (possF R rs)] ∧ Ext NoB w w') := by
 refine calls_enterM Try.func23 rfl fun a0 hA0 => ?_
 replace hA0 : Fr 63 (marks []) [(0, (Value.agg #[vr])), (1, vu), (2, (Value.int .i64 band)), (3, (Value.int .i64 s))] a0 := hA0
 have hS0 : Sep NoB w w [(marksR []), (sl vr 2 R.length (pairs R)), (sl vu 3 rs.length (vtrips (runV lv rs))), (segsR false lv rs)] := sep_marks (sep_ro ⟨rfl, hm, rfl, hx.runs, rfl, ⟨hx.len, hx.segs⟩, trivial⟩)
 refine c_seq ?_
 refine c_region ?_
 refine stw hA0 (op_box hS0 rfl (hA0.ev rfl) (cs := [vr]) rfl) rfl rfl (by decide) ?_
 rintro a1 _ w3 ⟨b4, rfl, hS5⟩ hA2; clear hA0 hS0 a0
 refine stw hA2 (op_box hS5 rfl (hA2.ev rfl) (cs := [(Value.int .i64 band)]) rfl) rfl rfl (by decide) ?_
 rintro a6 _ w8 ⟨b9, rfl, hS10⟩ hA7; clear hA2 hS5 a1
 refine stw hA7 (op_box hS10 rfl (hA7.ev rfl) (cs := [(Value.int .i64 s)]) rfl) rfl rfl (by decide) ?_
 rintro a11 _ w13 ⟨b14, rfl, hS15⟩ hA12; clear hA7 hS10 a6
 refine stw hA12 (op_alloc hS15 rfl ze_42 (cs := [(Value.int .i64 0), (Value.int .i64 0)]) rfl) rfl rfl (by decide) ?_
 rintro a16 _ w18 ⟨b19, rfl, hS20⟩ hA17; clear hA12 hS15 a11
 refine st hA17 (op_assign rfl (evc _ _)) rfl rfl (by decide) fun a21 hA22 => ?_; clear hA17 a16
 refine wl_nil ?_
 refine then_n ?_
 refine c_seq ?_
 refine c_region ?_
 refine st hA22 (op_loadA rfl ty_33 (hA22.ev rfl) (hS20.bk 3 rfl) (l := [vr]) rfl rfl) rfl rfl (by decide) fun a23 hA24 => ?_; clear hA22 a21
 refine st hA24 (op_move rfl (hA24.ev rfl)) rfl rfl (by decide) fun a25 hA26 => ?_; clear hA24 a23
 refine stw hA26 (op_call rfl en_53 (ev2 (hA26.ev rfl) (hA26.ev rfl)) (poss_bad R rs lv vr vu _ (hm.step hS20.ext) (hx.step hS20.ext) (by omega) (by omega) he)) rfl rfl (by decide) ?_
 rintro a27 _ w29 ⟨rfl, hE30⟩ hA28; have hS31 := hS20.step hE30; clear hE30 hA26 hS20 a25
 refine st hA28 (op_move rfl (hA28.ev rfl)) rfl rfl (by decide) fun a32 hA33 => ?_; clear hA28 a27
 refine st hA33 (op_extract rfl (hA33.ev rfl) rfl) rfl rfl (by decide) fun a34 hA35 => ?_; clear hA33 a32
 refine st hA35 (op_extract rfl (hA35.ev rfl) rfl) rfl rfl (by decide) fun a36 hA37 => ?_; clear hA35 a34
 refine st hA37 (op_assign rfl (hA37.ev rfl)) rfl rfl (by decide) fun a38 hA39 => ?_; clear hA37 a36
 refine st hA39 (op_assign rfl (hA39.ev rfl)) rfl rfl (by decide) fun a40 hA41 => ?_; clear hA39 a38
 refine wl_nil ?_
 refine then_n ?_
 refine c_seq ?_
 refine c_block ?_
 refine c_seq ?_
 have hA42 := hA41.as [(11, (Value.int .i64 (possF R rs))), (10, (Value.pointer none)), (8, (bptr b19 0)), (7, (bptr b14 0)), (6, (bptr b9 0)), (4, (bptr b4 0))] rfl; clear hA41
 refine c_region ?_
 refine st hA42 (op_move rfl (hA42.ev rfl)) rfl rfl (by decide) fun a43 hA44 => ?_; clear hA42 a40
 refine st hA44 (op_neq rfl (hA44.ev rfl) (evc _ _)) rfl rfl (by decide) fun a45 hA46 => ?_; clear hA44 a43
 have hd47 : ¬ ((possF R rs) = 0) := he
 rw [decide_eq_false hd47] at hA46
 refine st hA46 (op_assign rfl (hA46.ev rfl)) rfl rfl (by decide) fun a48 hA49 => ?_; clear hA46 a45
 refine wl_nil ?_
 refine then_n ?_
 refine c_true hA49 rfl ?_
 refine c_seq ?_
 have hA50 := hA49.as [(11, (Value.int .i64 (possF R rs))), (8, (bptr b19 0))] rfl; clear hA49
 refine c_region ?_
 refine st hA50 (op_build rfl pv0 bd_42_) rfl rfl (by decide) fun a51 hA52 => ?_; clear hA50 a48
 refine st hA52 (op_move rfl (hA52.ev rfl)) rfl rfl (by decide) fun a53 hA54 => ?_; clear hA52 a51
 refine sts hA54 (op_store hS31 rfl ty_42 (hA54.ev rfl) (hA54.ev rfl) (i := 0) rfl (vs := [(Value.int .i64 0), (Value.int .i64 0)]) rfl rfl rfl (Nat.le_of_ble_eq_true rfl)) rfl rfl ?_
 intro _ w55 hS56 hA57; clear hA54
 have hS58 : Sep NoB w w55 [(blk b19 42 [(Value.int .i64 0), (Value.int .i64 0)]), (blk b14 3 [(Value.int .i64 s)]), (blk b9 3 [(Value.int .i64 band)]), (blk b4 33 [vr]), (marksR []), (sl vr 2 R.length (pairs R)), (sl vu 3 rs.length (vtrips (runV lv rs))), (segsR false lv rs)] := hS56; clear hS56 hS31
 refine st hA57 (op_assign rfl (hA57.ev rfl)) rfl rfl (by decide) fun a59 hA60 => ?_; clear hA57 a53
 refine wl_nil ?_
 refine then_n ?_
 refine c_ret ?_
 refine blk_ret ?_
 refine then_ret ?_
 have hS61 : Sep NoB w w55 [(marksR []), (blk b19 42 [(Value.int .i64 0), (Value.int .i64 0)]), (blk b14 3 [(Value.int .i64 s)]), (blk b9 3 [(Value.int .i64 band)]), (blk b4 33 [vr]), (sl vr 2 R.length (pairs R)), (sl vu 3 rs.length (vtrips (runV lv rs))), (segsR false lv rs)] := hS58.keep [4, 0, 1, 2, 3, 5, 6, 7] (by decide) _ rfl rfl; clear hS58
 refine fin_runM hA60 (.inl rfl) hS61 ?_
 intro w62 hS63; clear hS61
 refine ⟨_, (run_results2 hA60 rfl (.cellA rfl ty_42 (hS63.bk 0 rfl) (l := [(Value.int .i64 0), (Value.int .i64 0)]) rfl rfl) (.tmp rfl)), ?_⟩
 exact ⟨rfl, hS63.ext⟩
theorem life_any (R : List (Int × Int)) (rs : List RunD) (lv : List Value) (vr vu : Value) (w : World) (hm : SlAt w vr 2 R.length (pairs R)) (hx : RunsAt w vu lv rs) (hlen : R.length ≤ 1000000) (hrl : rs.length ≤ 1000000) (band s : Int) (he : possF R rs = 0) :
  Calls Try.prog 23 #[(Value.agg #[vr]), vu, (Value.int .i64 band), (Value.int .i64 s)] w (Ret fun v w' => (lifeE R rs band s = 2 ∧ v = .tuple #[.agg #[.int .i64 0, .int .i64 0], .int .i64 2] ∧ Ext NoB w w') ∨ (lifeE R rs band s = 0 ∧ v = .tuple #[.agg #[.int .i64 (lifeR (allowedF R rs) band.toNat s).1, .int .i64 (lifeR (allowedF R rs) band.toNat s).2], .int .i64 0] ∧ Ext NoB w w')) := by
 refine calls_enterM Try.func23 rfl fun a0 hA0 => ?_
 replace hA0 : Fr 63 (marks []) [(0, (Value.agg #[vr])), (1, vu), (2, (Value.int .i64 band)), (3, (Value.int .i64 s))] a0 := hA0
 have hR := (check_mat (enter_mat (poss_is he).1)).1
 have hR1 := (check_mat (enter_mat (poss_is he).1)).2.1
 have hR3 := hR.1
 have hal_ := allowed_le (rs := rs) hR
 have hV := enter_runs (poss_is he).1
 have hS0 : Sep NoB w w [(marksR []), (sl vr 2 R.length (pairs R)), (sl vu 3 rs.length (vtrips (runV lv rs))), (segsR false lv rs)] := sep_marks (sep_ro ⟨rfl, hm, rfl, hx.runs, rfl, ⟨hx.len, hx.segs⟩, trivial⟩)
 refine c_seq ?_
 refine c_region ?_
 refine stw hA0 (op_box hS0 rfl (hA0.ev rfl) (cs := [vr]) rfl) rfl rfl (by decide) ?_
 rintro a1 _ w3 ⟨b4, rfl, hS5⟩ hA2; clear hA0 hS0 a0
 refine stw hA2 (op_box hS5 rfl (hA2.ev rfl) (cs := [(Value.int .i64 band)]) rfl) rfl rfl (by decide) ?_
 rintro a6 _ w8 ⟨b9, rfl, hS10⟩ hA7; clear hA2 hS5 a1
 refine stw hA7 (op_box hS10 rfl (hA7.ev rfl) (cs := [(Value.int .i64 s)]) rfl) rfl rfl (by decide) ?_
 rintro a11 _ w13 ⟨b14, rfl, hS15⟩ hA12; clear hA7 hS10 a6
 refine stw hA12 (op_alloc hS15 rfl ze_42 (cs := [(Value.int .i64 0), (Value.int .i64 0)]) rfl) rfl rfl (by decide) ?_
 rintro a16 _ w18 ⟨b19, rfl, hS20⟩ hA17; clear hA12 hS15 a11
 refine st hA17 (op_assign rfl (evc _ _)) rfl rfl (by decide) fun a21 hA22 => ?_; clear hA17 a16
 refine wl_nil ?_
 refine then_n ?_
 refine c_seq ?_
 refine c_region ?_
 refine st hA22 (op_loadA rfl ty_33 (hA22.ev rfl) (hS20.bk 3 rfl) (l := [vr]) rfl rfl) rfl rfl (by decide) fun a23 hA24 => ?_; clear hA22 a21
 refine st hA24 (op_move rfl (hA24.ev rfl)) rfl rfl (by decide) fun a25 hA26 => ?_; clear hA24 a23
 refine stw hA26 (op_call rfl en_53 (ev2 (hA26.ev rfl) (hA26.ev rfl)) (poss_ok R rs lv vr vu _ (hm.step hS20.ext) (hx.step hS20.ext) (by omega) (by omega) he)) rfl rfl (by decide) ?_
 rintro a27 _ w29 ⟨bj32, bm33, rfl, hT30⟩ hA28; have hS31 := hS20.callS hT30 rfl; clear hT30 hA26 hS20 a25
 refine st hA28 (op_move rfl (hA28.ev rfl)) rfl rfl (by decide) fun a34 hA35 => ?_; clear hA28 a27
 refine st hA35 (op_extract rfl (hA35.ev rfl) rfl) rfl rfl (by decide) fun a36 hA37 => ?_; clear hA35 a34
 refine st hA37 (op_extract rfl (hA37.ev rfl) rfl) rfl rfl (by decide) fun a38 hA39 => ?_; clear hA37 a36
 refine st hA39 (op_assign rfl (hA39.ev rfl)) rfl rfl (by decide) fun a40 hA41 => ?_; clear hA39 a38
 refine st hA41 (op_assign rfl (hA41.ev rfl)) rfl rfl (by decide) fun a42 hA43 => ?_; clear hA41 a40
 refine wl_nil ?_
 refine then_n ?_
 refine c_seq ?_
 refine c_block ?_
 refine c_seq ?_
 have hA44 := hA43.as [(11, (Value.int .i64 0)), (10, (bptr bj32 0)), (8, (bptr b19 0)), (7, (bptr b14 0)), (6, (bptr b9 0)), (4, (bptr b4 0))] rfl; clear hA43
 refine c_region ?_
 refine st hA44 (op_move rfl (hA44.ev rfl)) rfl rfl (by decide) fun a45 hA46 => ?_; clear hA44 a42
 refine st hA46 (op_neq rfl (hA46.ev rfl) (evc _ _)) rfl rfl (by decide) fun a47 hA48 => ?_; clear hA46 a45
 refine st hA48 (op_assign rfl (hA48.ev rfl)) rfl rfl (by decide) fun a49 hA50 => ?_; clear hA48 a47
 refine wl_nil ?_
 refine then_n ?_
 refine c_false hA50 rfl ?_
 refine c_seq ?_
 refine c_region ?_
 refine st hA50 (op_load1 rfl ty_3 (hA50.ev rfl) (hS31.bk 4 rfl) rfl) rfl rfl (by decide) fun a51 hA52 => ?_; clear hA50 a49
 refine st hA52 (op_field rfl fd_33_0 (hA52.ev rfl)) rfl rfl (by decide) fun a53 hA54 => ?_; clear hA52 a51
 refine st hA54 (op_load1 rfl ty_28 (hA54.ev rfl) (hS31.bk 5 rfl) rfl) rfl rfl (by decide) fun a55 hA56 => ?_; clear hA54 a53
 refine st hA56 (op_lenS rfl un_28 (hA56.ev rfl) (hS31.sk 7 rfl)) rfl rfl (by decide) fun a57 hA58 => ?_; clear hA56 a55
 refine st hA58 (op_sub rfl (hA58.ev rfl) (evc _ _) (by omega) (by omega)) rfl rfl (by decide) fun a59 hA60 => ?_; clear hA58 a57
 refine stw hA60 (op_call rfl en_56 (ev3 (hA60.ev rfl) (evc _ _) (hA60.ev rfl)) (within_ok _ _ _ _)) rfl rfl (by decide) ?_
 rintro a61 _ W_ ⟨rfl, hW_⟩ hA62; have hW2_ := hW_.symm; subst hW2_; clear hW_ hA60 a59
 refine st hA62 (op_not rfl (hA62.ev rfl)) rfl rfl (by decide) fun a64 hA65 => ?_; clear hA62 a61
 refine st hA65 (op_move rfl (hA65.ev rfl)) rfl rfl (by decide) fun a66 hA67 => ?_; clear hA65 a64
 rcases Bool.eq_false_or_eq_true ((decide (0 ≤ band) && decide (band ≤ ((R.length : Int) - 1)))) with hb68 | hb68
 ·skip
  rw [hb68] at hA67
  have hq69 := hb68; simp only [Bool.and_eq_true, Bool.and_eq_false_iff, decide_eq_true_eq, decide_eq_false_iff_not] at hq69
  refine stg hA67 (op_load1 rfl ty_3 (hA67.ev rfl) (hS31.bk 3 rfl) rfl) rfl rfl rfl rfl (by decide) fun a70 hA71 => ?_; clear hA67 a66
  refine stwg hA71 (op_call rfl en_56 (ev3 (hA71.ev rfl) (evc _ _) (evc _ _)) (within_ok _ _ _ _)) rfl rfl rfl rfl (by decide) ?_
  rintro a72 _ W_ ⟨rfl, hW_⟩ hA73; have hW2_ := hW_.symm; subst hW2_; clear hW_ hA71 a70
  refine stg hA73 (op_not rfl (hA73.ev rfl)) rfl rfl rfl rfl (by decide) fun a75 hA76 => ?_; clear hA73 a72
  refine st hA76 (op_pick_f rfl (hA76.ev rfl) (hA76.ev rfl)) rfl rfl (by decide) fun a77 hA78 => ?_; clear hA76 a75
  refine st hA78 (op_assign rfl (hA78.ev rfl)) rfl rfl (by decide) fun a79 hA80 => ?_; clear hA78 a77
  refine wl_nil ?_
  refine then_n ?_
  rcases Bool.eq_false_or_eq_true ((decide (0 ≤ s) && decide (s ≤ 10000000000))) with hb81 | hb81
  ·skip
   rw [hb81] at hA80
   have hq82 := hb81; simp only [Bool.and_eq_true, Bool.and_eq_false_iff, decide_eq_true_eq, decide_eq_false_iff_not] at hq82
   refine c_false hA80 rfl ?_
   refine c_skip ?_
   refine blk_n ?_
   refine then_n ?_
   refine c_seq ?_
   have hA83 := hA80.as [(10, (bptr bj32 0)), (8, (bptr b19 0)), (7, (bptr b14 0)), (6, (bptr b9 0))] rfl; clear hA80
   refine c_region ?_
   refine st hA83 (op_build rfl (pv2 (evc _ _) (evc _ _)) (bd_42_0i_1i _ _)) rfl rfl (by decide) fun a84 hA85 => ?_; clear hA83 a79
   refine stw hA85 (op_alloc hS31 rfl ze_42 (cs := [(Value.int .i64 0), (Value.int .i64 0)]) rfl) rfl rfl (by decide) ?_
   rintro a86 _ w88 ⟨b89, rfl, hS90⟩ hA87; clear hA85 hS31 a84
   refine sts hA87 (op_store hS90 rfl ty_42 (hA87.ev rfl) (hA87.ev rfl) (i := 0) rfl (vs := [(Value.int .i64 (-1)), (Value.int .i64 (-1))]) rfl rfl rfl (Nat.le_of_ble_eq_true rfl)) rfl rfl ?_
   intro _ w91 hS92 hA93; clear hA87
   have hS94 : Sep NoB w w91 [(blk b89 42 [(Value.int .i64 (-1)), (Value.int .i64 (-1))]), (blk bj32 119 [vr, vu, (Value.map (some bm33))]), (memo bm33 (KA rs)), (blk b19 42 [(Value.int .i64 0), (Value.int .i64 0)]), (blk b14 3 [(Value.int .i64 s)]), (blk b9 3 [(Value.int .i64 band)]), (blk b4 33 [vr]), (marksR []), (sl vr 2 R.length (pairs R)), (sl vu 3 rs.length (vtrips (runV lv rs))), (segsR false lv rs)] := hS92; clear hS92 hS90
   refine wl_nil ?_
   refine then_n ?_
   refine c_seq ?_
   refine c_region ?_
   refine st hA93 (op_loadA rfl ty_42 (hA93.ev rfl) (hS94.bk 0 rfl) (l := [(Value.int .i64 (-1)), (Value.int .i64 (-1))]) rfl rfl) rfl rfl (by decide) fun a95 hA96 => ?_; clear hA93 a86
   refine stw hA96 (op_alloc hS94 rfl ze_42 (cs := [(Value.int .i64 0), (Value.int .i64 0)]) rfl) rfl rfl (by decide) ?_
   rintro a97 _ w99 ⟨b100, rfl, hS101⟩ hA98; clear hA96 hS94 a95
   refine stw hA98 (op_alloc hS101 rfl ze_4 (cs := [(Value.bool false)]) rfl) rfl rfl (by decide) ?_
   rintro a102 _ w104 ⟨b105, rfl, hS106⟩ hA103; clear hA98 hS101 a97
   refine sts hA103 (op_store hS106 rfl ty_42 (hA103.ev rfl) (hA103.ev rfl) (i := 1) rfl (vs := [(Value.int .i64 (-1)), (Value.int .i64 (-1))]) rfl rfl rfl (Nat.le_of_ble_eq_true rfl)) rfl rfl ?_
   intro _ w107 hS108 hA109; clear hA103
   have hS110 : Sep NoB w w107 [(blk b105 4 [(Value.bool false)]), (blk b100 42 [(Value.int .i64 (-1)), (Value.int .i64 (-1))]), (blk b89 42 [(Value.int .i64 (-1)), (Value.int .i64 (-1))]), (blk bj32 119 [vr, vu, (Value.map (some bm33))]), (memo bm33 (KA rs)), (blk b19 42 [(Value.int .i64 0), (Value.int .i64 0)]), (blk b14 3 [(Value.int .i64 s)]), (blk b9 3 [(Value.int .i64 band)]), (blk b4 33 [vr]), (marksR []), (sl vr 2 R.length (pairs R)), (sl vu 3 rs.length (vtrips (runV lv rs))), (segsR false lv rs)] := hS108; clear hS108 hS106
   refine sts hA109 (op_store hS110 rfl ty_4 (hA109.ev rfl) (evc _ _) (i := 0) rfl (vs := [(Value.bool false)]) rfl rfl rfl (Nat.le_of_ble_eq_true rfl)) rfl rfl ?_
   intro _ w111 hS112 hA113; clear hA109
   have hS114 : Sep NoB w w111 [(blk b105 4 [(Value.bool false)]), (blk b100 42 [(Value.int .i64 (-1)), (Value.int .i64 (-1))]), (blk b89 42 [(Value.int .i64 (-1)), (Value.int .i64 (-1))]), (blk bj32 119 [vr, vu, (Value.map (some bm33))]), (memo bm33 (KA rs)), (blk b19 42 [(Value.int .i64 0), (Value.int .i64 0)]), (blk b14 3 [(Value.int .i64 s)]), (blk b9 3 [(Value.int .i64 band)]), (blk b4 33 [vr]), (marksR []), (sl vr 2 R.length (pairs R)), (sl vu 3 rs.length (vtrips (runV lv rs))), (segsR false lv rs)] := hS112; clear hS112 hS110
   refine wl_nil ?_
   refine then_n ?_
   refine c_seq ?_
   refine c_seq ?_
   refine c_region ?_
   refine st hA113 (op_move rfl (hA113.ev rfl)) rfl rfl (by decide) fun a115 hA116 => ?_; clear hA113 a102
   refine stw hA116 (op_call rfl en_54 (ev1 (hA116.ev rfl)) (every_ok _ _)) rfl rfl (by decide) ?_
   rintro a117 _ w119 ⟨bx122, rfl, hT120⟩ hA118; have hS121 := hS114.callS hT120 rfl; clear hT120 hA116 hS114 a115
   refine wl_nil ?_
   refine then_n ?_
   refine c_block ?_
   have hA123 := hA118.as [(45, (Value.func (.func 78) #[] #[(bptr bx122 0)])), (14, (bptr b105 0)), (13, (bptr b100 0)), (12, (bptr b89 0)), (8, (bptr b19 0)), (7, (bptr b14 0)), (6, (bptr b9 0))] rfl; clear hA118
   have hbd : 0 ≤ band ∧ band ≤ (R.length : Int) - 1 ∧ 0 ≤ s ∧ s ≤ 10000000000 := by omega
   have hS124 : Sep NoB w w119 [(marksR []), (memo bm33 (KA rs)), (blk bx122 97 [(bptr bj32 0)]), (blk b105 4 [(Value.bool false)]), (blk b100 42 [(Value.int .i64 (-1)), (Value.int .i64 (-1))]), (blk b89 42 [(Value.int .i64 (-1)), (Value.int .i64 (-1))]), (blk bj32 119 [vr, vu, (Value.map (some bm33))]), (blk b19 42 [(Value.int .i64 0), (Value.int .i64 0)]), (blk b14 3 [(Value.int .i64 s)]), (blk b9 3 [(Value.int .i64 band)]), (blk b4 33 [vr]), (sl vr 2 R.length (pairs R)), (sl vu 3 rs.length (vtrips (runV lv rs))), (segsR false lv rs)] := hS121.keep [10, 5, 0, 1, 2, 3, 4, 6, 7, 8, 9, 11, 12, 13] (by decide) _ rfl rfl; clear hS121
   refine c_rangeG hA123 (memo bm33 (KA rs)) rfl hS124 (hA123.ev rfl) en_78 ((allowedF R rs).length) (fun k => #[.agg (ints ((allowedF R rs).getD k [])).toArray]) (fun _ => rfl) [rob bx122 97 [bptr bj32 0], rob bj32 119 [vr, vu, .map (some bm33)], sl vr 2 R.length (pairs R), sl vu 3 rs.length (vtrips (runV lv rs)), segsR false lv rs] (fun r hr => by simp only [List.mem_cons, List.not_mem_nil, or_false] at hr; rcases hr with rfl | rfl | rfl | rfl | rfl <;> rfl) (every_it bx122 bj32 bm33 R rs lv vr vu R.length hR.1 hR hV hx.len) (fun q L_ => L_ = [(blk bx122 97 [(bptr bj32 0)]), (blk b105 4 [(Value.bool ((lifeU (allowedF R rs) band.toNat s q).2))]), (blk b100 42 [(Value.int .i64 ((lifeU (allowedF R rs) band.toNat s q).1.1)), (Value.int .i64 ((lifeU (allowedF R rs) band.toNat s q).1.2))]), (blk b89 42 [(Value.int .i64 (-1)), (Value.int .i64 (-1))]), (blk bj32 119 [vr, vu, (Value.map (some bm33))]), (blk b19 42 [(Value.int .i64 0), (Value.int .i64 0)]), (blk b14 3 [(Value.int .i64 s)]), (blk b9 3 [(Value.int .i64 band)]), (blk b4 33 [vr]), (sl vr 2 R.length (pairs R)), (sl vu 3 rs.length (vtrips (runV lv rs))), (segsR false lv rs)]) (fun _ => False) none rfl (fun q L_ hI_ G_ W_ r1_ r2_ hW_ => by obtain ⟨rfl⟩ := hI_; exact (Sep.keep ((hW_.to_ro (i := 3) rfl).to_ro (i := 7) rfl) [2, 3, 7, 12, 13, 14] (by decide) _ rfl rfl)) (fun L_ hI_ => hI_.elim) ?_ ?_ (fun _ hc_ => by cases hc_)
   ·skip
    intro q hq L_ hL_ G133 hG134 l130 D131 rc132 a125 w126 ha129 hS127; obtain ⟨rfl⟩ := hL_
    have hA128 : Fr 63 [] [(46, (Value.agg (ints ((allowedF R rs).getD q [])).toArray)), (45, (Value.func (.func 78) #[] #[(bptr bx122 0)])), (14, (bptr b105 0)), (13, (bptr b100 0)), (12, (bptr b89 0)), (8, (bptr b19 0)), (7, (bptr b14 0)), (6, (bptr b9 0))] a125 := by rw [ha129]; exact Fr.round1 hA123 (by decide)
    clear ha129 hS124
    have har := (allowed_rates hR hq).1; have hl3 := har.1; have hrb := har.2 band.toNat
    refine c_region ?_
    refine stw hA128 (op_alloc hS127 rfl ze_104 (cs := [(Value.int .i64 0), (Value.int .i64 0), (Value.int .i64 0)]) rfl) rfl rfl (by decide) ?_
    rintro a135 _ w137 ⟨b138, rfl, hS139⟩ hA136; clear hA128 hS127 a125
    refine sts hA136 (op_store hS139 rfl ty_104 (hA136.ev rfl) (hA136.ev rfl) (i := 0) rfl (vs := (ints ((allowedF R rs).getD q []))) rfl (allowed_len3 hR hq).symm (ints_one _) (by decide)) rfl rfl ?_
    intro _ w140 hS141 hA143; have hS142 := hS141.blk_say (i := 0) rfl (cs' := (ints ((allowedF R rs).getD q []))) (setFrom_all _ _ (Eq.symm (allowed_len3 hR hq).symm)); clear hS141 hA136 hS139
    refine wl_nil ?_
    have hS144 : Sep NoB w w140 [(obR l130 (.loop (rc132 .ready none))), (marksR (D131 :: [])), G133, (blk b138 104 (ints ((allowedF R rs).getD q []))), (blk bx122 97 [(bptr bj32 0)]), (blk b105 4 [(Value.bool ((lifeU (allowedF R rs) band.toNat s q).2))]), (blk b100 42 [(Value.int .i64 ((lifeU (allowedF R rs) band.toNat s q).1.1)), (Value.int .i64 ((lifeU (allowedF R rs) band.toNat s q).1.2))]), (blk b89 42 [(Value.int .i64 (-1)), (Value.int .i64 (-1))]), (blk bj32 119 [vr, vu, (Value.map (some bm33))]), (blk b19 42 [(Value.int .i64 0), (Value.int .i64 0)]), (blk b14 3 [(Value.int .i64 s)]), (blk b9 3 [(Value.int .i64 band)]), (blk b4 33 [vr]), (sl vr 2 R.length (pairs R)), (sl vu 3 rs.length (vtrips (runV lv rs))), (segsR false lv rs)] := hS142.keep [1, 2, 3, 0, 4, 5, 6, 7, 8, 9, 10, 11, 12, 13, 14, 15] (by decide) _ rfl rfl; clear hS142
    refine ⟨rfl, _, hS144, ?_⟩; intro w145 hS146; clear hS144
    refine c_block ?_
    refine c_seq ?_
    have hA147 := hA143.as [(15, (bptr b138 0)), (14, (bptr b105 0)), (13, (bptr b100 0)), (12, (bptr b89 0)), (7, (bptr b14 0)), (6, (bptr b9 0))] rfl; clear hA143
    refine c_drawn mixed hA147 hS146 4 [[], [0], [1], []] [(Yd.val (Value.int .i64 band)), (Yd.val (bptr b138 (0 + band.toNat * 1))), (Yd.val (Value.int .i64 (((allowedF R rs).getD q []).getD band.toNat 0))), (Yd.val (Value.int .i64 s))] (by decide +kernel) rfl rfl ?_ ?_
    ·skip
     refine ⟨fun a w hA hS hd => by exact opG_of rfl (dv (op_load1 rfl ty_3 (hA.ev rfl) (hS.bk 11 rfl) rfl) hS rfl), ?_⟩
     refine ⟨fun a w hA hS hd => by have e0 := has_ev (hd 0 (by decide)) rfl (fun _ h => h); exact opG_of rfl (dv (op_indexA rfl un_104 ty_3 (hA.ev rfl) (i := band.toNat) ((tmp_ev e0).trans (int_nat (by omega))) (by omega)) hS rfl), ?_⟩
     refine ⟨fun a w hA hS hd => by have e1 := has_ev (hd 1 (by decide)) rfl (fun _ h => h); exact opG_of rfl (dv (op_load1 rfl ty_3 (tmp_ev e1) (hS.bk 3 rfl) (ints_at' (by first | (simp only [List.length_set]; omega) | omega))) hS rfl), ?_⟩
     refine ⟨fun a w hA hS hd => by exact opG_of rfl (dv (op_load1 rfl ty_3 (hA.ev rfl) (hS.bk 10 rfl) rfl) hS rfl), ?_⟩
     trivial
    intro a149 w150 hA151 hS152 hH153; clear hA147 hS146
    have hA154 := hA151.add (has_ev (hH153 2 (by decide)) rfl (fun _ h => h)); clear hA151
    have hA155 := hA154.add (has_ev (hH153 3 (by decide)) rfl (fun _ h => h)); clear hA154
    clear hH153
    refine stw hA155 (op_call rfl en_57 (ev2 (hA155.ev rfl) (hA155.ev rfl)) (hours_ok _ _ _ (by omega) (by omega))) rfl rfl (by decide) ?_
    rintro a156 _ w158 ⟨rfl, hE159⟩ hA157; have hS160 := hS152.step hE159; clear hE159 hA155 hS152 a149
    refine st hA157 (op_assign rfl (hA157.ev rfl)) rfl rfl (by decide) fun a161 hA162 => ?_; clear hA157 a156
    refine wl_nil ?_
    refine then_n ?_
    refine c_seq ?_
    refine c_seq ?_
    have hA163 := hA162.as [(16, (Value.int .i64 (hoursF (((allowedF R rs).getD q []).getD band.toNat 0) s))), (14, (bptr b105 0)), (13, (bptr b100 0)), (12, (bptr b89 0))] rfl; clear hA162
    refine c_region ?_
    refine st hA163 (op_move rfl (hA163.ev rfl)) rfl rfl (by decide) fun a164 hA165 => ?_; clear hA163 a161
    refine st hA165 (op_eql rfl (hA165.ev rfl) (evc _ _)) rfl rfl (by decide) fun a166 hA167 => ?_; clear hA165 a164
    refine wl_nil ?_
    refine then_n ?_
    by_cases hb168 : (hoursF (((allowedF R rs).getD q []).getD band.toNat 0) s) = (-1)
    ·skip
     rw [decide_eq_true hb168] at hA167
     refine c_true hA167 rfl ?_
     refine c_seq ?_
     refine c_region ?_
     refine sts hA167 (op_store hS160 rfl ty_4 (hA167.ev rfl) (evc _ _) (i := 5) rfl (vs := [(Value.bool true)]) rfl rfl rfl (Nat.le_of_ble_eq_true rfl)) rfl rfl ?_
     intro _ w169 hS170 hA171; clear hA167
     have hS172 : Sep NoB w w169 [(obR l130 (.loop (rc132 .busy none))), (marksR (D131 :: [])), G133, (blk b138 104 (ints ((allowedF R rs).getD q []))), (blk bx122 97 [(bptr bj32 0)]), (blk b105 4 [(Value.bool true)]), (blk b100 42 [(Value.int .i64 ((lifeU (allowedF R rs) band.toNat s q).1.1)), (Value.int .i64 ((lifeU (allowedF R rs) band.toNat s q).1.2))]), (blk b89 42 [(Value.int .i64 (-1)), (Value.int .i64 (-1))]), (blk bj32 119 [vr, vu, (Value.map (some bm33))]), (blk b19 42 [(Value.int .i64 0), (Value.int .i64 0)]), (blk b14 3 [(Value.int .i64 s)]), (blk b9 3 [(Value.int .i64 band)]), (blk b4 33 [vr]), (sl vr 2 R.length (pairs R)), (sl vu 3 rs.length (vtrips (runV lv rs))), (segsR false lv rs)] := hS170; clear hS170 hS160
     refine wl_nil ?_
     refine then_n ?_
     refine c_exit ?_
     refine then_exit ?_
     refine blk_hit ?_
     have hS173 : Sep NoB w w169 [(obR l130 (.loop (rc132 .busy none))), (marksR (D131 :: [])), G133, (blk bx122 97 [(bptr bj32 0)]), (blk b105 4 [(Value.bool true)]), (blk b100 42 [(Value.int .i64 ((lifeU (allowedF R rs) band.toNat s q).1.1)), (Value.int .i64 ((lifeU (allowedF R rs) band.toNat s q).1.2))]), (blk b89 42 [(Value.int .i64 (-1)), (Value.int .i64 (-1))]), (blk bj32 119 [vr, vu, (Value.map (some bm33))]), (blk b19 42 [(Value.int .i64 0), (Value.int .i64 0)]), (blk b14 3 [(Value.int .i64 s)]), (blk b9 3 [(Value.int .i64 band)]), (blk b4 33 [vr]), (sl vr 2 R.length (pairs R)), (sl vu 3 rs.length (vtrips (runV lv rs))), (segsR false lv rs)] := hS172.keep [0, 1, 2, 4, 5, 6, 7, 8, 9, 10, 11, 12, 13, 14, 15] (by decide) _ rfl rfl; clear hS172
     exact re_n ⟨_, rfl, rfl⟩ ((hS173.blk_say (i := 5) rfl (cs' := [.int .i64 (lifeU (allowedF R rs) band.toNat s (q + 1)).1.1, .int .i64 (lifeU (allowedF R rs) band.toNat s (q + 1)).1.2]) (by first | (rw [lifeU_y (by assumption)]; done) | (rw [lifeU_n (by assumption)]; done) | (rw [lifeU_n (by assumption)]; rfl))).blk_say (i := 4) rfl (cs' := [Value.bool (lifeU (allowedF R rs) band.toNat s (q + 1)).2]) (by first | (rw [lifeU_y (by assumption)]; done) | (rw [lifeU_n (by assumption)]; done) | (rw [lifeU_n (by assumption)]; rfl)))
    ·skip
     rw [decide_eq_false hb168] at hA167
     refine c_false hA167 rfl ?_
     refine c_skip ?_
     refine then_n ?_
     have hA174 := hA167.as [(16, (Value.int .i64 (hoursF (((allowedF R rs).getD q []).getD band.toNat 0) s))), (13, (bptr b100 0)), (12, (bptr b89 0))] rfl; clear hA167
     refine c_drawn mixed hA174 hS160 5 [[], [], [], [], [2, 3]] [(Yd.val (Value.agg #[(Value.int .i64 ((lifeU (allowedF R rs) band.toNat s q).1.1)), (Value.int .i64 ((lifeU (allowedF R rs) band.toNat s q).1.2))])), (Yd.val (Value.int .i64 (hoursF (((allowedF R rs).getD q []).getD band.toNat 0) s))), (Yd.val (Value.agg #[(Value.int .i64 ((lifeU (allowedF R rs) band.toNat s q).1.1)), (Value.int .i64 ((lifeU (allowedF R rs) band.toNat s q).1.2))])), (Yd.val (Value.agg #[(Value.int .i64 (-1)), (Value.int .i64 (-1))])), (Yd.val (Value.bool (decide ((((lifeU (allowedF R rs) band.toNat s q).1.1) : Int) = (-1)) && decide ((((lifeU (allowedF R rs) band.toNat s q).1.2) : Int) = (-1)))))] (by decide +kernel) rfl rfl ?_ ?_
     ·skip
      refine ⟨fun a w hA hS hd => by exact opG_of rfl (dv (op_loadA rfl ty_42 (hA.ev rfl) (hS.bk 6 rfl) (l := [(Value.int .i64 ((lifeU (allowedF R rs) band.toNat s q).1.1)), (Value.int .i64 ((lifeU (allowedF R rs) band.toNat s q).1.2))]) rfl rfl) hS rfl), ?_⟩
      refine ⟨fun a w hA hS hd => by exact opG_of rfl (dv (op_move rfl (hA.ev rfl)) hS rfl), ?_⟩
      refine ⟨fun a w hA hS hd => by exact opG_of rfl (dv (op_loadA rfl ty_42 (hA.ev rfl) (hS.bk 6 rfl) (l := [(Value.int .i64 ((lifeU (allowedF R rs) band.toNat s q).1.1)), (Value.int .i64 ((lifeU (allowedF R rs) band.toNat s q).1.2))]) rfl rfl) hS rfl), ?_⟩
      refine ⟨fun a w hA hS hd => by exact opG_of rfl (dv (op_loadA rfl ty_42 (hA.ev rfl) (hS.bk 7 rfl) (l := [(Value.int .i64 (-1)), (Value.int .i64 (-1))]) rfl rfl) hS rfl), ?_⟩
      refine ⟨fun a w hA hS hd => by have e2 := has_ev (hd 2 (by decide)) rfl (fun _ h => h); have e3 := has_ev (hd 3 (by decide)) rfl (fun _ h => h); exact opG_of rfl (dv (op_eqlP tw_42 rfl (tmp_ev e2) (tmp_ev e3)) hS rfl), ?_⟩
      trivial
     intro a176 w177 hA178 hS179 hH180; clear hA174 hS160
     have hA181 := hA178.add (has_ev (hH180 0 (by decide)) rfl (fun _ h => h)); clear hA178
     have hA182 := hA181.add (has_ev (hH180 1 (by decide)) rfl (fun _ h => h)); clear hA181
     have hA183 := hA182.add (has_ev (hH180 4 (by decide)) rfl (fun _ h => h)); clear hA182
     clear hH180
     refine stw hA183 (op_call rfl en_55 (ev3 (hA183.ev rfl) (hA183.ev rfl) (hA183.ev rfl)) (with_ok _ _ _ (decide ((((lifeU (allowedF R rs) band.toNat s q).1.1) : Int) = (-1)) && decide ((((lifeU (allowedF R rs) band.toNat s q).1.2) : Int) = (-1))) _)) rfl rfl (by decide) ?_
     rintro a184 _ w186 ⟨rfl, hE187⟩ hA185; have hS188 := hS179.step hE187; clear hE187 hA183 hS179 a176
     refine sts hA185 (op_store hS188 rfl ty_42 (hA185.ev rfl) (hA185.ev rfl) (i := 6) rfl (vs := [(Value.int .i64 (if (decide ((((lifeU (allowedF R rs) band.toNat s q).1.1) : Int) = (-1)) && decide ((((lifeU (allowedF R rs) band.toNat s q).1.2) : Int) = (-1))) = true then hoursF (((allowedF R rs).getD q []).getD band.toNat 0) s else min ((lifeU (allowedF R rs) band.toNat s q).1.1) (hoursF (((allowedF R rs).getD q []).getD band.toNat 0) s))), (Value.int .i64 (if (decide ((((lifeU (allowedF R rs) band.toNat s q).1.1) : Int) = (-1)) && decide ((((lifeU (allowedF R rs) band.toNat s q).1.2) : Int) = (-1))) = true then hoursF (((allowedF R rs).getD q []).getD band.toNat 0) s else max ((lifeU (allowedF R rs) band.toNat s q).1.2) (hoursF (((allowedF R rs).getD q []).getD band.toNat 0) s)))]) rfl rfl rfl (Nat.le_of_ble_eq_true rfl)) rfl rfl ?_
     intro _ w189 hS190 hA191; clear hA185
     have hS192 : Sep NoB w w189 [(obR l130 (.loop (rc132 .busy none))), (marksR (D131 :: [])), G133, (blk b138 104 (ints ((allowedF R rs).getD q []))), (blk bx122 97 [(bptr bj32 0)]), (blk b105 4 [(Value.bool ((lifeU (allowedF R rs) band.toNat s q).2))]), (blk b100 42 [(Value.int .i64 (if (decide ((((lifeU (allowedF R rs) band.toNat s q).1.1) : Int) = (-1)) && decide ((((lifeU (allowedF R rs) band.toNat s q).1.2) : Int) = (-1))) = true then hoursF (((allowedF R rs).getD q []).getD band.toNat 0) s else min ((lifeU (allowedF R rs) band.toNat s q).1.1) (hoursF (((allowedF R rs).getD q []).getD band.toNat 0) s))), (Value.int .i64 (if (decide ((((lifeU (allowedF R rs) band.toNat s q).1.1) : Int) = (-1)) && decide ((((lifeU (allowedF R rs) band.toNat s q).1.2) : Int) = (-1))) = true then hoursF (((allowedF R rs).getD q []).getD band.toNat 0) s else max ((lifeU (allowedF R rs) band.toNat s q).1.2) (hoursF (((allowedF R rs).getD q []).getD band.toNat 0) s)))]), (blk b89 42 [(Value.int .i64 (-1)), (Value.int .i64 (-1))]), (blk bj32 119 [vr, vu, (Value.map (some bm33))]), (blk b19 42 [(Value.int .i64 0), (Value.int .i64 0)]), (blk b14 3 [(Value.int .i64 s)]), (blk b9 3 [(Value.int .i64 band)]), (blk b4 33 [vr]), (sl vr 2 R.length (pairs R)), (sl vu 3 rs.length (vtrips (runV lv rs))), (segsR false lv rs)] := hS190; clear hS190 hS188
     refine wl_nil ?_
     refine blk_n ?_
     have hS193 : Sep NoB w w189 [(obR l130 (.loop (rc132 .busy none))), (marksR (D131 :: [])), G133, (blk bx122 97 [(bptr bj32 0)]), (blk b105 4 [(Value.bool ((lifeU (allowedF R rs) band.toNat s q).2))]), (blk b100 42 [(Value.int .i64 (if (decide ((((lifeU (allowedF R rs) band.toNat s q).1.1) : Int) = (-1)) && decide ((((lifeU (allowedF R rs) band.toNat s q).1.2) : Int) = (-1))) = true then hoursF (((allowedF R rs).getD q []).getD band.toNat 0) s else min ((lifeU (allowedF R rs) band.toNat s q).1.1) (hoursF (((allowedF R rs).getD q []).getD band.toNat 0) s))), (Value.int .i64 (if (decide ((((lifeU (allowedF R rs) band.toNat s q).1.1) : Int) = (-1)) && decide ((((lifeU (allowedF R rs) band.toNat s q).1.2) : Int) = (-1))) = true then hoursF (((allowedF R rs).getD q []).getD band.toNat 0) s else max ((lifeU (allowedF R rs) band.toNat s q).1.2) (hoursF (((allowedF R rs).getD q []).getD band.toNat 0) s)))]), (blk b89 42 [(Value.int .i64 (-1)), (Value.int .i64 (-1))]), (blk bj32 119 [vr, vu, (Value.map (some bm33))]), (blk b19 42 [(Value.int .i64 0), (Value.int .i64 0)]), (blk b14 3 [(Value.int .i64 s)]), (blk b9 3 [(Value.int .i64 band)]), (blk b4 33 [vr]), (sl vr 2 R.length (pairs R)), (sl vu 3 rs.length (vtrips (runV lv rs))), (segsR false lv rs)] := hS192.keep [0, 1, 2, 4, 5, 6, 7, 8, 9, 10, 11, 12, 13, 14, 15] (by decide) _ rfl rfl; clear hS192
     exact re_n ⟨_, rfl, rfl⟩ ((hS193.blk_say (i := 5) rfl (cs' := [.int .i64 (lifeU (allowedF R rs) band.toNat s (q + 1)).1.1, .int .i64 (lifeU (allowedF R rs) band.toNat s (q + 1)).1.2]) (by first | (rw [lifeU_y (by assumption)]; done) | (rw [lifeU_n (by assumption)]; done) | (rw [lifeU_n (by assumption)]; rfl))).blk_say (i := 4) rfl (cs' := [Value.bool (lifeU (allowedF R rs) band.toNat s (q + 1)).2]) (by first | (rw [lifeU_y (by assumption)]; done) | (rw [lifeU_n (by assumption)]; done) | (rw [lifeU_n (by assumption)]; rfl)))
   intro L_ hL_ D198 a194 w195 hA197 hS196; obtain ⟨rfl⟩ := hL_; clear hA123 hS124
   refine blk_n ?_
   refine then_n ?_
   refine c_seq ?_
   refine c_seq ?_
   refine c_region ?_
   refine st hA197 (op_load1 rfl ty_4 (hA197.ev rfl) (hS196.bk 3 rfl) rfl) rfl rfl (by decide) fun a199 hA200 => ?_; clear hA197 a194
   refine wl_nil ?_
   refine then_n ?_
   rcases Bool.eq_false_or_eq_true ((lifeU (allowedF R rs) band.toNat s (allowedF R rs).length).2) with hb201 | hb201
   ·skip
    rw [hb201] at hA200
    refine c_true hA200 rfl ?_
    have hA202 := hA200.as [(13, (bptr b100 0)), (8, (bptr b19 0))] rfl; clear hA200
    refine c_region ?_
    refine st hA202 (op_field rfl fd_42_1 (hA202.ev rfl)) rfl rfl (by decide) fun a203 hA204 => ?_; clear hA202 a199
    refine sts hA204 (op_store hS196 rfl ty_3 (hA204.ev rfl) (evc _ _) (i := 4) rfl (vs := [(Value.int .i64 (-1))]) rfl rfl rfl (Nat.le_of_ble_eq_true rfl)) rfl rfl ?_
    intro _ w205 hS206 hA207; clear hA204
    have hS208 : Sep NoB w w205 [(marksR (D198 :: [])), (memo bm33 (KA rs)), (blk bx122 97 [(bptr bj32 0)]), (blk b105 4 [(Value.bool ((lifeU (allowedF R rs) band.toNat s (allowedF R rs).length).2))]), (blk b100 42 [(Value.int .i64 ((lifeU (allowedF R rs) band.toNat s (allowedF R rs).length).1.1)), (Value.int .i64 (-1))]), (blk b89 42 [(Value.int .i64 (-1)), (Value.int .i64 (-1))]), (blk bj32 119 [vr, vu, (Value.map (some bm33))]), (blk b19 42 [(Value.int .i64 0), (Value.int .i64 0)]), (blk b14 3 [(Value.int .i64 s)]), (blk b9 3 [(Value.int .i64 band)]), (blk b4 33 [vr]), (sl vr 2 R.length (pairs R)), (sl vu 3 rs.length (vtrips (runV lv rs))), (segsR false lv rs)] := hS206; clear hS206 hS196
    refine wl_nil ?_
    refine then_n ?_
    refine c_seq ?_
    refine c_region ?_
    refine st hA207 (op_loadA rfl ty_42 (hA207.ev rfl) (hS208.bk 4 rfl) (l := [(Value.int .i64 ((lifeU (allowedF R rs) band.toNat s (allowedF R rs).length).1.1)), (Value.int .i64 (-1))]) rfl rfl) rfl rfl (by decide) fun a209 hA210 => ?_; clear hA207 a203
    refine sts hA210 (op_store hS208 rfl ty_42 (hA210.ev rfl) (hA210.ev rfl) (i := 7) rfl (vs := [(Value.int .i64 ((lifeU (allowedF R rs) band.toNat s (allowedF R rs).length).1.1)), (Value.int .i64 (-1))]) rfl rfl rfl (Nat.le_of_ble_eq_true rfl)) rfl rfl ?_
    intro _ w211 hS212 hA213; clear hA210
    have hS214 : Sep NoB w w211 [(marksR (D198 :: [])), (memo bm33 (KA rs)), (blk bx122 97 [(bptr bj32 0)]), (blk b105 4 [(Value.bool ((lifeU (allowedF R rs) band.toNat s (allowedF R rs).length).2))]), (blk b100 42 [(Value.int .i64 ((lifeU (allowedF R rs) band.toNat s (allowedF R rs).length).1.1)), (Value.int .i64 (-1))]), (blk b89 42 [(Value.int .i64 (-1)), (Value.int .i64 (-1))]), (blk bj32 119 [vr, vu, (Value.map (some bm33))]), (blk b19 42 [(Value.int .i64 ((lifeU (allowedF R rs) band.toNat s (allowedF R rs).length).1.1)), (Value.int .i64 (-1))]), (blk b14 3 [(Value.int .i64 s)]), (blk b9 3 [(Value.int .i64 band)]), (blk b4 33 [vr]), (sl vr 2 R.length (pairs R)), (sl vu 3 rs.length (vtrips (runV lv rs))), (segsR false lv rs)] := hS212; clear hS212 hS208
    refine st hA213 (op_assign rfl (evc _ _)) rfl rfl (by decide) fun a215 hA216 => ?_; clear hA213 a209
    refine wl_nil ?_
    refine then_n ?_
    refine c_ret ?_
    refine fin_runM hA216 (.inl rfl) hS214 ?_
    intro w217 hS218; clear hS214
    refine ⟨_, (run_results2 hA216 rfl (.cellA rfl ty_42 (hS218.bk 6 rfl) (l := [(Value.int .i64 ((lifeU (allowedF R rs) band.toNat s (allowedF R rs).length).1.1)), (Value.int .i64 (-1))]) rfl rfl) (.tmp rfl)), ?_⟩
    exact .inr ⟨life_0 he (by omega), by unfold lifeR; first | rw [if_pos (by assumption)] | rw [if_neg (by simp [*])], hS218.ext⟩
   ·skip
    rw [hb201] at hA200
    refine c_false hA200 rfl ?_
    refine c_skip ?_
    refine then_n ?_
    refine c_seq ?_
    have hA219 := hA200.as [(13, (bptr b100 0)), (8, (bptr b19 0))] rfl; clear hA200
    refine c_region ?_
    refine st hA219 (op_loadA rfl ty_42 (hA219.ev rfl) (hS196.bk 4 rfl) (l := [(Value.int .i64 ((lifeU (allowedF R rs) band.toNat s (allowedF R rs).length).1.1)), (Value.int .i64 ((lifeU (allowedF R rs) band.toNat s (allowedF R rs).length).1.2))]) rfl rfl) rfl rfl (by decide) fun a220 hA221 => ?_; clear hA219 a199
    refine sts hA221 (op_store hS196 rfl ty_42 (hA221.ev rfl) (hA221.ev rfl) (i := 7) rfl (vs := [(Value.int .i64 ((lifeU (allowedF R rs) band.toNat s (allowedF R rs).length).1.1)), (Value.int .i64 ((lifeU (allowedF R rs) band.toNat s (allowedF R rs).length).1.2))]) rfl rfl rfl (Nat.le_of_ble_eq_true rfl)) rfl rfl ?_
    intro _ w222 hS223 hA224; clear hA221
    have hS225 : Sep NoB w w222 [(marksR (D198 :: [])), (memo bm33 (KA rs)), (blk bx122 97 [(bptr bj32 0)]), (blk b105 4 [(Value.bool ((lifeU (allowedF R rs) band.toNat s (allowedF R rs).length).2))]), (blk b100 42 [(Value.int .i64 ((lifeU (allowedF R rs) band.toNat s (allowedF R rs).length).1.1)), (Value.int .i64 ((lifeU (allowedF R rs) band.toNat s (allowedF R rs).length).1.2))]), (blk b89 42 [(Value.int .i64 (-1)), (Value.int .i64 (-1))]), (blk bj32 119 [vr, vu, (Value.map (some bm33))]), (blk b19 42 [(Value.int .i64 ((lifeU (allowedF R rs) band.toNat s (allowedF R rs).length).1.1)), (Value.int .i64 ((lifeU (allowedF R rs) band.toNat s (allowedF R rs).length).1.2))]), (blk b14 3 [(Value.int .i64 s)]), (blk b9 3 [(Value.int .i64 band)]), (blk b4 33 [vr]), (sl vr 2 R.length (pairs R)), (sl vu 3 rs.length (vtrips (runV lv rs))), (segsR false lv rs)] := hS223; clear hS223 hS196
    refine st hA224 (op_assign rfl (evc _ _)) rfl rfl (by decide) fun a226 hA227 => ?_; clear hA224 a220
    refine wl_nil ?_
    refine then_n ?_
    refine c_ret ?_
    refine fin_runM hA227 (.inl rfl) hS225 ?_
    intro w228 hS229; clear hS225
    refine ⟨_, (run_results2 hA227 rfl (.cellA rfl ty_42 (hS229.bk 6 rfl) (l := [(Value.int .i64 ((lifeU (allowedF R rs) band.toNat s (allowedF R rs).length).1.1)), (Value.int .i64 ((lifeU (allowedF R rs) band.toNat s (allowedF R rs).length).1.2))]) rfl rfl) (.tmp rfl)), ?_⟩
    exact .inr ⟨life_0 he (by omega), by unfold lifeR; first | rw [if_pos (by assumption)] | rw [if_neg (by simp [*])], hS229.ext⟩
  ·skip
   rw [hb81] at hA80
   have hq230 := hb81; simp only [Bool.and_eq_true, Bool.and_eq_false_iff, decide_eq_true_eq, decide_eq_false_iff_not] at hq230
   refine c_true hA80 rfl ?_
   refine c_seq ?_
   have hA231 := hA80.as [(8, (bptr b19 0))] rfl; clear hA80
   refine c_region ?_
   refine st hA231 (op_build rfl pv0 bd_42_) rfl rfl (by decide) fun a232 hA233 => ?_; clear hA231 a79
   refine sts hA233 (op_store hS31 rfl ty_42 (hA233.ev rfl) (hA233.ev rfl) (i := 2) rfl (vs := [(Value.int .i64 0), (Value.int .i64 0)]) rfl rfl rfl (Nat.le_of_ble_eq_true rfl)) rfl rfl ?_
   intro _ w234 hS235 hA236; clear hA233
   have hS237 : Sep NoB w w234 [(blk bj32 119 [vr, vu, (Value.map (some bm33))]), (memo bm33 (KA rs)), (blk b19 42 [(Value.int .i64 0), (Value.int .i64 0)]), (blk b14 3 [(Value.int .i64 s)]), (blk b9 3 [(Value.int .i64 band)]), (blk b4 33 [vr]), (marksR []), (sl vr 2 R.length (pairs R)), (sl vu 3 rs.length (vtrips (runV lv rs))), (segsR false lv rs)] := hS235; clear hS235 hS31
   refine st hA236 (op_assign rfl (evc _ _)) rfl rfl (by decide) fun a238 hA239 => ?_; clear hA236 a232
   refine wl_nil ?_
   refine then_n ?_
   refine c_ret ?_
   refine blk_ret ?_
   refine then_ret ?_
   have hS240 : Sep NoB w w234 [(marksR []), (blk bj32 119 [vr, vu, (Value.map (some bm33))]), (memo bm33 (KA rs)), (blk b19 42 [(Value.int .i64 0), (Value.int .i64 0)]), (blk b14 3 [(Value.int .i64 s)]), (blk b9 3 [(Value.int .i64 band)]), (blk b4 33 [vr]), (sl vr 2 R.length (pairs R)), (sl vu 3 rs.length (vtrips (runV lv rs))), (segsR false lv rs)] := hS237.keep [6, 0, 1, 2, 3, 4, 5, 7, 8, 9] (by decide) _ rfl rfl; clear hS237
   refine fin_runM hA239 (.inl rfl) hS240 ?_
   intro w241 hS242; clear hS240
   refine ⟨_, (run_results2 hA239 rfl (.cellA rfl ty_42 (hS242.bk 2 rfl) (l := [(Value.int .i64 0), (Value.int .i64 0)]) rfl rfl) (.tmp rfl)), ?_⟩
   exact .inl ⟨life_2 he (by omega), rfl, hS242.ext⟩
 ·skip
  rw [hb68] at hA67
  have hq243 := hb68; simp only [Bool.and_eq_true, Bool.and_eq_false_iff, decide_eq_true_eq, decide_eq_false_iff_not] at hq243
  refine skp hA67 rfl rfl rfl rfl rfl (by decide) fun a244 hA245 => ?_; clear hA67 a66
  refine skp hA245 rfl rfl rfl rfl rfl (by decide) fun a246 hA247 => ?_; clear hA245 a244
  refine skp hA247 rfl rfl rfl rfl rfl (by decide) fun a248 hA249 => ?_; clear hA247 a246
  refine st hA249 (op_pick_t rfl (hA249.ev rfl) (evc _ _)) rfl rfl (by decide) fun a250 hA251 => ?_; clear hA249 a248
  refine st hA251 (op_assign rfl (hA251.ev rfl)) rfl rfl (by decide) fun a252 hA253 => ?_; clear hA251 a250
  refine wl_nil ?_
  refine then_n ?_
  refine c_true hA253 rfl ?_
  refine c_seq ?_
  have hA254 := hA253.as [(8, (bptr b19 0))] rfl; clear hA253
  refine c_region ?_
  refine st hA254 (op_build rfl pv0 bd_42_) rfl rfl (by decide) fun a255 hA256 => ?_; clear hA254 a252
  refine sts hA256 (op_store hS31 rfl ty_42 (hA256.ev rfl) (hA256.ev rfl) (i := 2) rfl (vs := [(Value.int .i64 0), (Value.int .i64 0)]) rfl rfl rfl (Nat.le_of_ble_eq_true rfl)) rfl rfl ?_
  intro _ w257 hS258 hA259; clear hA256
  have hS260 : Sep NoB w w257 [(blk bj32 119 [vr, vu, (Value.map (some bm33))]), (memo bm33 (KA rs)), (blk b19 42 [(Value.int .i64 0), (Value.int .i64 0)]), (blk b14 3 [(Value.int .i64 s)]), (blk b9 3 [(Value.int .i64 band)]), (blk b4 33 [vr]), (marksR []), (sl vr 2 R.length (pairs R)), (sl vu 3 rs.length (vtrips (runV lv rs))), (segsR false lv rs)] := hS258; clear hS258 hS31
  refine st hA259 (op_assign rfl (evc _ _)) rfl rfl (by decide) fun a261 hA262 => ?_; clear hA259 a255
  refine wl_nil ?_
  refine then_n ?_
  refine c_ret ?_
  refine blk_ret ?_
  refine then_ret ?_
  have hS263 : Sep NoB w w257 [(marksR []), (blk bj32 119 [vr, vu, (Value.map (some bm33))]), (memo bm33 (KA rs)), (blk b19 42 [(Value.int .i64 0), (Value.int .i64 0)]), (blk b14 3 [(Value.int .i64 s)]), (blk b9 3 [(Value.int .i64 band)]), (blk b4 33 [vr]), (sl vr 2 R.length (pairs R)), (sl vu 3 rs.length (vtrips (runV lv rs))), (segsR false lv rs)] := hS260.keep [6, 0, 1, 2, 3, 4, 5, 7, 8, 9] (by decide) _ rfl rfl; clear hS260
  refine fin_runM hA262 (.inl rfl) hS263 ?_
  intro w264 hS265; clear hS263
  refine ⟨_, (run_results2 hA262 rfl (.cellA rfl ty_42 (hS265.bk 2 rfl) (l := [(Value.int .i64 0), (Value.int .i64 0)]) rfl rfl) (.tmp rfl)), ?_⟩
  exact .inl ⟨life_2 he (by omega), rfl, hS265.ext⟩
end Go.Proofs.Ytkkglkdnnfegkaa

namespace Go.Proofs.Ytkkglkdnnfegkaa
open Go.RowKit Go.Eng
theorem all_yes {n : Nat} {p : Nat → Bool} (h : ∀ i, i < n → p i = true) : (List.range n).all p = true := List.all_eq_true.2 fun i hi => h i (List.mem_range.1 hi)
theorem all_no {n k : Nat} {p : Nat → Bool} (hk : k < n) (h : p k = false) : (List.range n).all p = false := by
  rw [List.all_eq_false]
  exact ⟨k, List.mem_range.2 hk, by rw [h]; decide⟩
end Go.Proofs.Ytkkglkdnnfegkaa

namespace Go.Proofs.Ytkkglkdnnfegkaa
open Go.RowKit Go.Shelf Go.Eng
theorem runsAt_nil (w : World) : RunsAt w (.slice none 0 0) [] [] := ⟨slAt_nil _ 3, rfl, fun i hi => absurd hi (Nat.not_lt_zero _)⟩
end Go.Proofs.Ytkkglkdnnfegkaa

namespace Go.Proofs.Ytkkglkdnnfegkaa
open Go.RowKit Go.Shelf Go.Eng
end Go.Proofs.Ytkkglkdnnfegkaa

namespace Go.Proofs.Ytkkglkdnnfegkaa
open Go.RowKit Go.Eng
end Go.Proofs.Ytkkglkdnnfegkaa
namespace Go.Eng
open Go.RowKit Go.Eng
open Go.Proofs.Ytkkglkdnnfegkaa
section
variable {X : Nat → Prop} {w0 w : World} {L : List Res}
theorem Sep.segs_nil (h : Eng.Sep X w0 w L) : Eng.Sep X w0 w (segsR true [] [] :: L) := h.push (Ext.refl _ _) ⟨rfl, fun i hi => by simp at hi⟩ (fun b ⟨i, hi, _⟩ => by simp at hi)
theorem Sep.segs_snoc {u : Value} {e : TypeId} {x : RunD} {lv : List Value} {rs : List RunD} (h : Eng.Sep X w0 w (row u e 3 x.segs.length (trips x.segs) :: segsR true lv rs :: L)) : Eng.Sep X w0 w (segsR true (lv ++ [u]) (rs ++ [x]) :: L) := by
  have h1 : (segsR true lv rs).p w := h.ok 1 _ rfl
  have h0 : SlAt w u 3 x.segs.length (trips x.segs) := SlAt.of_row (h.ok_row 0 rfl)
  have each : ∀ i, i < (rs ++ [x]).length → ((lv ++ [u]).getD i nilS = lv.getD i nilS ∧ (rs ++ [x]).getD i run0 = rs.getD i run0 ∧ i < rs.length) ∨ ((lv ++ [u]).getD i nilS = u ∧ (rs ++ [x]).getD i run0 = x) := fun i hi => by
    simp only [List.length_append, List.length_cons, List.length_nil] at hi
    rw [getD_app, getD_app, h1.1]
    by_cases hl : i < rs.length
    · rw [if_pos hl, if_pos hl]; exact .inl ⟨rfl, rfl, hl⟩
    · rw [if_neg hl, if_neg hl, if_pos (by omega), if_pos (by omega)]; exact .inr ⟨rfl, rfl⟩
  refine h.join ⟨by simp [h1.1], fun i hi => ?_⟩ (fun b ⟨i, hi, hb⟩ => ?_) (fun _ => ⟨rfl, rfl⟩) (fun _ => trivial)
  · rcases each i hi with ⟨e1, e2, e3⟩ | ⟨e1, e2⟩
    · rw [e1, e2]; exact h1.2 i e3
    · rw [e1, e2]; exact h0
  · rcases each i hi with ⟨e1, e2, e3⟩ | ⟨e1, e2⟩
    · rw [e1, e2] at hb; exact .inr ⟨i, e3, hb⟩
    · rw [e1, e2] at hb; exact .inl (slFoot_row hb)
theorem Sep.runs_join {v : Value} {e : TypeId} {n : Nat} {lv : List Value} {rs : List RunD} (h : Eng.Sep X w0 w (row v e 3 n (vtrips (runV lv rs)) :: segsR true lv rs :: L)) (hn : n = rs.length) : Eng.Sep X w0 w (runsR true v lv rs :: L) := by
  subst hn
  have h1 : (segsR true lv rs).p w := h.ok 1 _ rfl
  refine h.join ⟨SlAt.of_row (h.ok_row 0 rfl), h1.1, h1.2⟩ (fun b hb => ?_) (fun _ => ⟨rfl, rfl⟩) (fun _ => trivial)
  rcases hb with hb | hb
  · exact .inl (slFoot_row hb)
  · exact .inr hb
end
end Go.Eng
namespace Go.Proofs.Ytkkglkdnnfegkaa
open Go.RowKit Go.Eng
end Go.Proofs.Ytkkglkdnnfegkaa

namespace Go.Proofs.Ytkkglkdnnfegkaa
open Go.RowKit Go.Shelf Go.Eng
theorem ze_33 : (Try.prog.info? 33).bind (·.zero) = some (Value.agg #[(Value.slice none 0 0)]) := by kernel_rfl
theorem bs_42_1_0iia (x0_0 : Int) (x0_1 : Int) : Instr.fill (fun i => some (i * 2, 2)) ((Array.range (1 * 2)).map ((Value.agg #[(Value.int .i64 0), (Value.int .i64 0)]).cells[· % (Value.agg #[(Value.int .i64 0), (Value.int .i64 0)]).cells.size]!)) [(0, .agg #[(.int .i64 x0_0), (.int .i64 x0_1)])] = some (([(.int .i64 x0_0), (.int .i64 x0_1)] : List Value).toArray) := by kernel_rfl
theorem bd_67_0i_1iia (x0_0 : Int) (x1_0 : Int) (x1_1 : Int) (w : World) : (Instr.build 67 #[(0, (.int .i64 x0_0)), (1, .agg #[(.int .i64 x1_0), (.int .i64 x1_1)])]).run Try.prog w = .ok (.agg #[(.int .i64 x0_0), (.int .i64 x1_0), (.int .i64 x1_1)]) w := by kernel_rfl
theorem bs_67_1_0iiia (x0_0 : Int) (x0_1 : Int) (x0_2 : Int) : Instr.fill (fun i => some (i * 3, 3)) ((Array.range (1 * 3)).map ((Value.agg #[(Value.int .i64 0), (Value.int .i64 0), (Value.int .i64 0)]).cells[· % (Value.agg #[(Value.int .i64 0), (Value.int .i64 0), (Value.int .i64 0)]).cells.size]!)) [(0, .agg #[(.int .i64 x0_0), (.int .i64 x0_1), (.int .i64 x0_2)])] = some (([(.int .i64 x0_0), (.int .i64 x0_1), (.int .i64 x0_2)] : List Value).toArray) := by kernel_rfl
theorem el_67 : elK Try.prog 67 = some ((Value.agg #[(Value.int .i64 0), (Value.int .i64 0), (Value.int .i64 0)]), 3, 24) := by kernel_rfl
end Go.Proofs.Ytkkglkdnnfegkaa

namespace Go.Proofs.Ytkkglkdnnfegkaa
open Go.RowKit Go.Shelf Go.Eng
theorem bd_96_0s_1iia (x0_0 : Value) (hx0_0 : IsSl x0_0) (x1_0 : Int) (x1_1 : Int) (w : World) : (Instr.build 96 #[(0, x0_0), (1, .agg #[(.int .i64 x1_0), (.int .i64 x1_1)])]).run Try.prog w = .ok (.agg #[x0_0, (.int .i64 x1_0), (.int .i64 x1_1)]) w := by obtain ⟨Ax0_0, Bx0_0, Cx0_0, rfl⟩ := hx0_0; kernel_rfl
theorem bs_96_1_0viia (x0_0 : Value) (x0_1 : Int) (x0_2 : Int) : Instr.fill (fun i => some (i * 3, 3)) ((Array.range (1 * 3)).map ((Value.agg #[(Value.slice none 0 0), (Value.int .i64 0), (Value.int .i64 0)]).cells[· % (Value.agg #[(Value.slice none 0 0), (Value.int .i64 0), (Value.int .i64 0)]).cells.size]!)) [(0, .agg #[x0_0, (.int .i64 x0_1), (.int .i64 x0_2)])] = some (([x0_0, (.int .i64 x0_1), (.int .i64 x0_2)] : List Value).toArray) := by kernel_rfl
theorem el_96 : elK Try.prog 96 = some ((Value.agg #[(Value.slice none 0 0), (Value.int .i64 0), (Value.int .i64 0)]), 3, 40) := by kernel_rfl
end Go.Proofs.Ytkkglkdnnfegkaa

namespace Go.Proofs.Ytkkglkdnnfegkaa
open Go.RowKit Go.Eng
theorem take_set {arr l : List Int} {x : Int} (h : arr.take l.length = l) (hl : l.length < arr.length) : (arr.set l.length x).take (l ++ [x]).length = l ++ [x] := by
  simp only [List.length_append, List.length_cons, List.length_nil, Nat.zero_add]
  rw [List.take_add_one, List.take_set_of_le (Nat.le_refl _), h]
  simp [hl]
end Go.Proofs.Ytkkglkdnnfegkaa

namespace Go.Proofs.Ytkkglkdnnfegkaa
open Go.RowKit Go.Shelf Go.Eng
theorem ze_40 : (Try.prog.info? 40).bind (·.zero) = some (Value.slice none 0 0) := by kernel_rfl
theorem bs_40_1_0s (x0_0 : Value) (hx0_0 : IsSl x0_0) : Instr.fill (fun i => some (i * 1, 1)) ((Array.range (1 * 1)).map ((Value.slice none 0 0).cells[· % (Value.slice none 0 0).cells.size]!)) [(0, x0_0)] = some (([x0_0] : List Value).toArray) := by obtain ⟨Ax0_0, Bx0_0, Cx0_0, rfl⟩ := hx0_0; kernel_rfl
theorem bs_3_0_  : Instr.fill (fun i => some (i * 1, 1)) ((Array.range (0 * 1)).map ((Value.int .i64 0).cells[· % (Value.int .i64 0).cells.size]!)) [] = some (([] : List Value).toArray) := by kernel_rfl
theorem el_40 : elK Try.prog 40 = some ((Value.slice none 0 0), 1, 24) := by kernel_rfl
end Go.Proofs.Ytkkglkdnnfegkaa

namespace Go.Proofs.Ytkkglkdnnfegkaa
open Go.RowKit Go.Eng
end Go.Proofs.Ytkkglkdnnfegkaa

namespace Go.Proofs.Ytkkglkdnnfegkaa
open Go.RowKit Go.Shelf Go.Eng
end Go.Proofs.Ytkkglkdnnfegkaa

namespace Go.Proofs.Ytkkglkdnnfegkaa
open Go.RowKit Go.Eng
def hotR : List (Int × Int) := [(1, 3), (2, 8)]
def madeR : List RunD := [⟨[(0, 100, 100), (1, 10, 10)], 220, 250⟩, ⟨[(1, 20, 30)], 90, 100⟩]
def hotP : List Seg := [(0, 1000, 1000), (1, 10, 20)]
theorem poss_hot : possF hotR madeR = 0 := by decide +kernel
theorem plan_hot : planF hotR madeR hotP = 0 := by decide +kernel
theorem rates_hot : ratesF hotR madeR = [(2, 2), (3, 5)] := by decide +kernel
theorem many_hot : (allowedF hotR madeR).length = 3 := by decide +kernel
theorem low_hot : stLo hotP (leastR hotR madeR hotP) = 2030 := by decide +kernel
theorem high_hot : stHi hotP (mostR hotR madeR hotP) = 2100 := by decide +kernel
theorem life_hot : lifeE hotR madeR 1 1000 = 0 := by decide +kernel
theorem life_hot1 : (lifeR (allowedF hotR madeR) (1 : Int).toNat 1000).1 = 200 := by decide +kernel
theorem life_hot2 : (lifeR (allowedF hotR madeR) (1 : Int).toNat 1000).2 = 334 := by decide +kernel
end Go.Proofs.Ytkkglkdnnfegkaa
