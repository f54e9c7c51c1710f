/-
  Runs but some; how many are doubtful.
  The least of all sets of runs, one after another.
-/
import Derived.Test.YtkkglkdnnfegkaaBd
import Derived.Test.YtkkglkdnnfegkaaEngb
set_option linter.unusedSimpArgs false
set_option linter.unusedVariables false
namespace Go.Proofs.Ytkkglkdnnfegkaa
open Go.RowKit Go.Shelf Go.Eng
theorem doubt_bad (R : List (Int × Int)) (rs : List RunD) (lv : List Value) (vr vu : Value) (w : World) (hm : SlAt w vr 2 R.length (pairs R)) (hx : RunsAt w vu lv rs) (hlen : R.length ≤ 1000000) (hrl : rs.length ≤ 1000000) (he : enterF R rs ≠ 0) :
  Calls Try.prog 43 #[(Value.agg #[vr]), vu] w (Ret fun v w' => v = .tuple #[.slice none 0 0, .int .i64 (enterF R rs)] ∧ Ext NoB w w') := by
 refine calls_enterM Try.func43 rfl fun a0 hA0 => ?_
 replace hA0 : Fr 63 (marks []) [(0, (Value.agg #[vr])), (1, vu)] a0 := hA0
 have hS0 : Sep NoB w w [(marksR []), (sl vr 2 R.length (pairs R)), (sl vu 3 rs.length (vtrips (runV lv rs))), (segsR false lv rs)] := sep_marks (sep_ro ⟨rfl, hm, rfl, hx.runs, rfl, ⟨hx.len, hx.segs⟩, trivial⟩)
 refine c_seq ?_
 refine c_region ?_
 refine stw hA0 (op_box hS0 rfl (hA0.ev rfl) (cs := [vr]) rfl) rfl rfl (by decide) ?_
 rintro a1 _ w3 ⟨b4, rfl, hS5⟩ hA2; clear hA0 hS0 a0
 refine stw hA2 (op_box hS5 rfl (hA2.ev rfl) (cs := [vu]) (isSl_cells (SlAt.isSl (hS5.sk 3 rfl)))) rfl rfl (by decide) ?_
 rintro a6 _ w8 ⟨b9, rfl, hS10⟩ hA7; clear hA2 hS5 a1
 refine st hA7 (op_assign rfl (evc _ _)) rfl rfl (by decide) fun a11 hA12 => ?_; clear hA7 a6
 refine st hA12 (op_assign rfl (evc _ _)) rfl rfl (by decide) fun a13 hA14 => ?_; clear hA12 a11
 refine wl_nil ?_
 refine then_n ?_
 refine c_seq ?_
 refine c_region ?_
 refine st hA14 (op_loadA rfl ty_33 (hA14.ev rfl) (hS10.bk 1 rfl) (l := [vr]) rfl rfl) rfl rfl (by decide) fun a15 hA16 => ?_; clear hA14 a13
 refine st hA16 (op_load1 rfl ty_35 (hA16.ev rfl) (hS10.bk 0 rfl) rfl) rfl rfl (by decide) fun a17 hA18 => ?_; clear hA16 a15
 refine stw hA18 (op_call rfl en_66 (ev2 (hA18.ev rfl) (hA18.ev rfl)) (enter_bad R rs lv vr vu _ (hm.step hS10.ext) (hx.step hS10.ext) (by omega) (by omega) he)) rfl rfl (by decide) ?_
 rintro a19 _ w21 ⟨rfl, hE22⟩ hA20; have hS23 := hS10.step hE22; clear hE22 hA18 hS10 a17
 refine st hA20 (op_move rfl (hA20.ev rfl)) rfl rfl (by decide) fun a24 hA25 => ?_; clear hA20 a19
 refine st hA25 (op_extract rfl (hA25.ev rfl) rfl) rfl rfl (by decide) fun a26 hA27 => ?_; clear hA25 a24
 refine st hA27 (op_extract rfl (hA27.ev rfl) rfl) rfl rfl (by decide) fun a28 hA29 => ?_; clear hA27 a26
 refine st hA29 (op_assign rfl (hA29.ev rfl)) rfl rfl (by decide) fun a30 hA31 => ?_; clear hA29 a28
 refine st hA31 (op_assign rfl (hA31.ev rfl)) rfl rfl (by decide) fun a32 hA33 => ?_; clear hA31 a30
 refine wl_nil ?_
 refine then_n ?_
 refine c_seq ?_
 refine c_seq ?_
 have hA34 := hA33.as [(7, (Value.int .i64 (enterF R rs))), (6, (Value.pointer none)), (3, (bptr b9 0))] rfl; clear hA33
 refine c_region ?_
 refine st hA34 (op_move rfl (hA34.ev rfl)) rfl rfl (by decide) fun a35 hA36 => ?_; clear hA34 a32
 refine st hA36 (op_neq rfl (hA36.ev rfl) (evc _ _)) rfl rfl (by decide) fun a37 hA38 => ?_; clear hA36 a35
 have hd39 : ¬ ((enterF R rs) = 0) := he
 rw [decide_eq_false hd39] at hA38
 refine wl_nil ?_
 refine then_n ?_
 refine c_true hA38 rfl ?_
 refine c_seq ?_
 refine c_region ?_
 refine st hA38 (op_move rfl (hA38.ev rfl)) rfl rfl (by decide) fun a40 hA41 => ?_; clear hA38 a37
 refine st hA41 (op_assign rfl (evc _ _)) rfl rfl (by decide) fun a42 hA43 => ?_; clear hA41 a40
 refine st hA43 (op_assign rfl (hA43.ev rfl)) rfl rfl (by decide) fun a44 hA45 => ?_; clear hA43 a42
 refine wl_nil ?_
 refine then_n ?_
 refine c_ret ?_
 refine then_ret ?_
 have hS46 : Sep NoB w w21 [(marksR []), (blk b9 35 [vu]), (blk b4 33 [vr]), (sl vr 2 R.length (pairs R)), (sl vu 3 rs.length (vtrips (runV lv rs))), (segsR false lv rs)] := hS23.keep [2, 0, 1, 3, 4, 5] (by decide) _ rfl rfl; clear hS23
 refine fin_runM hA45 (.inl rfl) hS46 ?_
 intro w47 hS48; clear hS46
 refine ⟨_, (run_results2 hA45 rfl (.tmp rfl) (.tmp rfl)), ?_⟩
 exact ⟨rfl, hS48.ext⟩
theorem doubt_ok (R : List (Int × Int)) (rs : List RunD) (lv : List Value) (vr vu : Value) (w : World) (hm : SlAt w vr 2 R.length (pairs R)) (hx : RunsAt w vu lv rs) (hlen : R.length ≤ 1000000) (hrl : rs.length ≤ 1000000) (he : enterF R rs = 0) :
  Calls Try.prog 43 #[(Value.agg #[vr]), vu] w (Ret fun v w' => ∃ u, v = .tuple #[u, .int .i64 0] ∧ Sep NoB w w' [row u 3 1 (doubtF R rs).length (ints (doubtF R rs))]) := by
 refine calls_enterM Try.func43 rfl fun a0 hA0 => ?_
 replace hA0 : Fr 63 (marks []) [(0, (Value.agg #[vr])), (1, vu)] a0 := hA0
 have hR := (check_mat (enter_mat he)).1
 have hV := enter_runs he
 have hmp := (check_mat (enter_mat he)).2.2
 have hfew := check_few (enter_mat he)
 have hvl := hV.len
 have hags : ∀ i, ((againstF R rs).getD i []).length ≤ 1000000 := against_small (by omega)
 have hS0 : Sep NoB w w [(marksR []), (sl vr 2 R.length (pairs R)), (sl vu 3 rs.length (vtrips (runV lv rs))), (segsR false lv rs)] := sep_marks (sep_ro ⟨rfl, hm, rfl, hx.runs, rfl, ⟨hx.len, hx.segs⟩, trivial⟩)
 refine c_seq ?_
 refine c_region ?_
 refine stw hA0 (op_box hS0 rfl (hA0.ev rfl) (cs := [vr]) rfl) rfl rfl (by decide) ?_
 rintro a1 _ w3 ⟨b4, rfl, hS5⟩ hA2; clear hA0 hS0 a0
 refine stw hA2 (op_box hS5 rfl (hA2.ev rfl) (cs := [vu]) (isSl_cells (SlAt.isSl (hS5.sk 3 rfl)))) rfl rfl (by decide) ?_
 rintro a6 _ w8 ⟨b9, rfl, hS10⟩ hA7; clear hA2 hS5 a1
 refine st hA7 (op_assign rfl (evc _ _)) rfl rfl (by decide) fun a11 hA12 => ?_; clear hA7 a6
 refine st hA12 (op_assign rfl (evc _ _)) rfl rfl (by decide) fun a13 hA14 => ?_; clear hA12 a11
 refine wl_nil ?_
 refine then_n ?_
 refine c_seq ?_
 refine c_region ?_
 refine st hA14 (op_loadA rfl ty_33 (hA14.ev rfl) (hS10.bk 1 rfl) (l := [vr]) rfl rfl) rfl rfl (by decide) fun a15 hA16 => ?_; clear hA14 a13
 refine st hA16 (op_load1 rfl ty_35 (hA16.ev rfl) (hS10.bk 0 rfl) rfl) rfl rfl (by decide) fun a17 hA18 => ?_; clear hA16 a15
 refine stw hA18 (op_call rfl en_66 (ev2 (hA18.ev rfl) (hA18.ev rfl)) (enter_ok R rs lv vr vu _ (hm.step hS10.ext) (hx.step hS10.ext) (by omega) (by omega) he)) rfl rfl (by decide) ?_
 rintro a19 _ w21 ⟨bj24, bm25, rfl, hT22⟩ hA20; have hS23 := hS10.callS hT22 rfl; clear hT22 hA18 hS10 a17
 refine st hA20 (op_move rfl (hA20.ev rfl)) rfl rfl (by decide) fun a26 hA27 => ?_; clear hA20 a19
 refine st hA27 (op_extract rfl (hA27.ev rfl) rfl) rfl rfl (by decide) fun a28 hA29 => ?_; clear hA27 a26
 refine st hA29 (op_extract rfl (hA29.ev rfl) rfl) rfl rfl (by decide) fun a30 hA31 => ?_; clear hA29 a28
 refine st hA31 (op_assign rfl (hA31.ev rfl)) rfl rfl (by decide) fun a32 hA33 => ?_; clear hA31 a30
 refine st hA33 (op_assign rfl (hA33.ev rfl)) rfl rfl (by decide) fun a34 hA35 => ?_; clear hA33 a32
 refine wl_nil ?_
 refine then_n ?_
 refine c_seq ?_
 refine c_seq ?_
 have hA36 := hA35.as [(7, (Value.int .i64 0)), (6, (bptr bj24 0)), (3, (bptr b9 0))] rfl; clear hA35
 refine c_region ?_
 refine st hA36 (op_move rfl (hA36.ev rfl)) rfl rfl (by decide) fun a37 hA38 => ?_; clear hA36 a34
 refine st hA38 (op_neq rfl (hA38.ev rfl) (evc _ _)) rfl rfl (by decide) fun a39 hA40 => ?_; clear hA38 a37
 refine wl_nil ?_
 refine then_n ?_
 refine c_false hA40 rfl ?_
 refine c_skip ?_
 refine then_n ?_
 refine c_seq ?_
 refine c_region ?_
 refine stw hA40 (op_alloc hS23 rfl ze_38 (cs := [(Value.slice none 0 0)]) rfl) rfl rfl (by decide) ?_
 rintro a41 _ w43 ⟨b44, rfl, hS45⟩ hA42; clear hA40 hS23 a39
 refine wl_nil ?_
 refine then_n ?_
 refine c_seq ?_
 refine c_seq ?_
 refine c_region ?_
 refine st hA42 (op_move rfl (hA42.ev rfl)) rfl rfl (by decide) fun a46 hA47 => ?_; clear hA42 a41
 refine st hA47 (op_nilCheck rfl (hA47.ev rfl)) rfl rfl (by decide) fun a48 hA49 => ?_; clear hA47 a46
 refine st hA49 (op_field rfl fd_119_0 (hA49.ev rfl)) rfl rfl (by decide) fun a50 hA51 => ?_; clear hA49 a48
 refine st hA51 (op_loadA rfl ty_33 (hA51.ev rfl) (hS45.bk 1 rfl) (l := [vr]) rfl rfl) rfl rfl (by decide) fun a52 hA53 => ?_; clear hA51 a50
 refine stw hA53 (op_call rfl en_65 (ev1 (hA53.ev rfl)) (lists_ok _ _)) rfl rfl (by decide) ?_
 rintro a54 _ w56 ⟨bl59, rfl, hT57⟩ hA55; have hS58 := hS45.callS hT57 rfl; clear hT57 hA53 hS45 a52
 refine wl_nil ?_
 refine then_n ?_
 refine c_block ?_
 have hA60 := hA55.as [(29, (Value.func (.func 87) #[] #[(bptr bl59 0)])), (8, (bptr b44 0)), (3, (bptr b9 0))] rfl; clear hA55
 have hS61 := (hS58.nil_row 40 1).lst_nil; clear hS58
 have hS62 := hS61.nilR; clear hS61
 have hS63 : Sep NoB w w56 [(marksR []), nilR, (lstR [] []), (row (Value.slice none 0 0) 40 1 0 []), (blk bl59 33 [vr]), (blk b44 38 [(Value.slice none 0 0)]), (blk bj24 119 [vr, vu, (Value.map (some bm25))]), (memo bm25 (KA rs)), (blk b9 35 [vu]), (blk b4 33 [vr]), (sl vr 2 R.length (pairs R)), (sl vu 3 rs.length (vtrips (runV lv rs))), (segsR false lv rs)] := hS62.keep [9, 0, 1, 2, 3, 4, 5, 6, 7, 8, 10, 11, 12] (by decide) _ rfl rfl; clear hS62
 refine c_rangeG hA60 nilR rfl hS63 (hA60.ev rfl) en_87 ((listsF R).length) (fun k => #[.agg (ints ((listsF R).getD k [])).toArray]) (fun _ => rfl) [rob bl59 33 [vr], sl vr 2 R.length (pairs R)] (fun r hr => by simp only [List.mem_cons, List.not_mem_nil, or_false] at hr; rcases hr with rfl | rfl <;> rfl) (lists_it bl59 vr R hR _ rfl) (fun q L_ => ∃ vo_ : Value, ∃ ov_ : List Value, L_ = [(lstR ov_ ((againstF R rs).take q)), (row vo_ 40 1 ov_.length ov_), (blk bl59 33 [vr]), (blk b44 38 [vo_]), (blk bj24 119 [vr, vu, (Value.map (some bm25))]), (memo bm25 (KA rs)), (blk b9 35 [vu]), (blk b4 33 [vr]), (sl vr 2 R.length (pairs R)), (sl vu 3 rs.length (vtrips (runV lv rs))), (segsR false lv rs)]) (fun _ => False) none ⟨(Value.slice none 0 0), [], rfl⟩ (fun q L_ hI_ G_ W_ r1_ r2_ hW_ => by obtain ⟨vo_, ov_, rfl⟩ := hI_; exact (Sep.keep (hW_.to_ro (i := 5) rfl) [2, 5, 11] (by decide) _ rfl rfl)) (fun L_ hI_ => hI_.elim) ?_ ?_ (fun _ hc_ => by cases hc_)
 ·skip
  intro q hq L_ hL_ G72 hG73 l69 D70 rc71 a64 w65 ha68 hS66; obtain ⟨vo_, ov_, rfl⟩ := hL_
  have hA67 : Fr 63 [] [(30, (Value.agg (ints ((listsF R).getD q [])).toArray)), (29, (Value.func (.func 87) #[] #[(bptr bl59 0)])), (8, (bptr b44 0)), (3, (bptr b9 0))] a64 := by rw [ha68]; exact Fr.round1 hA60 (by decide)
  clear ha68 hS63
  have hlr := lists_rates hR hq; have hlr3 := hlr.1; have hol := hS66.lst_len 3 rfl; have hot : ((againstF R rs).take q).length ≤ q := List.length_take_le _ _
  refine c_region ?_
  refine stw hA67 (op_alloc hS66 rfl ze_104 (cs := [(Value.int .i64 0), (Value.int .i64 0), (Value.int .i64 0)]) rfl) rfl rfl (by decide) ?_
  rintro a74 _ w76 ⟨b77, rfl, hS78⟩ hA75; clear hA67 hS66 a64
  refine sts hA75 (op_store hS78 rfl ty_104 (hA75.ev rfl) (hA75.ev rfl) (i := 0) rfl (vs := (ints ((listsF R).getD q []))) rfl (lists_len3 hR hq).symm (ints_one _) (by decide)) rfl rfl ?_
  intro _ w79 hS80 hA82; have hS81 := hS80.blk_say (i := 0) rfl (cs' := (ints ((listsF R).getD q []))) (setFrom_all _ _ (Eq.symm (lists_len3 hR hq).symm)); clear hS80 hA75 hS78
  refine wl_nil ?_
  have hS83 : Sep NoB w w79 [(obR l69 (.loop (rc71 .ready none))), (marksR (D70 :: [])), G72, (blk b77 104 (ints ((listsF R).getD q []))), (lstR ov_ ((againstF R rs).take q)), (row vo_ 40 1 ov_.length ov_), (blk bl59 33 [vr]), (blk b44 38 [vo_]), (blk bj24 119 [vr, vu, (Value.map (some bm25))]), (memo bm25 (KA rs)), (blk b9 35 [vu]), (blk b4 33 [vr]), (sl vr 2 R.length (pairs R)), (sl vu 3 rs.length (vtrips (runV lv rs))), (segsR false lv rs)] := hS81.keep [1, 2, 3, 0, 4, 5, 6, 7, 8, 9, 10, 11, 12, 13, 14] (by decide) _ rfl rfl; clear hS81
  refine ⟨rfl, _, hS83, ?_⟩; intro w84 hS85; clear hS83
  refine c_block ?_
  refine c_seq ?_
  refine c_region ?_
  refine st hA82 (op_assign rfl (evc _ _)) rfl rfl (by decide) fun a86 hA87 => ?_; clear hA82 a74
  have hS88 := hS85.nil_row 3 1; clear hS85
  refine wl_nil ?_
  refine then_n ?_
  refine c_seq ?_
  refine c_seq ?_
  refine c_region ?_
  refine st hA87 (op_load1 rfl ty_35 (hA87.ev rfl) (hS88.bk 11 rfl) rfl) rfl rfl (by decide) fun a89 hA90 => ?_; clear hA87 a86
  refine st hA90 (op_lenS rfl un_35 (hA90.ev rfl) (hS88.sk 14 rfl)) rfl rfl (by decide) fun a91 hA92 => ?_; clear hA90 a89
  refine st hA92 (op_move rfl (evc _ _)) rfl rfl (by decide) fun a93 hA94 => ?_; clear hA92 a91
  refine wl_nil ?_
  refine then_n ?_
  refine c_block ?_
  have hA95 := hA94.as [(33, (Value.int .i64 0)), (32, (Value.int .i64 (rs.length : Int))), (31, vu), (10, (Value.slice none 0 0)), (9, (bptr b77 0)), (8, (bptr b44 0))] rfl; clear hA94
  refine c_loop (G := Nat) (fun (k : Nat) a_ w_ => ∃ v10_ : Value, Fr 63 [] [(33, (Value.int .i64 (k : Int))), (32, (Value.int .i64 (rs.length : Int))), (31, vu), (10, v10_), (9, (bptr b77 0)), (8, (bptr b44 0))] a_ ∧ Sep NoB w w_ [(row v10_ 3 1 ((agU rs ((listsF R).getD q []) k).length) (ints (agU rs ((listsF R).getD q []) k))), (obR l69 (.loop (rc71 .busy none))), (marksR (D70 :: [])), G72, (blk b77 104 (ints ((listsF R).getD q []))), (lstR ov_ ((againstF R rs).take q)), (row vo_ 40 1 ov_.length ov_), (blk bl59 33 [vr]), (blk b44 38 [vo_]), (blk bj24 119 [vr, vu, (Value.map (some bm25))]), (memo bm25 (KA rs)), (blk b9 35 [vu]), (blk b4 33 [vr]), (sl vr 2 R.length (pairs R)), (sl vu 3 rs.length (vtrips (runV lv rs))), (segsR false lv rs)] ∧ (k ≤ rs.length)) (fun k => rs.length - k) 0 ⟨(Value.slice none 0 0), hA95.as _ rfl, hS88, by omega⟩ ?_
  clear hA95 hS88 a93
  rintro k a96 w98 ⟨v10_, hA97, hS99, hk⟩
  have hagu := agU_len rs ((listsF R).getD q []) k
  refine c_seq ?_
  refine c_region ?_
  refine st hA97 (op_lss rfl (hA97.ev rfl) (hA97.ev rfl)) rfl rfl (by decide) fun a100 hA101 => ?_; clear hA97 a96
  refine wl_nil ?_
  refine then_n ?_
  refine c_seq ?_
  by_cases hb102 : (k : Int) < (rs.length : Int)
  ·skip
   rw [decide_eq_true hb102] at hA101
   have hrk := hV.runs k (by omega)
   refine c_true hA101 rfl ?_
   refine c_skip ?_
   refine then_n ?_
   refine c_seq ?_
   refine c_block ?_
   refine c_seq ?_
   refine c_region ?_
   refine st hA101 (op_move rfl (hA101.ev rfl)) rfl rfl (by decide) fun a103 hA104 => ?_; clear hA101 a100
   refine st hA104 (op_indexS rfl un_35 ty_96 (hA104.ev rfl) (i := k) (hA104.ev rfl) (hS99.sk 14 rfl) (by decide) (by omega)) rfl rfl (by decide) fun a105 hA106 => ?_; clear hA104 a103
   refine st hA106 (op_loadAE rfl ty_96 (hA106.ev rfl) (hS99.sk 14 rfl) (runs_all hx.len (by omega)) rfl (by decide)) rfl rfl (by decide) fun a107 hA108 => ?_; clear hA106 a105
   refine stw hA108 (op_alloc hS99 rfl ze_96 (cs := [(Value.slice none 0 0), (Value.int .i64 0), (Value.int .i64 0)]) rfl) rfl rfl (by decide) ?_
   rintro a109 _ w111 ⟨b112, rfl, hS113⟩ hA110; clear hA108 hS99 a107
   refine st hA110 (op_assign rfl (hA110.ev rfl)) rfl rfl (by decide) fun a114 hA115 => ?_; clear hA110 a109
   refine sts hA115 (op_store hS113 rfl ty_96 (hA115.ev rfl) (hA115.ev rfl) (i := 0) rfl (vs := [(lv.getD k nilS), (Value.int .i64 ((rs.getD k run0).lo)), (Value.int .i64 ((rs.getD k run0).hi))]) rfl rfl (all_c (SlAt.one ((hS113.ok 16 _ rfl).2 k (by omega))) (all_c rfl (all_c rfl all_n))) (Nat.le_of_ble_eq_true rfl)) rfl rfl ?_
   intro _ w116 hS117 hA118; clear hA115
   have hS119 : Sep NoB w w116 [(blk b112 96 [(lv.getD k nilS), (Value.int .i64 ((rs.getD k run0).lo)), (Value.int .i64 ((rs.getD k run0).hi))]), (row v10_ 3 1 ((agU rs ((listsF R).getD q []) k).length) (ints (agU rs ((listsF R).getD q []) k))), (obR l69 (.loop (rc71 .busy none))), (marksR (D70 :: [])), G72, (blk b77 104 (ints ((listsF R).getD q []))), (lstR ov_ ((againstF R rs).take q)), (row vo_ 40 1 ov_.length ov_), (blk bl59 33 [vr]), (blk b44 38 [vo_]), (blk bj24 119 [vr, vu, (Value.map (some bm25))]), (memo bm25 (KA rs)), (blk b9 35 [vu]), (blk b4 33 [vr]), (sl vr 2 R.length (pairs R)), (sl vu 3 rs.length (vtrips (runV lv rs))), (segsR false lv rs)] := hS117; clear hS117 hS113
   refine wl_nil ?_
   refine then_n ?_
   refine c_seq ?_
   refine c_region ?_
   refine st hA118 (op_loadA rfl ty_96 (hA118.ev rfl) (hS119.bk 0 rfl) (l := [(lv.getD k nilS), (Value.int .i64 ((rs.getD k run0).lo)), (Value.int .i64 ((rs.getD k run0).hi))]) rfl rfl) rfl rfl (by decide) fun a120 hA121 => ?_; clear hA118 a114
   refine st hA121 (op_loadA rfl ty_104 (hA121.ev rfl) (hS119.bk 5 rfl) (l := (ints ((listsF R).getD q []))) (drop_take_all _ _ (lists_len3 hR hq).symm) (lists_len3 hR hq).symm) rfl rfl (by decide) fun a122 hA123 => ?_; clear hA121 a120
   refine stw hA123 (op_call rfl en_70 (ev2 (hA123.ev rfl) (hA123.ev rfl)) (allows_ok (rs.getD k run0) _ ((listsF R).getD q []) R.length _ hrk.len hR.1 hlr hrk.segs ((hS119.ok 16 _ rfl).2 k (by omega)))) rfl rfl (by decide) ?_
   rintro a124 _ w126 ⟨rfl, hE127⟩ hA125; have hS128 := hS119.step hE127; clear hE127 hA123 hS119 a122
   refine st hA125 (op_not rfl (hA125.ev rfl)) rfl rfl (by decide) fun a129 hA130 => ?_; clear hA125 a124
   refine wl_nil ?_
   refine then_n ?_
   rcases Bool.eq_false_or_eq_true ((allowsB (rs.getD k run0) ((listsF R).getD q []))) with hb131 | hb131
   ·skip
    rw [hb131] at hA130
    refine c_false hA130 rfl ?_
    refine c_skip ?_
    refine blk_n ?_
    refine then_n ?_
    have hA132 := hA130.as [(33, (Value.int .i64 (k : Int))), (32, (Value.int .i64 (rs.length : Int))), (31, vu), (10, v10_), (9, (bptr b77 0)), (8, (bptr b44 0))] rfl; clear hA130
    refine c_region ?_
    refine st hA132 (op_add rfl (hA132.ev rfl) (evc _ _) (by omega) (by omega)) rfl rfl (by decide) fun a133 hA134 => ?_; clear hA132 a129
    refine st hA134 (op_move rfl (hA134.ev rfl)) rfl rfl (by decide) fun a135 hA136 => ?_; clear hA134 a133
    refine wl_nil ?_
    have hS137 : Sep NoB w w126 [(row v10_ 3 1 ((agU rs ((listsF R).getD q []) k).length) (ints (agU rs ((listsF R).getD q []) k))), (obR l69 (.loop (rc71 .busy none))), (marksR (D70 :: [])), G72, (blk b77 104 (ints ((listsF R).getD q []))), (lstR ov_ ((againstF R rs).take q)), (row vo_ 40 1 ov_.length ov_), (blk bl59 33 [vr]), (blk b44 38 [vo_]), (blk bj24 119 [vr, vu, (Value.map (some bm25))]), (memo bm25 (KA rs)), (blk b9 35 [vu]), (blk b4 33 [vr]), (sl vr 2 R.length (pairs R)), (sl vu 3 rs.length (vtrips (runV lv rs))), (segsR false lv rs)] := hS128.keep [1, 2, 3, 4, 5, 6, 7, 8, 9, 10, 11, 12, 13, 14, 15, 16] (by decide) _ rfl rfl; clear hS128
    exact then_n ⟨k + 1, ⟨v10_, hA136.as _ rfl, (hS137.row_say (i := 0) rfl (by rw [agU_n (by assumption)]) (by rw [agU_n (by assumption)])), by omega⟩, by omega⟩
   ·skip
    rw [hb131] at hA130
    refine c_true hA130 rfl ?_
    have hA138 := hA130.as [(11, (Value.int .i64 (k : Int))), (33, (Value.int .i64 (k : Int))), (32, (Value.int .i64 (rs.length : Int))), (31, vu), (10, v10_), (9, (bptr b77 0)), (8, (bptr b44 0))] rfl; clear hA130
    refine c_region ?_
    refine st hA138 (op_move rfl (hA138.ev rfl)) rfl rfl (by decide) fun a139 hA140 => ?_; clear hA138 a129
    refine st hA140 (op_move rfl (hA140.ev rfl)) rfl rfl (by decide) fun a141 hA142 => ?_; clear hA140 a139
    refine stw hA142 (op_buildSlice hS128 rfl (pv1 (hA142.ev rfl)) un_40 ty_3 ze_3 (by decide) (cs := [(Value.int .i64 (k : Int))]) (bs_3_1_0i _)) rfl rfl (by decide) ?_
    rintro a143 _ w145 ⟨b146, rfl, hS147⟩ hA144; clear hA142 hS128 a141
    refine stw hA144 (op_append hS147 rfl un_40 el_3 (hA144.ev rfl) (hA144.ev rfl) (i := 2) rfl (SlAt.of_blk (hS147.bk 0 rfl) rfl (Nat.le_of_ble_eq_true rfl)) rfl (by simp only [maxLen]; omega) (by omega)) rfl rfl (by decide) ?_
    intro a148 v151 w150 hS152 hA149
    have hS153 := hS152.row_say (i := 2) rfl (n' := ((agU rs ((listsF R).getD q []) k) ++ [(k : Int)]).length) (xs' := (ints ((agU rs ((listsF R).getD q []) k) ++ [(k : Int)]))) (by simp) (by simp [ints]); clear hS152 hA144 hS147 a143
    refine st hA149 (op_assign rfl (hA149.ev rfl)) rfl rfl (by decide) fun a154 hA155 => ?_; clear hA149 a148
    refine wl_nil ?_
    refine blk_n ?_
    refine then_n ?_
    refine c_region ?_
    refine st hA155 (op_add rfl (hA155.ev rfl) (evc _ _) (by omega) (by omega)) rfl rfl (by decide) fun a156 hA157 => ?_; clear hA155 a154
    refine st hA157 (op_move rfl (hA157.ev rfl)) rfl rfl (by decide) fun a158 hA159 => ?_; clear hA157 a156
    refine wl_nil ?_
    have hS160 : Sep NoB w w150 [(row v151 3 1 (((agU rs ((listsF R).getD q []) k) ++ [(k : Int)]).length) (ints ((agU rs ((listsF R).getD q []) k) ++ [(k : Int)]))), (obR l69 (.loop (rc71 .busy none))), (marksR (D70 :: [])), G72, (blk b77 104 (ints ((listsF R).getD q []))), (lstR ov_ ((againstF R rs).take q)), (row vo_ 40 1 ov_.length ov_), (blk bl59 33 [vr]), (blk b44 38 [vo_]), (blk bj24 119 [vr, vu, (Value.map (some bm25))]), (memo bm25 (KA rs)), (blk b9 35 [vu]), (blk b4 33 [vr]), (sl vr 2 R.length (pairs R)), (sl vu 3 rs.length (vtrips (runV lv rs))), (segsR false lv rs)] := hS153.keep [2, 3, 4, 5, 6, 7, 8, 9, 10, 11, 12, 13, 14, 15, 16, 17] (by decide) _ rfl rfl; clear hS153
    exact then_n ⟨k + 1, ⟨v151, hA159.as _ rfl, (hS160.row_say (i := 0) rfl (by rw [agU_y (by assumption)]) (by rw [agU_y (by assumption)])), by omega⟩, by omega⟩
  ·skip
   rw [decide_eq_false hb102] at hA101
   refine c_false hA101 rfl ?_
   refine c_exit ?_
   refine then_exit ?_
   refine then_exit ?_
   refine blk_hit ?_
   refine then_n ?_
   refine c_region ?_
   refine st hA101 (op_load1 rfl ty_38 (hA101.ev rfl) (hS99.bk 8 rfl) rfl) rfl rfl (by decide) fun a161 hA162 => ?_; clear hA101 a100
   refine st hA162 (op_move rfl (hA162.ev rfl)) rfl rfl (by decide) fun a163 hA164 => ?_; clear hA162 a161
   refine stw hA164 (op_buildSlice hS99 rfl (pv1 (hA164.ev rfl)) un_38 ty_40 ze_40 (by decide) (cs := [v10_]) (bs_40_1_0s _ (SlAt.isSl (SlAt.of_row (hS99.ok_row 0 rfl))))) rfl rfl (by decide) ?_
   rintro a165 _ w167 ⟨b168, rfl, hS169⟩ hA166; clear hA164 hS99 a163
   refine stw hA166 (op_append hS169 rfl un_38 el_40 (hA166.ev rfl) (hA166.ev rfl) (i := 7) rfl (SlAt.of_blk (hS169.bk 0 rfl) rfl (Nat.le_of_ble_eq_true rfl)) (all_c (SlAt.one (SlAt.of_row (hS169.ok_row 1 rfl))) all_n) (by simp only [maxLen]; omega) (by omega)) rfl rfl (by decide) ?_
   intro a170 v173 w172 hS174 hA171
   have hS175 := hS174.row_say (i := 7) rfl (n' := (ov_ ++ [v10_]).length) (xs' := (ov_ ++ [v10_])) (by simp) rfl; clear hS174 hA166 hS169 a165
   refine sts hA171 (op_store hS175 rfl ty_38 (hA171.ev rfl) (hA171.ev rfl) (i := 9) rfl (vs := [v173]) (isSl_cells (SlAt.isSl (SlAt.of_row (hS175.ok_row 7 rfl)))) rfl (all_c (SlAt.one (SlAt.of_row (hS175.ok_row 7 rfl))) all_n) (Nat.le_of_ble_eq_true rfl)) rfl rfl ?_
   intro _ w176 hS177 hA178; clear hA171
   have hS179 : Sep NoB w w176 [(blk b168 40 [v10_]), (row v10_ 3 1 ((agU rs ((listsF R).getD q []) k).length) (ints (agU rs ((listsF R).getD q []) k))), (obR l69 (.loop (rc71 .busy none))), (marksR (D70 :: [])), G72, (blk b77 104 (ints ((listsF R).getD q []))), (lstR ov_ ((againstF R rs).take q)), (row v173 40 1 ((ov_ ++ [v10_]).length) (ov_ ++ [v10_])), (blk bl59 33 [vr]), (blk b44 38 [v173]), (blk bj24 119 [vr, vu, (Value.map (some bm25))]), (memo bm25 (KA rs)), (blk b9 35 [vu]), (blk b4 33 [vr]), (sl vr 2 R.length (pairs R)), (sl vu 3 rs.length (vtrips (runV lv rs))), (segsR false lv rs)] := hS177; clear hS177 hS175
   refine wl_nil ?_
   refine blk_n ?_
   have hS180 := hS179.row_say (i := 1) rfl (n' := (agU rs ((listsF R).getD q []) rs.length).length) (xs' := ints (agU rs ((listsF R).getD q []) rs.length)) (by rw [show k = rs.length by omega]) (by rw [show k = rs.length by omega]); clear hS179
   have hS181 : Sep NoB w w176 [(row v10_ 3 1 ((agU rs ((listsF R).getD q []) rs.length).length) (ints (agU rs ((listsF R).getD q []) rs.length))), (lstR ov_ ((againstF R rs).take q)), (blk b168 40 [v10_]), (obR l69 (.loop (rc71 .busy none))), (marksR (D70 :: [])), G72, (blk b77 104 (ints ((listsF R).getD q []))), (row v173 40 1 ((ov_ ++ [v10_]).length) (ov_ ++ [v10_])), (blk bl59 33 [vr]), (blk b44 38 [v173]), (blk bj24 119 [vr, vu, (Value.map (some bm25))]), (memo bm25 (KA rs)), (blk b9 35 [vu]), (blk b4 33 [vr]), (sl vr 2 R.length (pairs R)), (sl vu 3 rs.length (vtrips (runV lv rs))), (segsR false lv rs)] := hS180.keep [1, 6, 0, 2, 3, 4, 5, 7, 8, 9, 10, 11, 12, 13, 14, 15, 16] (by decide) _ rfl rfl; clear hS180
   have hS182 := hS181.lst_snoc; clear hS181
   have hS183 : Sep NoB w w176 [(obR l69 (.loop (rc71 .busy none))), (marksR (D70 :: [])), G72, (lstR (ov_ ++ [v10_]) ((againstF R rs).take q ++ [(agU rs ((listsF R).getD q []) rs.length)])), (row v173 40 1 ((ov_ ++ [v10_]).length) (ov_ ++ [v10_])), (blk bl59 33 [vr]), (blk b44 38 [v173]), (blk bj24 119 [vr, vu, (Value.map (some bm25))]), (memo bm25 (KA rs)), (blk b9 35 [vu]), (blk b4 33 [vr]), (sl vr 2 R.length (pairs R)), (sl vu 3 rs.length (vtrips (runV lv rs))), (segsR false lv rs)] := hS182.keep [2, 3, 4, 0, 6, 7, 8, 9, 10, 11, 12, 13, 14, 15] (by decide) _ rfl rfl; clear hS182
   exact re_n ⟨_, rfl, ⟨v173, (ov_ ++ [v10_]), rfl⟩⟩ (hS183.lst_say (i := 3) rfl (against_succ hq))
 intro L_ hL_ D188 a184 w185 hA187 hS186; obtain ⟨vo_, ov_, rfl⟩ := hL_; clear hA60 hS63
 have hS189 := hS186.lst_say (i := 2) (ls' := (againstF R rs)) rfl (List.take_of_length_le (by rw [against_len]; exact Nat.le_refl _)); clear hS186
 have hol := hS189.lst_len 2 rfl; have hagl := against_len R rs
 refine blk_n ?_
 refine then_n ?_
 refine c_seq ?_
 refine c_region ?_
 refine stw hA187 (op_alloc hS189 rfl ze_40 (cs := [(Value.slice none 0 0)]) rfl) rfl rfl (by decide) ?_
 rintro a190 _ w192 ⟨b193, rfl, hS194⟩ hA191; clear hA187 hS189 a184
 refine wl_nil ?_
 refine then_n ?_
 refine c_seq ?_
 refine c_region ?_
 refine stw hA191 (op_alloc hS194 rfl ze_120 (cs := [Value.nilFunc]) rfl) rfl rfl (by decide) ?_
 rintro a195 _ w197 ⟨b198, rfl, hS199⟩ hA196; clear hA191 hS194 a190
 refine wl_nil ?_
 refine then_n ?_
 refine c_seq ?_
 refine c_region ?_
 refine st hA196 (op_makeFunc rfl ev0 (ev4 (hA196.ev rfl) (hA196.ev rfl) (hA196.ev rfl) (hA196.ev rfl))) rfl rfl (by decide) fun a200 hA201 => ?_; clear hA196 a195
 refine sts hA201 (op_store hS199 rfl ty_120 (hA201.ev rfl) (hA201.ev rfl) (i := 0) rfl (vs := [(Value.func (.func 71) #[] #[(bptr b193 0), (bptr b44 0), (bptr b9 0), (bptr b198 0)])]) rfl rfl rfl (Nat.le_of_ble_eq_true rfl)) rfl rfl ?_
 intro _ w202 hS203 hA204; clear hA201
 have hS205 : Sep NoB w w202 [(blk b198 120 [(Value.func (.func 71) #[] #[(bptr b193 0), (bptr b44 0), (bptr b9 0), (bptr b198 0)])]), (blk b193 40 [(Value.slice none 0 0)]), (marksR (D188 :: [])), nilR, (lstR ov_ (againstF R rs)), (row vo_ 40 1 ov_.length ov_), (blk bl59 33 [vr]), (blk b44 38 [vo_]), (blk bj24 119 [vr, vu, (Value.map (some bm25))]), (memo bm25 (KA rs)), (blk b9 35 [vu]), (blk b4 33 [vr]), (sl vr 2 R.length (pairs R)), (sl vu 3 rs.length (vtrips (runV lv rs))), (segsR false lv rs)] := hS203; clear hS203 hS199
 refine wl_nil ?_
 refine then_n ?_
 refine c_seq ?_
 refine c_seq ?_
 refine c_region ?_
 refine st hA204 (op_load1 rfl ty_35 (hA204.ev rfl) (hS205.bk 10 rfl) rfl) rfl rfl (by decide) fun a206 hA207 => ?_; clear hA204 a200
 refine st hA207 (op_lenS rfl un_35 (hA207.ev rfl) (hS205.sk 13 rfl)) rfl rfl (by decide) fun a208 hA209 => ?_; clear hA207 a206
 refine st hA209 (op_add rfl (hA209.ev rfl) (evc _ _) (by omega) (by omega)) rfl rfl (by decide) fun a210 hA211 => ?_; clear hA209 a208
 refine st hA211 (op_move rfl (evc _ _)) rfl rfl (by decide) fun a212 hA213 => ?_; clear hA211 a210
 refine wl_nil ?_
 refine then_n ?_
 refine c_block ?_
 have hS214 := hS205.to_ro (i := 0) rfl; clear hS205
 have hS215 := hS214.to_ro (i := 7) rfl; clear hS214
 have hS216 := hS215.to_ro (i := 10) rfl; clear hS215
 have hS217 := (hS216.row_sl (i := 5) rfl).lst_ro (i := 4) rfl; clear hS216
 have hS218 := hS217.nil_row 3 1; clear hS217
 have hA219 := hA213.as [(55, (Value.int .i64 0)), (54, (Value.int .i64 ((rs.length : Int) + 1))), (14, (bptr b198 0)), (13, (bptr b193 0))] rfl; clear hA213
 refine c_loop (G := Nat) (fun (k : Nat) a_ w_ => ∃ vb_ : Value, ∃ best_ : List Int, Fr 63 (marks (D188 :: [])) [(55, (Value.int .i64 (k : Int))), (54, (Value.int .i64 ((rs.length : Int) + 1))), (14, (bptr b198 0)), (13, (bptr b193 0))] a_ ∧ Sep NoB w w_ [(row vb_ 3 1 best_.length (ints best_)), (rob b198 120 [(Value.func (.func 71) #[] #[(bptr b193 0), (bptr b44 0), (bptr b9 0), (bptr b198 0)])]), (blk b193 40 [vb_]), (marksR (D188 :: [])), nilR, (lstRo ov_ (againstF R rs)), (sl vo_ 1 ov_.length ov_), (blk bl59 33 [vr]), (rob b44 38 [vo_]), (blk bj24 119 [vr, vu, (Value.map (some bm25))]), (memo bm25 (KA rs)), (rob b9 35 [vu]), (blk b4 33 [vr]), (sl vr 2 R.length (pairs R)), (sl vu 3 rs.length (vtrips (runV lv rs))), (segsR false lv rs)] ∧ (k ≤ rs.length + 1) ∧ ((allUpto rs.length k).any (okB (againstF R rs)) = false)) (fun k => rs.length + 1 - k) 0 ⟨(Value.slice none 0 0), [], hA219.as _ rfl, hS218, by omega, rfl⟩ ?_
 clear hA219 hS218 a212
 rintro k a220 w222 ⟨vb_, best_, hA221, hS223, hk1, hno⟩
 refine c_seq ?_
 refine c_region ?_
 refine st hA221 (op_lss rfl (hA221.ev rfl) (hA221.ev rfl)) rfl rfl (by decide) fun a224 hA225 => ?_; clear hA221 a220
 refine wl_nil ?_
 refine then_n ?_
 refine c_seq ?_
 by_cases hb226 : (k : Int) < ((rs.length : Int) + 1)
 ·skip
  rw [decide_eq_true hb226] at hA225
  refine c_true hA225 rfl ?_
  refine c_skip ?_
  refine then_n ?_
  refine c_seq ?_
  refine c_block ?_
  refine c_seq ?_
  refine c_region ?_
  refine st hA225 (op_move rfl (hA225.ev rfl)) rfl rfl (by decide) fun a227 hA228 => ?_; clear hA225 a224
  refine st hA228 (op_assign rfl (hA228.ev rfl)) rfl rfl (by decide) fun a229 hA230 => ?_; clear hA228 a227
  refine wl_nil ?_
  refine then_n ?_
  refine c_seq ?_
  refine c_region ?_
  refine st hA230 (op_load1 rfl ty_120 (hA230.ev rfl) (hS223.rk 1 rfl) rfl) rfl rfl (by decide) fun a231 hA232 => ?_; clear hA230 a229
  refine st hA232 (op_move rfl (hA232.ev rfl)) rfl rfl (by decide) fun a233 hA234 => ?_; clear hA232 a231
  have hS238 := hS223.nil_row 3 1; clear hS223
  have hS239 : Sep NoB w w222 [(row (Value.slice none 0 0) 3 1 0 []), (blk b193 40 [vb_]), (row vb_ 3 1 best_.length (ints best_)), (rob b198 120 [(Value.func (.func 71) #[] #[(bptr b193 0), (bptr b44 0), (bptr b9 0), (bptr b198 0)])]), (rob b44 38 [vo_]), (rob b9 35 [vu]), (sl vo_ 1 ov_.length ov_), (lstRo ov_ (againstF R rs)), (sl vu 3 rs.length (vtrips (runV lv rs))), (marksR (D188 :: [])), nilR, (blk bl59 33 [vr]), (blk bj24 119 [vr, vu, (Value.map (some bm25))]), (memo bm25 (KA rs)), (blk b4 33 [vr]), (sl vr 2 R.length (pairs R)), (segsR false lv rs)] := hS238.keep [0, 3, 1, 2, 9, 12, 7, 6, 15, 4, 5, 8, 10, 11, 13, 14, 16] (by decide) _ rfl rfl; clear hS238
  refine stw hA234 (op_callv rfl (hA234.ev rfl) en_71 (ev3 (evc _ _) (evc _ _) (hA234.ev rfl)) (leave_ok b193 b44 b9 b198 vo_ vu ov_ lv (againstF R rs) rs hx.len (by rw [hagl]; omega) hags (by omega) k [] 0 _ _ _ _ (ownX [(row (Value.slice none 0 0) 3 1 0 []), (blk b193 40 [vb_]), (row vb_ 3 1 best_.length (ints best_)), (rob b198 120 [(Value.func (.func 71) #[] #[(bptr b193 0), (bptr b44 0), (bptr b9 0), (bptr b198 0)])]), (rob b44 38 [vo_]), (rob b9 35 [vu]), (sl vo_ 1 ov_.length ov_), (lstRo ov_ (againstF R rs)), (sl vu 3 rs.length (vtrips (runV lv rs)))]) (by simp only [List.length_nil]; omega) (Sep.enterG (A := [(row (Value.slice none 0 0) 3 1 0 []), (blk b193 40 [vb_]), (row vb_ 3 1 best_.length (ints best_)), (rob b198 120 [(Value.func (.func 71) #[] #[(bptr b193 0), (bptr b44 0), (bptr b9 0), (bptr b198 0)])]), (rob b44 38 [vo_]), (rob b9 35 [vu]), (sl vo_ 1 ov_.length ov_), (lstRo ov_ (againstF R rs)), (sl vu 3 rs.length (vtrips (runV lv rs)))]) (B := [(marksR (D188 :: [])), nilR, (blk bl59 33 [vr]), (blk bj24 119 [vr, vu, (Value.map (some bm25))]), (memo bm25 (KA rs)), (blk b4 33 [vr]), (sl vr 2 R.length (pairs R)), (segsR false lv rs)]) hS239))) rfl rfl (by decide) ?_
  rintro a235 _ w237 ⟨rfl, vb241, best242, hf243, hT240⟩ hA236; clear hA234 a233
  have hS244 : Sep NoB w w237 [(row (Value.slice none 0 0) 3 1 0 []), (blk b193 40 [vb241]), (row vb241 3 1 best242.length (ints best242)), (rob b198 120 [(Value.func (.func 71) #[] #[(bptr b193 0), (bptr b44 0), (bptr b9 0), (bptr b198 0)])]), (rob b44 38 [vo_]), (rob b9 35 [vu]), (sl vo_ 1 ov_.length ov_), (lstRo ov_ (againstF R rs)), (sl vu 3 rs.length (vtrips (runV lv rs))), (marksR (D188 :: [])), nilR, (blk bl59 33 [vr]), (blk bj24 119 [vr, vu, (Value.map (some bm25))]), (memo bm25 (KA rs)), (blk b4 33 [vr]), (sl vr 2 R.length (pairs R)), (segsR false lv rs)] := Sep.callG (A := [(row (Value.slice none 0 0) 3 1 0 []), (blk b193 40 [vb_]), (row vb_ 3 1 best_.length (ints best_)), (rob b198 120 [(Value.func (.func 71) #[] #[(bptr b193 0), (bptr b44 0), (bptr b9 0), (bptr b198 0)])]), (rob b44 38 [vo_]), (rob b9 35 [vu]), (sl vo_ 1 ov_.length ov_), (lstRo ov_ (againstF R rs)), (sl vu 3 rs.length (vtrips (runV lv rs)))]) (B := [(marksR (D188 :: [])), nilR, (blk bl59 33 [vr]), (blk bj24 119 [vr, vu, (Value.map (some bm25))]), (memo bm25 (KA rs)), (blk b4 33 [vr]), (sl vr 2 R.length (pairs R)), (segsR false lv rs)]) hS239 hT240 (lentOk_at ⟨.inl rfl, .inl rfl, .inl rfl, .inr ⟨3, rfl⟩, .inr ⟨4, rfl⟩, .inr ⟨5, rfl⟩, .inr ⟨6, rfl⟩, .inr ⟨7, rfl⟩, .inr ⟨8, rfl⟩, trivial⟩); clear hT240 hS239
  refine wl_nil ?_
  refine then_n ?_
  rcases Bool.eq_false_or_eq_true ((leaveB rs.length (againstF R rs) k [] 0)) with hb245 | hb245
  ·skip
   rw [hb245] at hA236
   refine c_true hA236 rfl ?_
   refine c_exit ?_
   refine blk_miss (by decide) ?_
   refine then_exit ?_
   refine then_exit ?_
   refine blk_hit ?_
   refine then_n ?_
   refine c_seq ?_
   have hA246 := hA236.as [(13, (bptr b193 0))] rfl; clear hA236
   refine c_region ?_
   refine st hA246 (op_load1 rfl ty_40 (hA246.ev rfl) (hS244.bk 1 rfl) rfl) rfl rfl (by decide) fun a247 hA248 => ?_; clear hA246 a235
   refine st hA248 (op_assign rfl (hA248.ev rfl)) rfl rfl (by decide) fun a249 hA250 => ?_; clear hA248 a247
   refine st hA250 (op_assign rfl (evc _ _)) rfl rfl (by decide) fun a251 hA252 => ?_; clear hA250 a249
   refine wl_nil ?_
   refine then_n ?_
   refine c_ret ?_
   have hS253 : Sep NoB w w237 [(marksR (D188 :: [])), (row (Value.slice none 0 0) 3 1 0 []), (blk b193 40 [vb241]), (row vb241 3 1 best242.length (ints best242)), (rob b198 120 [(Value.func (.func 71) #[] #[(bptr b193 0), (bptr b44 0), (bptr b9 0), (bptr b198 0)])]), (rob b44 38 [vo_]), (rob b9 35 [vu]), (sl vo_ 1 ov_.length ov_), (lstRo ov_ (againstF R rs)), (sl vu 3 rs.length (vtrips (runV lv rs))), nilR, (blk bl59 33 [vr]), (blk bj24 119 [vr, vu, (Value.map (some bm25))]), (memo bm25 (KA rs)), (blk b4 33 [vr]), (sl vr 2 R.length (pairs R)), (segsR false lv rs)] := hS244.keep [9, 0, 1, 2, 3, 4, 5, 6, 7, 8, 10, 11, 12, 13, 14, 15, 16] (by decide) _ rfl rfl; clear hS244
   refine fin_runM hA252 (.inl rfl) hS253 ?_
   intro w254 hS255; clear hS253
   refine ⟨_, (run_results2 hA252 rfl (.tmp rfl) (.tmp rfl)), ?_⟩
   rw [doubt_found (by omega) hno (hf243 (by assumption))]
   exact ⟨_, rfl, hS255.keep [2] (by decide) _ rfl rfl⟩
  ·skip
   rw [hb245] at hA236
   refine c_false hA236 rfl ?_
   refine c_skip ?_
   refine blk_n ?_
   refine then_n ?_
   have hA256 := hA236.as [(55, (Value.int .i64 (k : Int))), (54, (Value.int .i64 ((rs.length : Int) + 1))), (14, (bptr b198 0)), (13, (bptr b193 0))] rfl; clear hA236
   refine c_region ?_
   refine st hA256 (op_add rfl (hA256.ev rfl) (evc _ _) (by omega) (by omega)) rfl rfl (by decide) fun a257 hA258 => ?_; clear hA256 a235
   refine st hA258 (op_move rfl (hA258.ev rfl)) rfl rfl (by decide) fun a259 hA260 => ?_; clear hA258 a257
   refine wl_nil ?_
   have hS261 : Sep NoB w w237 [(row vb241 3 1 best242.length (ints best242)), (rob b198 120 [(Value.func (.func 71) #[] #[(bptr b193 0), (bptr b44 0), (bptr b9 0), (bptr b198 0)])]), (blk b193 40 [vb241]), (marksR (D188 :: [])), nilR, (lstRo ov_ (againstF R rs)), (sl vo_ 1 ov_.length ov_), (blk bl59 33 [vr]), (rob b44 38 [vo_]), (blk bj24 119 [vr, vu, (Value.map (some bm25))]), (memo bm25 (KA rs)), (rob b9 35 [vu]), (blk b4 33 [vr]), (sl vr 2 R.length (pairs R)), (sl vu 3 rs.length (vtrips (runV lv rs))), (segsR false lv rs)] := hS244.keep [2, 3, 1, 9, 10, 7, 6, 11, 4, 12, 13, 5, 14, 15, 8, 16] (by decide) _ rfl rfl; clear hS244
   exact then_n ⟨k + 1, ⟨vb241, best242, hA260.as _ rfl, hS261, by omega, all_go hno (by assumption)⟩, by omega⟩
 ·skip
  rw [decide_eq_false hb226] at hA225
  refine c_false hA225 rfl ?_
  refine c_exit ?_
  refine then_exit ?_
  refine then_exit ?_
  refine blk_hit ?_
  refine then_n ?_
  refine c_seq ?_
  refine c_region ?_
  refine st hA225 (op_load1 rfl ty_40 (hA225.ev rfl) (hS223.bk 2 rfl) rfl) rfl rfl (by decide) fun a262 hA263 => ?_; clear hA225 a224
  refine st hA263 (op_assign rfl (hA263.ev rfl)) rfl rfl (by decide) fun a264 hA265 => ?_; clear hA263 a262
  refine st hA265 (op_assign rfl (evc _ _)) rfl rfl (by decide) fun a266 hA267 => ?_; clear hA265 a264
  refine wl_nil ?_
  refine then_n ?_
  refine c_ret ?_
  have hS268 : Sep NoB w w222 [(marksR (D188 :: [])), (row vb_ 3 1 best_.length (ints best_)), (rob b198 120 [(Value.func (.func 71) #[] #[(bptr b193 0), (bptr b44 0), (bptr b9 0), (bptr b198 0)])]), (blk b193 40 [vb_]), nilR, (lstRo ov_ (againstF R rs)), (sl vo_ 1 ov_.length ov_), (blk bl59 33 [vr]), (rob b44 38 [vo_]), (blk bj24 119 [vr, vu, (Value.map (some bm25))]), (memo bm25 (KA rs)), (rob b9 35 [vu]), (blk b4 33 [vr]), (sl vr 2 R.length (pairs R)), (sl vu 3 rs.length (vtrips (runV lv rs))), (segsR false lv rs)] := hS223.keep [3, 0, 1, 2, 4, 5, 6, 7, 8, 9, 10, 11, 12, 13, 14, 15] (by decide) _ rfl rfl; clear hS223
  refine fin_runM hA267 (.inl rfl) hS268 ?_
  intro w269 hS270; clear hS268
  refine ⟨_, (run_results2 hA267 rfl (.tmp rfl) (.tmp rfl)), ?_⟩
  exact (all_not hmp (by omega) hno).elim
end Go.Proofs.Ytkkglkdnnfegkaa

namespace Go.Proofs.Ytkkglkdnnfegkaa
open Go.RowKit Go.Shelf Go.Eng
theorem ints_same {l m : List Int} (h : l.length = m.length) (he : ∀ i, i < l.length → l.getD i 0 = m.getD i 0) : l = m := by
  refine List.ext_getElem h fun i h1 h2 => ?_
  have := he i h1
  simpa [List.getD, List.getElem?_eq_getElem h1, List.getElem?_eq_getElem h2] using this
set_option maxHeartbeats 1000000 in
theorem ints_ok (w : World) (l : List Int) (xl : Value) (hxl : SlAt w xl 1 l.length (ints l)) (m : List Int) (xm : Value) (hxm : SlAt w xm 1 m.length (ints m)) (hlb : l.length ≤ 1000000) :
    Calls Try.prog 44 #[xl, xm] w (Ret fun v w' => v = .bool (decide (l = m)) ∧ Ext NoB w w') := by
  refine calls_enter Try.func44 rfl fun a0 hA0 => ?_
  replace hA0 : Fr 26 [] [(0, xl), (1, xm)] a0 := hA0
  have hS0 : Sep NoB w w [(sl xl 1 l.length (ints l)), (sl xm 1 m.length (ints m))] := sep_ro ⟨rfl, hxl, rfl, hxm, trivial⟩
  refine c_seq ?_
  refine c_region ?_
  refine st hA0 (op_assign rfl (evc _ _)) rfl rfl (by decide) fun a1 hA2 => ?_; clear hA0 a0
  refine wl_nil ?_
  refine then_n ?_
  refine c_seq ?_
  refine c_seq ?_
  refine c_region ?_
  refine st hA2 (op_move rfl (hA2.ev rfl)) rfl rfl (by decide) fun a3 hA4 => ?_; clear hA2 a1
  refine st hA4 (op_lenS rfl un_40 (hA4.ev rfl) (hS0.sk 0 rfl)) rfl rfl (by decide) fun a5 hA6 => ?_; clear hA4 a3
  refine st hA6 (op_move rfl (hA6.ev rfl)) rfl rfl (by decide) fun a7 hA8 => ?_; clear hA6 a5
  refine st hA8 (op_lenS rfl un_40 (hA8.ev rfl) (hS0.sk 1 rfl)) rfl rfl (by decide) fun a9 hA10 => ?_; clear hA8 a7
  refine st hA10 (op_neq rfl (hA10.ev rfl) (hA10.ev rfl)) rfl rfl (by decide) fun a11 hA12 => ?_; clear hA10 a9
  refine wl_nil ?_
  refine then_n ?_
  by_cases hb13 : (l.length : Int) = (m.length : Int)
  · skip
    rw [decide_eq_true hb13] at hA12
    refine c_false hA12 rfl ?_
    refine c_skip ?_
    refine then_n ?_
    refine c_seq ?_
    refine c_seq ?_
    have hA14 := hA12.as [(0, xl), (1, xm)] rfl; clear hA12
    refine c_region ?_
    refine st hA14 (op_assign rfl (evc _ _)) rfl rfl (by decide) fun a15 hA16 => ?_; clear hA14 a11
    refine wl_nil ?_
    refine then_n ?_
    refine c_block ?_
    have hA17 := hA16.as [(5, (Value.int .i64 0)), (0, xl), (1, xm)] rfl; clear hA16
    refine c_loop (G := Nat) (fun (k : Nat) a_ w_ => Fr 26 [] [(5, (Value.int .i64 (k : Int))), (0, xl), (1, xm)] a_ ∧ Sep NoB w w_ [(sl xl 1 l.length (ints l)), (sl xm 1 m.length (ints m))] ∧ (k ≤ l.length) ∧ (l.length = m.length) ∧ (∀ i, i < k → l.getD i 0 = m.getD i 0)) (fun k => l.length - k) 0 ⟨hA17.as _ rfl, hS0, by omega, by omega, (fun _ h => absurd h (Nat.not_lt_zero _))⟩ ?_
    clear hA17 hS0 a15
    rintro k a18 w20 ⟨hA19, hS21, hkk, hln, hq_⟩
    refine c_seq ?_
    refine c_seq ?_
    refine c_region ?_
    refine st hA19 (op_move rfl (hA19.ev rfl)) rfl rfl (by decide) fun a22 hA23 => ?_; clear hA19 a18
    refine st hA23 (op_move rfl (hA23.ev rfl)) rfl rfl (by decide) fun a24 hA25 => ?_; clear hA23 a22
    refine st hA25 (op_lenS rfl un_40 (hA25.ev rfl) (hS21.sk 0 rfl)) rfl rfl (by decide) fun a26 hA27 => ?_; clear hA25 a24
    refine st hA27 (op_lss rfl (hA27.ev rfl) (hA27.ev rfl)) rfl rfl (by decide) fun a28 hA29 => ?_; clear hA27 a26
    refine wl_nil ?_
    refine then_n ?_
    by_cases hb30 : (k : Int) < (l.length : Int)
    · skip
      rw [decide_eq_true hb30] at hA29
      refine c_true hA29 rfl ?_
      refine c_skip ?_
      refine then_n ?_
      refine c_seq ?_
      refine c_block ?_
      refine c_seq ?_
      have hA31 := hA29.as [(5, (Value.int .i64 (k : Int))), (0, xl), (1, xm)] rfl; clear hA29
      refine c_drawn mixed hA31 hS21 8 [[], [], [0, 1], [2], [], [], [4, 5], [6]] [(Yd.val xl), (Yd.val (Value.int .i64 (k : Int))), (Yd.val (eptr xl (k * 1))), (Yd.val (Value.int .i64 (l.getD k 0))), (Yd.val xm), (Yd.val (Value.int .i64 (k : Int))), (Yd.val (eptr xm (k * 1))), (Yd.val (Value.int .i64 (m.getD k 0)))] (by decide +kernel) rfl rfl ?_ ?_
      · skip
        refine ⟨fun a w hA hS hd => by exact opG_of rfl (dv (op_move rfl (hA.ev rfl)) hS rfl), ?_⟩
        refine ⟨fun a w hA hS hd => by exact opG_of rfl (dv (op_move rfl (hA.ev rfl)) hS rfl), ?_⟩
        refine ⟨fun a w hA hS hd => by have e0 := has_ev (hd 0 (by decide)) rfl (fun _ h => h); have e1 := has_ev (hd 1 (by decide)) rfl (fun _ h => h); exact opG_of rfl (dv (op_indexS rfl un_40 ty_3 (tmp_ev e0) (i := k) (tmp_ev e1) (hS.sk 0 rfl) (by decide) (by omega)) hS rfl), ?_⟩
        refine ⟨fun a w hA hS hd => by have e2 := has_ev (hd 2 (by decide)) rfl (fun _ h => h); exact opG_of rfl (dv (op_load1E rfl ty_3 (tmp_ev e2) (hS.sk 0 rfl) (ints_at (by omega))) hS rfl), ?_⟩
        refine ⟨fun a w hA hS hd => by exact opG_of rfl (dv (op_move rfl (hA.ev rfl)) hS rfl), ?_⟩
        refine ⟨fun a w hA hS hd => by exact opG_of rfl (dv (op_move rfl (hA.ev rfl)) hS rfl), ?_⟩
        refine ⟨fun a w hA hS hd => by have e4 := has_ev (hd 4 (by decide)) rfl (fun _ h => h); have e5 := has_ev (hd 5 (by decide)) rfl (fun _ h => h); exact opG_of rfl (dv (op_indexS rfl un_40 ty_3 (tmp_ev e4) (i := k) (tmp_ev e5) (hS.sk 1 rfl) (by decide) (by omega)) hS rfl), ?_⟩
        refine ⟨fun a w hA hS hd => by have e6 := has_ev (hd 6 (by decide)) rfl (fun _ h => h); exact opG_of rfl (dv (op_load1E rfl ty_3 (tmp_ev e6) (hS.sk 1 rfl) (ints_at (by omega))) hS rfl), ?_⟩
        trivial
      intro a33 w34 hA35 hS36 hH37; clear hA31 hS21
      have hA38 := hA35.add (has_ev (hH37 3 (by decide)) rfl (fun _ h => h)); clear hA35
      have hA39 := hA38.add (has_ev (hH37 7 (by decide)) rfl (fun _ h => h)); clear hA38
      clear hH37
      refine st hA39 (op_neq rfl (hA39.ev rfl) (hA39.ev rfl)) rfl rfl (by decide) fun a40 hA41 => ?_; clear hA39 a33
      refine wl_nil ?_
      refine then_n ?_
      by_cases hb42 : (l.getD k 0) = (m.getD k 0)
      · skip
        rw [decide_eq_true hb42] at hA41
        refine c_false hA41 rfl ?_
        refine c_skip ?_
        refine blk_n ?_
        refine then_n ?_
        refine c_region ?_
        refine st hA41 (op_move rfl (hA41.ev rfl)) rfl rfl (by decide) fun a43 hA44 => ?_; clear hA41 a40
        refine st hA44 (op_add rfl (hA44.ev rfl) (evc _ _) (by omega) (by omega)) rfl rfl (by decide) fun a45 hA46 => ?_; clear hA44 a43
        refine st hA46 (op_assign rfl (hA46.ev rfl)) rfl rfl (by decide) fun a47 hA48 => ?_; clear hA46 a45
        refine wl_nil ?_
        exact then_n ⟨k + 1, ⟨hA48.as _ rfl, hS36, by omega, hln, (fun i hi => by rcases Nat.lt_succ_iff_lt_or_eq.1 hi with h | h; exact hq_ i h; subst h; assumption)⟩, by omega⟩
      · skip
        rw [decide_eq_false hb42] at hA41
        refine c_true hA41 rfl ?_
        refine c_seq ?_
        have hA49 := hA41.as [] rfl; clear hA41
        refine c_region ?_
        refine st hA49 (op_assign rfl (evc _ _)) rfl rfl (by decide) fun a50 hA51 => ?_; clear hA49 a40
        refine wl_nil ?_
        refine then_n ?_
        refine c_ret ?_
        refine blk_ret ?_
        refine then_ret ?_
        refine then_ret ?_
        refine blk_ret ?_
        refine then_ret ?_
        refine fin_run hA51 (.inl rfl) (run_results1 hA51 rfl (.tmp rfl)) ?_
        exact ⟨congrArg Value.bool (Eq.symm (decide_eq_false (fun h_ => by subst h_; omega))), hS36.ext⟩
    · skip
      rw [decide_eq_false hb30] at hA29
      refine c_false hA29 rfl ?_
      refine c_exit ?_
      refine then_exit ?_
      refine then_exit ?_
      refine blk_hit ?_
      refine then_n ?_
      refine c_seq ?_
      have hA52 := hA29.as [] rfl; clear hA29
      refine c_region ?_
      refine st hA52 (op_assign rfl (evc _ _)) rfl rfl (by decide) fun a53 hA54 => ?_; clear hA52 a28
      refine wl_nil ?_
      refine then_n ?_
      refine c_ret ?_
      refine fin_run hA54 (.inl rfl) (run_results1 hA54 rfl (.tmp rfl)) ?_
      exact ⟨congrArg Value.bool (Eq.symm (decide_eq_true (ints_same (by omega) (fun i hi => hq_ i (by omega))))), hS21.ext⟩
  · skip
    rw [decide_eq_false hb13] at hA12
    refine c_true hA12 rfl ?_
    refine c_seq ?_
    have hA55 := hA12.as [] rfl; clear hA12
    refine c_region ?_
    refine st hA55 (op_assign rfl (evc _ _)) rfl rfl (by decide) fun a56 hA57 => ?_; clear hA55 a11
    refine wl_nil ?_
    refine then_n ?_
    refine c_ret ?_
    refine then_ret ?_
    refine fin_run hA57 (.inl rfl) (run_results1 hA57 rfl (.tmp rfl)) ?_
    exact ⟨congrArg Value.bool (Eq.symm (decide_eq_false (fun h_ => by subst h_; omega))), hS0.ext⟩
end Go.Proofs.Ytkkglkdnnfegkaa

namespace Go.Proofs.Ytkkglkdnnfegkaa
open Go.RowKit Go.Eng
def woSel (l : List Int) (k : Nat) : List Nat := (List.range k).filter fun (i : Nat) => !hasB l (i : Int)
def selR (rs : List RunD) (sel : List Nat) : List RunD := sel.map fun i => rs.getD i run0
def selV (lv : List Value) (sel : List Nat) : List Value := sel.map fun i => lv.getD i nilS
def woF (rs : List RunD) (l : List Int) : List RunD := selR rs (woSel l rs.length)
def woV (lv : List Value) (n : Nat) (l : List Int) : List Value := selV lv (woSel l n)
def woU (l : List Int) (k j : Nat) : Bool := !((List.range j).any fun q => decide ((k : Int) = l.getD q 0))
theorem woU_succ (l : List Int) (k j : Nat) : woU l k (j + 1) = (woU l k j && !decide ((k : Int) = l.getD j 0)) := by
  unfold woU; rw [List.range_succ, List.any_append]; simp
theorem woU_f1 {l : List Int} {k j : Nat} (h : woU l k j = false) : woU l k (j + 1) = false := by rw [woU_succ, h]; rfl
theorem woU_t2 {l : List Int} {k j : Nat} (h : woU l k j = true) : woU l k (j + 1) = !decide (l.getD j 0 = (k : Int)) := by
  rw [woU_succ, h, Bool.true_and]
  congr 1
  exact decide_eq_decide.2 ⟨Eq.symm, Eq.symm⟩
theorem woU_all {l : List Int} {k j : Nat} (h : j = l.length) : woU l k j = !hasB l (k : Int) := by subst h; rfl
theorem woSel_y {l : List Int} {k j : Nat} (hj : j = l.length) (h : woU l k j = true) : woSel l (k + 1) = woSel l k ++ [k] := by
  rw [woU_all hj] at h
  unfold woSel; rw [List.range_succ, List.filter_append, List.filter_cons, if_pos h]; rfl
theorem woSel_n {l : List Int} {k j : Nat} (hj : j = l.length) (h : woU l k j = false) : woSel l (k + 1) = woSel l k := by
  rw [woU_all hj] at h
  unfold woSel; rw [List.range_succ, List.filter_append, List.filter_cons, if_neg (by rw [h]; decide)]; simp
theorem woSel_lt {l : List Int} {k i : Nat} (h : i ∈ woSel l k) : i < k := List.mem_range.1 (List.mem_filter.1 h).1
theorem woSel_len (l : List Int) (k : Nat) : (woSel l k).length ≤ k := by unfold woSel; exact Nat.le_trans (List.length_filter_le ..) (by simp)
theorem selRV_len (rs : List RunD) (lv : List Value) (sel : List Nat) : (selV lv sel).length = (selR rs sel).length := by simp [selV, selR]
theorem selR_len (rs : List RunD) (sel : List Nat) : (selR rs sel).length = sel.length := by simp [selR]
theorem selR_snoc (rs : List RunD) (sel : List Nat) (k : Nat) : selR rs (sel ++ [k]) = selR rs sel ++ [rs.getD k run0] := by simp [selR]
theorem selV_snoc (lv : List Value) (sel : List Nat) (k : Nat) : selV lv (sel ++ [k]) = selV lv sel ++ [lv.getD k nilS] := by simp [selV]
theorem selR_at {rs : List RunD} {sel : List Nat} {i : Nat} (h : i < sel.length) : (selR rs sel).getD i run0 = rs.getD (sel.getD i 0) run0 := by simp [selR, List.getD, h]
theorem selV_at {lv : List Value} {sel : List Nat} {i : Nat} (h : i < sel.length) : (selV lv sel).getD i nilS = lv.getD (sel.getD i 0) nilS := by simp [selV, List.getD, h]
theorem getD_memN {sel : List Nat} {i : Nat} (h : i < sel.length) : sel.getD i 0 ∈ sel := by
  simp only [List.getD, List.getElem?_eq_getElem h, Option.getD_some]; exact List.getElem_mem h
section
variable {X : Nat → Prop} {w0 w : World} {L : List Res}
end
section
variable {R : List (Int × Int)} {rs : List RunD} {l : List Int}
theorem wo_len (rs : List RunD) (l : List Int) : (woF rs l).length ≤ rs.length := by unfold woF; rw [selR_len]; exact woSel_len ..
theorem wo_at {i : Nat} (hi : i < (woF rs l).length) : ∃ j, j < rs.length ∧ (woF rs l).getD i run0 = rs.getD j run0 := by
  unfold woF at hi ⊢
  rw [selR_len] at hi
  exact ⟨_, woSel_lt (getD_memN hi), selR_at hi⟩
theorem wo_runs {n : Nat} (hV : RunsV n rs) : RunsV n (woF rs l) := ⟨Nat.le_trans (wo_len rs l) hV.len, fun i hi => by
  obtain ⟨j, hj, e⟩ := wo_at hi
  rw [e]; exact hV.runs j hj⟩
theorem wo_allow (r : List Int) : allowB (woF rs l) r = true ↔ ∀ i, i < rs.length → ((i : Nat) : Int) ∉ l → allowsB (rs.getD i run0) r = true := by
  unfold allowB
  rw [List.all_eq_true]
  constructor
  · intro h i hi hn
    have hm : i ∈ woSel l rs.length := List.mem_filter.2 ⟨List.mem_range.2 hi, by
      cases hb : hasB l (i : Int) with
      | true => exact absurd (hasB_iff.1 hb) hn
      | false => rfl⟩
    obtain ⟨q, hq, e⟩ := List.getElem_of_mem hm
    have h2 := h q (List.mem_range.2 (by unfold woF; rw [selR_len]; exact hq))
    unfold woF at h2
    rw [selR_at hq, show (woSel l rs.length).getD q 0 = i by simp [List.getD, hq, e]] at h2
    exact h2
  · intro h q hq
    rw [List.mem_range] at hq
    unfold woF at hq ⊢
    rw [selR_len] at hq
    rw [selR_at hq]
    have hm := getD_memN hq
    refine h _ (woSel_lt hm) (fun hn => ?_)
    have := (List.mem_filter.1 hm).2
    rw [hasB_iff.2 hn] at this; cases this
theorem wo_pos : 0 < (allowedF R (woF rs l)).length ↔ okB (againstF R rs) l = true := by
  rw [ok_iff]
  unfold allowedF
  rw [List.length_pos_iff_exists_mem]
  constructor
  · rintro ⟨r, hr⟩
    obtain ⟨h1, h2⟩ := List.mem_filter.1 hr
    exact ⟨r, h1, (wo_allow r).1 h2⟩
  · rintro ⟨r, h1, h2⟩
    exact ⟨r, List.mem_filter.2 ⟨h1, (wo_allow r).2 h2⟩⟩
theorem doubt_bd (he : enterF R rs = 0) : (doubtF R rs).length ≤ rs.length ∧ (∀ i, i < (doubtF R rs).length → 0 ≤ (doubtF R rs).getD i 0 ∧ (doubtF R rs).getD i 0 ≤ (rs.length : Int) - 1) ∧ (∀ i, 0 < i → i < (doubtF R rs).length → (doubtF R rs).getD (i - 1) 0 < (doubtF R rs).getD i 0) := by
  obtain ⟨h1, h2, h3, h4, h5⟩ := doubt_is (rs := rs) (check_mat (enter_mat he)).2.2
  refine ⟨h4, fun i hi => h2 _ (by
    simp only [List.getD, List.getElem?_eq_getElem hi, Option.getD_some]; exact List.getElem_mem hi), fun i h0 hi => ?_⟩
  have := List.pairwise_iff_getElem.1 h3 (i - 1) i (by omega) hi (by omega)
  simpa [List.getD, hi, show i - 1 < (doubtF R rs).length by omega] using this
end
end Go.Proofs.Ytkkglkdnnfegkaa

namespace Go.Proofs.Ytkkglkdnnfegkaa
open Go.RowKit Go.Shelf Go.Eng
end Go.Proofs.Ytkkglkdnnfegkaa

namespace Go.Proofs.Ytkkglkdnnfegkaa
open Go.RowKit Go.Shelf Go.Eng
set_option maxHeartbeats 4000000 in
theorem Without_ok (w : World) (rs : List RunD) (lv : List Value) (vu : Value) (hx : RunsAt w vu lv rs) (l : List Int) (xl : Value) (hxl : SlAt w xl 1 l.length (ints l)) (h9 : rs.length ≤ 9) (hll : l.length ≤ 1000000) :
  Calls Try.prog 46 #[vu, xl] w (Ret fun v w' => Ext NoB w w' ∧ w'.ownsRow w.heap.size 54 3 v (woF rs l).length (vtrips (runV (woV lv rs.length l) (woF rs l)))) := by
 refine calls_enter Try.func46 rfl fun a0 hA0 => ?_
 replace hA0 : Fr 39 [] [(0, vu), (1, xl)] a0 := hA0
 have hS0 : Sep NoB w w [(sl xl 1 l.length (ints l)), (runsR false vu lv rs)] := sep_ro ⟨rfl, hxl, rfl, hx, trivial⟩
 refine c_seq ?_
 refine c_region ?_
 refine st hA0 (op_assign rfl (evc _ _)) rfl rfl (by decide) fun a1 hA2 => ?_; clear hA0 a0
 refine wl_nil ?_
 refine then_n ?_
 refine c_seq ?_
 refine c_region ?_
 refine st hA2 (op_assign rfl (evc _ _)) rfl rfl (by decide) fun a3 hA4 => ?_; clear hA2 a1
 have hS5 := hS0.nil_row 54 3; clear hS0
 refine wl_nil ?_
 refine then_n ?_
 refine c_seq ?_
 refine c_seq ?_
 refine c_region ?_
 refine st hA4 (op_assign rfl (evc _ _)) rfl rfl (by decide) fun a6 hA7 => ?_; clear hA4 a3
 refine wl_nil ?_
 refine then_n ?_
 refine c_block ?_
 have hA8 := hA7.as [(6, (Value.int .i64 0)), (5, (Value.slice none 0 0)), (0, vu), (1, xl)] rfl; clear hA7
 refine c_loop (G := Nat) (fun (k1 : Nat) a_ w_ => ∃ v5_ : Value, Fr 39 [] [(6, (Value.int .i64 (k1 : Int))), (5, v5_), (0, vu), (1, xl)] a_ ∧ Sep NoB w w_ [(row v5_ 54 3 ((selR rs (woSel l k1)).length) (vtrips (runV (selV lv (woSel l k1)) (selR rs (woSel l k1))))), (sl xl 1 l.length (ints l)), (runsR false vu lv rs)] ∧ (k1 ≤ rs.length)) (fun k1 => rs.length - k1) 0 ⟨(Value.slice none 0 0), hA8.as _ rfl, hS5, by omega⟩ ?_
 clear hA8 hS5 a6
 rintro k1 a9 w11 ⟨v5_, hA10, hS12, hk1⟩
 have hwl := woSel_len l k1; have hsl := selR_len rs (woSel l k1)
 refine c_seq ?_
 refine c_seq ?_
 refine c_region ?_
 refine st hA10 (op_move rfl (hA10.ev rfl)) rfl rfl (by decide) fun a13 hA14 => ?_; clear hA10 a9
 refine st hA14 (op_move rfl (hA14.ev rfl)) rfl rfl (by decide) fun a15 hA16 => ?_; clear hA14 a13
 refine st hA16 (op_lenS rfl un_25 (hA16.ev rfl) (runs_at (hS12.ok 2 _ rfl)).runs) rfl rfl (by decide) fun a17 hA18 => ?_; clear hA16 a15
 refine st hA18 (op_lss rfl (hA18.ev rfl) (hA18.ev rfl)) rfl rfl (by decide) fun a19 hA20 => ?_; clear hA18 a17
 refine wl_nil ?_
 refine then_n ?_
 by_cases hb21 : (k1 : Int) < (rs.length : Int)
 ·skip
  rw [decide_eq_true hb21] at hA20
  refine c_true hA20 rfl ?_
  refine c_skip ?_
  refine then_n ?_
  refine c_seq ?_
  refine c_block ?_
  refine c_seq ?_
  refine c_region ?_
  refine st hA20 (op_assign rfl (evc _ _)) rfl rfl (by decide) fun a22 hA23 => ?_; clear hA20 a19
  refine wl_nil ?_
  refine then_n ?_
  refine c_seq ?_
  refine c_seq ?_
  refine c_region ?_
  refine st hA23 (op_assign rfl (evc _ _)) rfl rfl (by decide) fun a24 hA25 => ?_; clear hA23 a22
  refine wl_nil ?_
  refine then_n ?_
  refine c_block ?_
  have hA26 := hA25.as [(8, (Value.int .i64 0)), (7, (Value.bool true)), (6, (Value.int .i64 (k1 : Int))), (5, v5_), (0, vu), (1, xl)] rfl; clear hA25
  refine c_loop (G := Nat) (fun (k2 : Nat) a_ w_ => Fr 39 [] [(8, (Value.int .i64 (k2 : Int))), (7, (Value.bool (woU l k1 k2))), (6, (Value.int .i64 (k1 : Int))), (5, v5_), (0, vu), (1, xl)] a_ ∧ Sep NoB w w_ [(row v5_ 54 3 ((selR rs (woSel l k1)).length) (vtrips (runV (selV lv (woSel l k1)) (selR rs (woSel l k1))))), (sl xl 1 l.length (ints l)), (runsR false vu lv rs)] ∧ (k2 ≤ l.length)) (fun k2 => l.length - k2) 0 ⟨hA26.as _ (by rfl), hS12, by omega⟩ ?_
  clear hA26 hS12 a24
  rintro k2 a27 w29 ⟨hA28, hS30, hk2⟩
  refine c_seq ?_
  refine c_seq ?_
  refine c_region ?_
  refine st hA28 (op_move rfl (hA28.ev rfl)) rfl rfl (by decide) fun a31 hA32 => ?_; clear hA28 a27
  refine st hA32 (op_move rfl (hA32.ev rfl)) rfl rfl (by decide) fun a33 hA34 => ?_; clear hA32 a31
  refine st hA34 (op_lenS rfl un_40 (hA34.ev rfl) (hS30.sk 1 rfl)) rfl rfl (by decide) fun a35 hA36 => ?_; clear hA34 a33
  refine st hA36 (op_lss rfl (hA36.ev rfl) (hA36.ev rfl)) rfl rfl (by decide) fun a37 hA38 => ?_; clear hA36 a35
  refine wl_nil ?_
  refine then_n ?_
  by_cases hb39 : (k2 : Int) < (l.length : Int)
  ·skip
   rw [decide_eq_true hb39] at hA38
   refine c_true hA38 rfl ?_
   refine c_skip ?_
   refine then_n ?_
   refine c_seq ?_
   refine c_block ?_
   refine c_region ?_
   refine st hA38 (op_move rfl (hA38.ev rfl)) rfl rfl (by decide) fun a40 hA41 => ?_; clear hA38 a37
   refine st hA41 (op_move rfl (hA41.ev rfl)) rfl rfl (by decide) fun a42 hA43 => ?_; clear hA41 a40
   rcases Bool.eq_false_or_eq_true ((woU l k1 k2)) with hb44 | hb44
   ·skip
    rw [hb44] at hA43
    have hnx := woU_t2 hb44
    refine stg hA43 (op_move rfl (hA43.ev rfl)) rfl rfl rfl rfl (by decide) fun a45 hA46 => ?_; clear hA43 a42
    refine stg hA46 (op_move rfl (hA46.ev rfl)) rfl rfl rfl rfl (by decide) fun a47 hA48 => ?_; clear hA46 a45
    refine stg hA48 (op_indexS rfl un_40 ty_3 (hA48.ev rfl) (i := k2) (hA48.ev rfl) (hS30.sk 1 rfl) (by decide) (by omega)) rfl rfl rfl rfl (by decide) fun a49 hA50 => ?_; clear hA48 a47
    refine stg hA50 (op_load1E rfl ty_3 (hA50.ev rfl) (hS30.sk 1 rfl) (ints_at (by omega))) rfl rfl rfl rfl (by decide) fun a51 hA52 => ?_; clear hA50 a49
    refine stg hA52 (op_move rfl (hA52.ev rfl)) rfl rfl rfl rfl (by decide) fun a53 hA54 => ?_; clear hA52 a51
    refine stg hA54 (op_neq rfl (hA54.ev rfl) (hA54.ev rfl)) rfl rfl rfl rfl (by decide) fun a55 hA56 => ?_; clear hA54 a53
    refine st hA56 (op_pick_t rfl (hA56.ev rfl) (hA56.ev rfl)) rfl rfl (by decide) fun a57 hA58 => ?_; clear hA56 a55
    refine st hA58 (op_assign rfl (hA58.ev rfl)) rfl rfl (by decide) fun a59 hA60 => ?_; clear hA58 a57
    refine wl_nil ?_
    refine blk_n ?_
    refine then_n ?_
    have hA61 := hA60.as [(7, (Value.bool (!(decide ((l.getD k2 0) = (k1 : Int)))))), (8, (Value.int .i64 (k2 : Int))), (6, (Value.int .i64 (k1 : Int))), (5, v5_), (0, vu), (1, xl)] rfl; clear hA60
    refine c_region ?_
    refine st hA61 (op_move rfl (hA61.ev rfl)) rfl rfl (by decide) fun a62 hA63 => ?_; clear hA61 a59
    refine st hA63 (op_add rfl (hA63.ev rfl) (evc _ _) (by omega) (by omega)) rfl rfl (by decide) fun a64 hA65 => ?_; clear hA63 a62
    refine st hA65 (op_assign rfl (hA65.ev rfl)) rfl rfl (by decide) fun a66 hA67 => ?_; clear hA65 a64
    refine wl_nil ?_
    exact then_n ⟨k2 + 1, ⟨hA67.as _ (by first | (rw [hnx]; done) | (rw [hnx]; rfl)), hS30, by omega⟩, by omega⟩
   ·skip
    rw [hb44] at hA43
    have hnx := woU_f1 hb44
    refine skp hA43 rfl rfl rfl rfl rfl (by decide) fun a68 hA69 => ?_; clear hA43 a42
    refine skp hA69 rfl rfl rfl rfl rfl (by decide) fun a70 hA71 => ?_; clear hA69 a68
    refine skp hA71 rfl rfl rfl rfl rfl (by decide) fun a72 hA73 => ?_; clear hA71 a70
    refine skp hA73 rfl rfl rfl rfl rfl (by decide) fun a74 hA75 => ?_; clear hA73 a72
    refine skp hA75 rfl rfl rfl rfl rfl (by decide) fun a76 hA77 => ?_; clear hA75 a74
    refine skp hA77 rfl rfl rfl rfl rfl (by decide) fun a78 hA79 => ?_; clear hA77 a76
    refine st hA79 (op_pick_f rfl (hA79.ev rfl) (evc _ _)) rfl rfl (by decide) fun a80 hA81 => ?_; clear hA79 a78
    refine st hA81 (op_assign rfl (hA81.ev rfl)) rfl rfl (by decide) fun a82 hA83 => ?_; clear hA81 a80
    refine wl_nil ?_
    refine blk_n ?_
    refine then_n ?_
    have hA84 := hA83.as [(7, (Value.bool false)), (8, (Value.int .i64 (k2 : Int))), (6, (Value.int .i64 (k1 : Int))), (5, v5_), (0, vu), (1, xl)] rfl; clear hA83
    refine c_region ?_
    refine st hA84 (op_move rfl (hA84.ev rfl)) rfl rfl (by decide) fun a85 hA86 => ?_; clear hA84 a82
    refine st hA86 (op_add rfl (hA86.ev rfl) (evc _ _) (by omega) (by omega)) rfl rfl (by decide) fun a87 hA88 => ?_; clear hA86 a85
    refine st hA88 (op_assign rfl (hA88.ev rfl)) rfl rfl (by decide) fun a89 hA90 => ?_; clear hA88 a87
    refine wl_nil ?_
    exact then_n ⟨k2 + 1, ⟨hA90.as _ (by first | (rw [hnx]; done) | (rw [hnx]; rfl)), hS30, by omega⟩, by omega⟩
  ·skip
   rw [decide_eq_false hb39] at hA38
   refine c_false hA38 rfl ?_
   refine c_exit ?_
   refine then_exit ?_
   refine then_exit ?_
   refine blk_hit ?_
   refine then_n ?_
   refine c_seq ?_
   refine c_region ?_
   refine st hA38 (op_move rfl (hA38.ev rfl)) rfl rfl (by decide) fun a91 hA92 => ?_; clear hA38 a37
   refine wl_nil ?_
   refine then_n ?_
   rcases Bool.eq_false_or_eq_true ((woU l k1 k2)) with hb93 | hb93
   ·skip
    rw [hb93] at hA92
    have hnx := woU_t2 hb93
    refine c_true hA92 rfl ?_
    have hA94 := hA92.as [(6, (Value.int .i64 (k1 : Int))), (5, v5_), (0, vu), (1, xl)] rfl; clear hA92
    refine c_region ?_
    refine st hA94 (op_move rfl (hA94.ev rfl)) rfl rfl (by decide) fun a95 hA96 => ?_; clear hA94 a91
    refine st hA96 (op_move rfl (hA96.ev rfl)) rfl rfl (by decide) fun a97 hA98 => ?_; clear hA96 a95
    refine st hA98 (op_move rfl (hA98.ev rfl)) rfl rfl (by decide) fun a99 hA100 => ?_; clear hA98 a97
    refine st hA100 (op_indexS rfl un_25 ty_54 (hA100.ev rfl) (i := k1) (hA100.ev rfl) (runs_at (hS30.ok 2 _ rfl)).runs (by decide) (by omega)) rfl rfl (by decide) fun a101 hA102 => ?_; clear hA100 a99
    refine st hA102 (op_loadAE rfl ty_54 (hA102.ev rfl) (runs_at (hS30.ok 2 _ rfl)).runs (runs_all (runs_at (hS30.ok 2 _ rfl)).len (by omega)) rfl (by decide)) rfl rfl (by decide) fun a103 hA104 => ?_; clear hA102 a101
    refine stw hA104 (op_buildSlice hS30 rfl (pv1 (hA104.ev rfl)) un_25 ty_54 ze_54 (by decide) (cs := [(lv.getD k1 nilS), (Value.int .i64 ((rs.getD k1 run0).lo)), (Value.int .i64 ((rs.getD k1 run0).hi))]) (bs_54_1_0viia _ _ _)) rfl rfl (by decide) ?_
    rintro a105 _ w107 ⟨b108, rfl, hS109⟩ hA106; clear hA104 hS30 a103
    refine stw hA106 (op_append hS109 rfl un_25 el_54 (hA106.ev rfl) (hA106.ev rfl) (i := 1) rfl (SlAt.of_blk (hS109.bk 0 rfl) rfl (Nat.le_of_ble_eq_true rfl)) (all_c (SlAt.one ((runs_at (hS109.ok 3 _ rfl)).segs k1 (by omega))) (all_c rfl (all_c rfl all_n))) (by simp only [maxLen]; omega) (by omega)) rfl rfl (by decide) ?_
    intro a110 v113 w112 hS114 hA111
    have hS115 := hS114.row_say (i := 1) rfl (n' := ((selR rs (woSel l k1)) ++ [(rs.getD k1 run0)]).length) (xs' := (vtrips (runV ((selV lv (woSel l k1)) ++ [(lv.getD k1 nilS)]) ((selR rs (woSel l k1)) ++ [(rs.getD k1 run0)])))) (by simp) (runs_snoc (selRV_len rs lv _) (lv.getD k1 nilS) (rs.getD k1 run0)); clear hS114 hA106 hS109 a105
    refine st hA111 (op_assign rfl (hA111.ev rfl)) rfl rfl (by decide) fun a116 hA117 => ?_; clear hA111 a110
    refine wl_nil ?_
    refine blk_n ?_
    refine then_n ?_
    have hA118 := hA117.as [(5, v113), (6, (Value.int .i64 (k1 : Int))), (0, vu), (1, xl)] rfl; clear hA117
    refine c_region ?_
    refine st hA118 (op_move rfl (hA118.ev rfl)) rfl rfl (by decide) fun a119 hA120 => ?_; clear hA118 a116
    refine st hA120 (op_add rfl (hA120.ev rfl) (evc _ _) (by omega) (by omega)) rfl rfl (by decide) fun a121 hA122 => ?_; clear hA120 a119
    refine st hA122 (op_assign rfl (hA122.ev rfl)) rfl rfl (by decide) fun a123 hA124 => ?_; clear hA122 a121
    refine wl_nil ?_
    have hS125 : Sep NoB w w112 [(row v113 54 3 (((selR rs (woSel l k1)) ++ [(rs.getD k1 run0)]).length) (vtrips (runV ((selV lv (woSel l k1)) ++ [(lv.getD k1 nilS)]) ((selR rs (woSel l k1)) ++ [(rs.getD k1 run0)])))), (sl xl 1 l.length (ints l)), (runsR false vu lv rs)] := hS115.keep [1, 2, 3] (by decide) _ rfl rfl; clear hS115
    exact then_n ⟨k1 + 1, ⟨v113, hA124.as _ rfl, ((hS125.row_say (i := 0) rfl (n' := ((selR rs (woSel l (k1 + 1)))).length) (xs' := (vtrips (runV (selV lv (woSel l (k1 + 1))) (selR rs (woSel l (k1 + 1)))))) (by rw [woSel_y (j := k2) (by omega) (by assumption), selR_snoc]) (by rw [woSel_y (j := k2) (by omega) (by assumption), selR_snoc, selV_snoc]))), by omega⟩, by omega⟩
   ·skip
    rw [hb93] at hA92
    have hnx := woU_f1 hb93
    refine c_false hA92 rfl ?_
    refine c_skip ?_
    refine blk_n ?_
    refine then_n ?_
    have hA126 := hA92.as [(6, (Value.int .i64 (k1 : Int))), (5, v5_), (0, vu), (1, xl)] rfl; clear hA92
    refine c_region ?_
    refine st hA126 (op_move rfl (hA126.ev rfl)) rfl rfl (by decide) fun a127 hA128 => ?_; clear hA126 a91
    refine st hA128 (op_add rfl (hA128.ev rfl) (evc _ _) (by omega) (by omega)) rfl rfl (by decide) fun a129 hA130 => ?_; clear hA128 a127
    refine st hA130 (op_assign rfl (hA130.ev rfl)) rfl rfl (by decide) fun a131 hA132 => ?_; clear hA130 a129
    refine wl_nil ?_
    exact then_n ⟨k1 + 1, ⟨v5_, hA132.as _ rfl, ((hS30.row_say (i := 0) rfl (n' := ((selR rs (woSel l (k1 + 1)))).length) (xs' := (vtrips (runV (selV lv (woSel l (k1 + 1))) (selR rs (woSel l (k1 + 1)))))) (by rw [woSel_n (j := k2) (by omega) (by assumption)]) (by rw [woSel_n (j := k2) (by omega) (by assumption)]))), by omega⟩, by omega⟩
 ·skip
  rw [decide_eq_false hb21] at hA20
  refine c_false hA20 rfl ?_
  refine c_exit ?_
  refine then_exit ?_
  refine then_exit ?_
  refine blk_hit ?_
  refine then_n ?_
  refine c_seq ?_
  have hA133 := hA20.as [(5, v5_)] rfl; clear hA20
  refine c_region ?_
  refine st hA133 (op_move rfl (hA133.ev rfl)) rfl rfl (by decide) fun a134 hA135 => ?_; clear hA133 a19
  refine st hA135 (op_assign rfl (hA135.ev rfl)) rfl rfl (by decide) fun a136 hA137 => ?_; clear hA135 a134
  refine wl_nil ?_
  refine then_n ?_
  refine c_ret ?_
  refine fin_run hA137 (.inl rfl) (run_results1 hA137 rfl (.tmp rfl)) ?_
  have hz := hS12.row_say (i := 0) rfl (n' := (woF rs l).length) (xs' := vtrips (runV (woV lv rs.length l) (woF rs l))) (by rw [show k1 = rs.length by omega]; rfl) (by rw [show k1 = rs.length by omega]; rfl)
  exact ⟨hz.ext, hz.row_new (i := 0) rfl⟩
end Go.Proofs.Ytkkglkdnnfegkaa

namespace Go.Proofs.Ytkkglkdnnfegkaa
open Go.RowKit Go.Eng
def lexB : List Int → List Int → Bool
  | a :: l, b :: m => if a = b then lexB l m else decide (a < b)
  | _, _ => false
def lessB (l m : List Int) : Bool := if l.length = m.length then lexB l m else decide (l.length < m.length)
theorem lex_self : ∀ l : List Int, lexB l l = false
  | [] => rfl
  | a :: l => by rw [lexB, if_pos rfl]; exact lex_self l
theorem less_self (l : List Int) : lessB l l = false := by rw [lessB, if_pos rfl]; exact lex_self l
theorem lex_at : ∀ (k : Nat) (l m : List Int), l.length = m.length → k < l.length → (∀ i, i < k → l.getD i 0 = m.getD i 0) → ¬ l.getD k 0 = m.getD k 0 → lexB l m = decide (l.getD k 0 < m.getD k 0)
  | _, [], _, _, hk, _, _ => absurd hk (Nat.not_lt_zero _)
  | _, _ :: _, [], hl, _, _, _ => by simp at hl
  | 0, a :: l, b :: m, _, _, _, hn => by rw [lexB, if_neg (by simpa using hn)]; rfl
  | k + 1, a :: l, b :: m, hl, hk, he, hn => by
    have h0 := he 0 (by omega)
    rw [lexB, if_pos (by simpa using h0)]
    have := lex_at k l m (by simpa using hl) (by simpa using hk) (fun i hi => by have := he (i + 1) (by omega); simpa using this) (by simpa using hn)
    simpa using this
theorem less_ne {l m : List Int} (h : ¬ l.length = m.length) : lessB l m = decide ((l.length : Int) < (m.length : Int)) := by
  rw [lessB, if_neg h]; exact decide_eq_decide.2 (by omega)
theorem less_at {k : Nat} {l m : List Int} (hl : l.length = m.length) (hk : k < l.length) (he : ∀ i, i < k → l.getD i 0 = m.getD i 0) (hn : ¬ l.getD k 0 = m.getD k 0) : lessB l m = decide (l.getD k 0 < m.getD k 0) := by
  rw [lessB, if_pos hl]; exact lex_at k l m hl hk he hn
theorem list_same {l m : List Int} (h : l.length = m.length) (he : ∀ i, i < l.length → l.getD i 0 = m.getD i 0) : l = m := by
  refine List.ext_getElem h fun i h1 h2 => ?_
  have := he i h1
  simpa [List.getD, List.getElem?_eq_getElem h1, List.getElem?_eq_getElem h2] using this
theorem less_all {l m : List Int} (hl : l.length = m.length) (he : ∀ i, i < l.length → l.getD i 0 = m.getD i 0) : lessB l m = decide ((l.length : Int) < (m.length : Int)) := by
  rw [list_same hl he, less_self]; exact (decide_eq_false (by omega)).symm
def bitsU (s : Nat) : Nat → List Int
  | 0 => []
  | j + 1 => if ((s >>> j : Nat) : Int).tmod 2 = 1 then bitsU s j ++ [(j : Int)] else bitsU s j
theorem bits_y {s j : Nat} (h : ((s >>> j : Nat) : Int).tmod 2 = 1) : bitsU s (j + 1) = bitsU s j ++ [(j : Int)] := by rw [bitsU, if_pos h]
theorem bits_n {s j : Nat} (h : ¬ ((s >>> j : Nat) : Int).tmod 2 = 1) : bitsU s (j + 1) = bitsU s j := by rw [bitsU, if_neg h]
theorem bits_len (s : Nat) : ∀ j, (bitsU s j).length ≤ j
  | 0 => Nat.le_refl _
  | j + 1 => by
    have := bits_len s j
    rw [bitsU]; split
    · rw [List.length_append]; simp only [List.length_cons, List.length_nil]; omega
    · omega
def rngI : Nat → List Int
  | 0 => []
  | k + 1 => rngI k ++ [(k : Int)]
theorem rngI_succ (k : Nat) : rngI (k + 1) = rngI k ++ [(k : Int)] := rfl
theorem rngI_len : ∀ k, (rngI k).length = k
  | 0 => rfl
  | k + 1 => by rw [rngI, List.length_append, rngI_len k]; rfl
theorem rngI_mem : ∀ (n k : Nat), k < n → (k : Int) ∈ rngI n
  | 0, _, h => absurd h (Nat.not_lt_zero _)
  | n + 1, k, h => by
    rw [rngI, List.mem_append]
    rcases Nat.lt_succ_iff_lt_or_eq.1 h with h | h
    · exact .inl (rngI_mem n k h)
    · subst h; exact .inr (List.mem_singleton.2 rfl)
def bestU (p : List Int → Bool) (n : Nat) : Nat → List Int
  | 0 => rngI n
  | k + 1 => if lessB (bitsU k n) (bestU p n k) && p (bitsU k n) then bitsU k n else bestU p n k
theorem best_succ (p : List Int → Bool) (n k : Nat) : bestU p n (k + 1) = if lessB (bitsU k n) (bestU p n k) && p (bitsU k n) then bitsU k n else bestU p n k := rfl
theorem best_len (p : List Int → Bool) (n : Nat) : ∀ k, (bestU p n k).length ≤ n
  | 0 => by rw [bestU, rngI_len]; exact Nat.le_refl _
  | k + 1 => by
    rw [best_succ]; split
    · exact bits_len _ _
    · exact best_len p n k
def pwB : List (List Int) → Bool
  | [] => true
  | a :: A => (A.all fun b => lessB a b && !lessB b a) && pwB A
theorem pw_first {p : List Int → Bool} {x : List Int} : ∀ {A : List (List Int)}, pwB A = true → A.find? p = some x → ∀ b ∈ A, p b = true → b = x ∨ lessB x b = true ∧ lessB b x = false
  | [], _, h, _, _, _ => by cases h
  | a :: A, hp, h, b, hb, hpb => by
    rw [pwB, Bool.and_eq_true, List.all_eq_true] at hp
    rw [List.find?_cons] at h
    split at h <;> rename_i ha
    · obtain rfl := Option.some.inj h
      rcases List.mem_cons.1 hb with rfl | hb
      · exact .inl rfl
      · have := hp.1 b hb
        rw [Bool.and_eq_true, Bool.not_eq_true'] at this
        exact .inr this
    · rcases List.mem_cons.1 hb with rfl | hb
      · rw [ha] at hpb; cases hpb
      · exact pw_first hp.2 h b hb hpb
def allOk (n : Nat) : Bool := pwB (allUpto n (n + 1)) && ((List.range (2 ^ n)).all fun k => (allUpto n (n + 1)).contains (bitsU k n)) && ((allUpto n (n + 1)).all fun a => (List.range (2 ^ n)).any fun k => bitsU k n == a) && (allUpto n (n + 1)).contains (rngI n)
theorem all_ok : ∀ n, n < 7 → allOk n = true := by decide +kernel
theorem best_is {p : List Int → Bool} {n : Nat} {x : List Int} (hn : n ≤ 6) (h0 : p (rngI n) = true) (hx : (allUpto n (n + 1)).find? p = some x) : bestU p n (2 ^ n) = x := by
  have hok := all_ok n (by omega)
  unfold allOk at hok
  simp only [Bool.and_eq_true, List.all_eq_true, List.any_eq_true, List.mem_range, List.contains_iff_mem, beq_iff_eq] at hok
  obtain ⟨⟨⟨hpw, hin⟩, hon⟩, hrg⟩ := hok
  have hfirst := pw_first hpw hx
  have hpx : p x = true := List.find?_some hx
  obtain ⟨kx, hkx, ex⟩ := hon x (List.mem_of_find?_eq_some hx)
  have key : ∀ k, k ≤ 2 ^ n → bestU p n k ∈ allUpto n (n + 1) ∧ p (bestU p n k) = true ∧ (kx < k → bestU p n k = x) := by
    intro k
    induction k with
    | zero => intro _; exact ⟨hrg, h0, fun h => absurd h (Nat.not_lt_zero _)⟩
    | succ k ih =>
      intro hk
      obtain ⟨h1, h2, h3⟩ := ih (by omega)
      rw [best_succ]
      by_cases hc : (lessB (bitsU k n) (bestU p n k) && p (bitsU k n)) = true
      · rw [if_pos hc]
        rw [Bool.and_eq_true] at hc
        refine ⟨hin k (by omega), hc.2, fun hlt => ?_⟩
        rcases Nat.lt_succ_iff_lt_or_eq.1 hlt with h | h
        · rw [h3 h] at hc
          rcases hfirst _ (hin k (by omega)) hc.2 with h | h
          · exact h
          · rw [h.2] at hc; cases hc.1
        · subst h; exact ex
      · rw [if_neg hc]
        refine ⟨h1, h2, fun hlt => ?_⟩
        rcases Nat.lt_succ_iff_lt_or_eq.1 hlt with h | h
        · exact h3 h
        · subst h
          rw [ex] at hc
          rcases hfirst _ h1 h2 with h | h
          · exact h
          · exact absurd (by rw [Bool.and_eq_true]; exact ⟨h.1, hpx⟩) hc
  exact (key _ (Nat.le_refl _)).2.2 hkx
theorem best_doubt {R : List (Int × Int)} {rs : List RunD} (hpos : 0 < (listsF R).length) (h6 : rs.length ≤ 6) : bestU (okB (againstF R rs)) rs.length (2 ^ rs.length) = doubtF R rs := by
  have hall : okB (againstF R rs) (rngI rs.length) = true := ok_iff.2 ⟨_, List.getElem_mem hpos, fun i hi hn => absurd (rngI_mem _ _ hi) hn⟩
  unfold doubtF
  cases hf : (allUpto rs.length (rs.length + 1)).find? (okB (againstF R rs)) with
  | some x => exact best_is h6 hall hf
  | none =>
    have hok := all_ok rs.length (by omega)
    unfold allOk at hok
    simp only [Bool.and_eq_true, List.contains_iff_mem] at hok
    exact absurd hall (List.find?_eq_none.1 hf _ hok.2)
theorem bits_p {n k : Nat} {p : List Int → Bool} (hl : lessB (bitsU k n) (bestU p n k) = true) (hp : p (bitsU k n) = true) : bestU p n (k + 1) = bitsU k n := by rw [best_succ, hl, hp]; rfl
theorem bits_m {n k : Nat} {p : List Int → Bool} (hl : lessB (bitsU k n) (bestU p n k) = false) : bestU p n (k + 1) = bestU p n k := by rw [best_succ, hl]; rfl
theorem bits_q {n k : Nat} {p : List Int → Bool} (hp : ¬ p (bitsU k n) = true) : bestU p n (k + 1) = bestU p n k := by rw [best_succ, if_neg (by rw [Bool.and_eq_true]; exact fun h => hp h.2)]
end Go.Proofs.Ytkkglkdnnfegkaa

namespace Go.Proofs.Ytkkglkdnnfegkaa
open Go.RowKit Go.Shelf Go.Eng
theorem runsAt_sel {w : World} {v vu : Value} {lv : List Value} {rs : List RunD} {sel : List Nat} (h : SlAt w v 3 (selR rs sel).length (vtrips (runV (selV lv sel) (selR rs sel)))) (hx : RunsAt w vu lv rs) (hs : ∀ j ∈ sel, j < rs.length) : RunsAt w v (selV lv sel) (selR rs sel) :=
 ⟨h, selRV_len rs lv sel, fun i hi => by
  rw [selR_len] at hi
  rw [selR_at hi, selV_at hi]; exact hx.segs _ (hs _ (getD_memN hi))⟩
set_option maxHeartbeats 1000000 in
theorem less_ok (w : World) (l : List Int) (xl : Value) (hxl : SlAt w xl 1 l.length (ints l)) (m : List Int) (xm : Value) (hxm : SlAt w xm 1 m.length (ints m)) (hlb : l.length ≤ 1000000) :
  Calls Try.prog 77 #[xl, xm] w (Ret fun v w' => v = .bool (lessB l m) ∧ Ext NoB w w') := by
 refine calls_enter Try.func77 rfl fun a0 hA0 => ?_
 replace hA0 : Fr 42 [] [(0, xl), (1, xm)] a0 := hA0
 have hS0 : Sep NoB w w [(sl xl 1 l.length (ints l)), (sl xm 1 m.length (ints m))] := sep_ro ⟨rfl, hxl, rfl, hxm, trivial⟩
 refine c_seq ?_
 refine c_region ?_
 refine st hA0 (op_assign rfl (evc _ _)) rfl rfl (by decide) fun a1 hA2 => ?_; clear hA0 a0
 refine wl_nil ?_
 refine then_n ?_
 refine c_seq ?_
 refine c_seq ?_
 refine c_region ?_
 refine st hA2 (op_assign rfl (evc _ _)) rfl rfl (by decide) fun a3 hA4 => ?_; clear hA2 a1
 refine wl_nil ?_
 refine then_n ?_
 refine c_block ?_
 have hA5 := hA4.as [(5, (Value.int .i64 0)), (0, xl), (1, xm)] rfl; clear hA4
 refine c_loop (G := Nat) (fun (k : Nat) a_ w_ => Fr 42 [] [(5, (Value.int .i64 (k : Int))), (0, xl), (1, xm)] a_ ∧ Sep NoB w w_ [(sl xl 1 l.length (ints l)), (sl xm 1 m.length (ints m))] ∧ (k ≤ l.length) ∧ (∀ i, i < k → l.getD i 0 = m.getD i 0)) (fun k => l.length - k) 0 ⟨hA5.as _ rfl, hS0, by omega, (fun _ h => absurd h (Nat.not_lt_zero _))⟩ ?_
 clear hA5 hS0 a3
 rintro k a6 w8 ⟨hA7, hS9, hkk, hq_⟩
 refine c_seq ?_
 refine c_seq ?_
 refine c_region ?_
 refine st hA7 (op_move rfl (hA7.ev rfl)) rfl rfl (by decide) fun a10 hA11 => ?_; clear hA7 a6
 refine st hA11 (op_move rfl (hA11.ev rfl)) rfl rfl (by decide) fun a12 hA13 => ?_; clear hA11 a10
 refine st hA13 (op_lenS rfl un_40 (hA13.ev rfl) (hS9.sk 0 rfl)) rfl rfl (by decide) fun a14 hA15 => ?_; clear hA13 a12
 refine st hA15 (op_lss rfl (hA15.ev rfl) (hA15.ev rfl)) rfl rfl (by decide) fun a16 hA17 => ?_; clear hA15 a14
 refine st hA17 (op_move rfl (hA17.ev rfl)) rfl rfl (by decide) fun a18 hA19 => ?_; clear hA17 a16
 by_cases hb20 : (k : Int) < (l.length : Int)
 ·skip
  rw [decide_eq_true hb20] at hA19
  refine stg hA19 (op_move rfl (hA19.ev rfl)) rfl rfl rfl rfl (by decide) fun a21 hA22 => ?_; clear hA19 a18
  refine stg hA22 (op_lenS rfl un_40 (hA22.ev rfl) (hS9.sk 0 rfl)) rfl rfl rfl rfl (by decide) fun a23 hA24 => ?_; clear hA22 a21
  refine stg hA24 (op_move rfl (hA24.ev rfl)) rfl rfl rfl rfl (by decide) fun a25 hA26 => ?_; clear hA24 a23
  refine stg hA26 (op_lenS rfl un_40 (hA26.ev rfl) (hS9.sk 1 rfl)) rfl rfl rfl rfl (by decide) fun a27 hA28 => ?_; clear hA26 a25
  refine stg hA28 (op_eql rfl (hA28.ev rfl) (hA28.ev rfl)) rfl rfl rfl rfl (by decide) fun a29 hA30 => ?_; clear hA28 a27
  refine st hA30 (op_pick_t rfl (hA30.ev rfl) (hA30.ev rfl)) rfl rfl (by decide) fun a31 hA32 => ?_; clear hA30 a29
  refine wl_nil ?_
  refine then_n ?_
  by_cases hb33 : (l.length : Int) = (m.length : Int)
  ·skip
   rw [decide_eq_true hb33] at hA32
   refine c_true hA32 rfl ?_
   refine c_skip ?_
   refine then_n ?_
   refine c_seq ?_
   refine c_block ?_
   refine c_seq ?_
   have hA34 := hA32.as [(5, (Value.int .i64 (k : Int))), (0, xl), (1, xm)] rfl; clear hA32
   have hA35 := hA34.as [(5, (Value.int .i64 (k : Int))), (0, xl), (1, xm)] rfl; clear hA34
   refine c_drawn mixed hA35 hS9 8 [[], [], [0, 1], [2], [], [], [4, 5], [6]] [(Yd.val xl), (Yd.val (Value.int .i64 (k : Int))), (Yd.val (eptr xl (k * 1))), (Yd.val (Value.int .i64 (l.getD k 0))), (Yd.val xm), (Yd.val (Value.int .i64 (k : Int))), (Yd.val (eptr xm (k * 1))), (Yd.val (Value.int .i64 (m.getD k 0)))] (by decide +kernel) rfl rfl ?_ ?_
   ·skip
    refine ⟨fun a w hA hS hd => by exact opG_of rfl (dv (op_move rfl (hA.ev rfl)) hS rfl), ?_⟩
    refine ⟨fun a w hA hS hd => by exact opG_of rfl (dv (op_move rfl (hA.ev rfl)) hS rfl), ?_⟩
    refine ⟨fun a w hA hS hd => by have e0 := has_ev (hd 0 (by decide)) rfl (fun _ h => h); have e1 := has_ev (hd 1 (by decide)) rfl (fun _ h => h); exact opG_of rfl (dv (op_indexS rfl un_40 ty_3 (tmp_ev e0) (i := k) (tmp_ev e1) (hS.sk 0 rfl) (by decide) (by omega)) hS rfl), ?_⟩
    refine ⟨fun a w hA hS hd => by have e2 := has_ev (hd 2 (by decide)) rfl (fun _ h => h); exact opG_of rfl (dv (op_load1E rfl ty_3 (tmp_ev e2) (hS.sk 0 rfl) (ints_at (by omega))) hS rfl), ?_⟩
    refine ⟨fun a w hA hS hd => by exact opG_of rfl (dv (op_move rfl (hA.ev rfl)) hS rfl), ?_⟩
    refine ⟨fun a w hA hS hd => by exact opG_of rfl (dv (op_move rfl (hA.ev rfl)) hS rfl), ?_⟩
    refine ⟨fun a w hA hS hd => by have e4 := has_ev (hd 4 (by decide)) rfl (fun _ h => h); have e5 := has_ev (hd 5 (by decide)) rfl (fun _ h => h); exact opG_of rfl (dv (op_indexS rfl un_40 ty_3 (tmp_ev e4) (i := k) (tmp_ev e5) (hS.sk 1 rfl) (by decide) (by omega)) hS rfl), ?_⟩
    refine ⟨fun a w hA hS hd => by have e6 := has_ev (hd 6 (by decide)) rfl (fun _ h => h); exact opG_of rfl (dv (op_load1E rfl ty_3 (tmp_ev e6) (hS.sk 1 rfl) (ints_at (by omega))) hS rfl), ?_⟩
    trivial
   intro a37 w38 hA39 hS40 hH41; clear hA35 hS9
   have hA42 := hA39.add (has_ev (hH41 3 (by decide)) rfl (fun _ h => h)); clear hA39
   have hA43 := hA42.add (has_ev (hH41 7 (by decide)) rfl (fun _ h => h)); clear hA42
   clear hH41
   refine st hA43 (op_neq rfl (hA43.ev rfl) (hA43.ev rfl)) rfl rfl (by decide) fun a44 hA45 => ?_; clear hA43 a37
   refine wl_nil ?_
   refine then_n ?_
   by_cases hb46 : (l.getD k 0) = (m.getD k 0)
   ·skip
    rw [decide_eq_true hb46] at hA45
    refine c_false hA45 rfl ?_
    refine c_skip ?_
    refine blk_n ?_
    refine then_n ?_
    refine c_region ?_
    refine st hA45 (op_move rfl (hA45.ev rfl)) rfl rfl (by decide) fun a47 hA48 => ?_; clear hA45 a44
    refine st hA48 (op_add rfl (hA48.ev rfl) (evc _ _) (by omega) (by omega)) rfl rfl (by decide) fun a49 hA50 => ?_; clear hA48 a47
    refine st hA50 (op_assign rfl (hA50.ev rfl)) rfl rfl (by decide) fun a51 hA52 => ?_; clear hA50 a49
    refine wl_nil ?_
    exact then_n ⟨k + 1, ⟨hA52.as _ rfl, hS40, by omega, (fun i hi => by rcases Nat.lt_succ_iff_lt_or_eq.1 hi with h | h; exact hq_ i h; subst h; assumption)⟩, by omega⟩
   ·skip
    rw [decide_eq_false hb46] at hA45
    refine c_true hA45 rfl ?_
    refine c_seq ?_
    have hA53 := hA45.as [(5, (Value.int .i64 (k : Int))), (0, xl), (1, xm)] rfl; clear hA45
    refine c_drawn mixed hA53 hS40 8 [[], [], [0, 1], [2], [], [], [4, 5], [6]] [(Yd.val xl), (Yd.val (Value.int .i64 (k : Int))), (Yd.val (eptr xl (k * 1))), (Yd.val (Value.int .i64 (l.getD k 0))), (Yd.val xm), (Yd.val (Value.int .i64 (k : Int))), (Yd.val (eptr xm (k * 1))), (Yd.val (Value.int .i64 (m.getD k 0)))] (by decide +kernel) rfl rfl ?_ ?_
    ·skip
     refine ⟨fun a w hA hS hd => by exact opG_of rfl (dv (op_move rfl (hA.ev rfl)) hS rfl), ?_⟩
     refine ⟨fun a w hA hS hd => by exact opG_of rfl (dv (op_move rfl (hA.ev rfl)) hS rfl), ?_⟩
     refine ⟨fun a w hA hS hd => by have e0 := has_ev (hd 0 (by decide)) rfl (fun _ h => h); have e1 := has_ev (hd 1 (by decide)) rfl (fun _ h => h); exact opG_of rfl (dv (op_indexS rfl un_40 ty_3 (tmp_ev e0) (i := k) (tmp_ev e1) (hS.sk 0 rfl) (by decide) (by omega)) hS rfl), ?_⟩
     refine ⟨fun a w hA hS hd => by have e2 := has_ev (hd 2 (by decide)) rfl (fun _ h => h); exact opG_of rfl (dv (op_load1E rfl ty_3 (tmp_ev e2) (hS.sk 0 rfl) (ints_at (by omega))) hS rfl), ?_⟩
     refine ⟨fun a w hA hS hd => by exact opG_of rfl (dv (op_move rfl (hA.ev rfl)) hS rfl), ?_⟩
     refine ⟨fun a w hA hS hd => by exact opG_of rfl (dv (op_move rfl (hA.ev rfl)) hS rfl), ?_⟩
     refine ⟨fun a w hA hS hd => by have e4 := has_ev (hd 4 (by decide)) rfl (fun _ h => h); have e5 := has_ev (hd 5 (by decide)) rfl (fun _ h => h); exact opG_of rfl (dv (op_indexS rfl un_40 ty_3 (tmp_ev e4) (i := k) (tmp_ev e5) (hS.sk 1 rfl) (by decide) (by omega)) hS rfl), ?_⟩
     refine ⟨fun a w hA hS hd => by have e6 := has_ev (hd 6 (by decide)) rfl (fun _ h => h); exact opG_of rfl (dv (op_load1E rfl ty_3 (tmp_ev e6) (hS.sk 1 rfl) (ints_at (by omega))) hS rfl), ?_⟩
     trivial
    intro a55 w56 hA57 hS58 hH59; clear hA53 hS40
    have hA60 := hA57.add (has_ev (hH59 3 (by decide)) rfl (fun _ h => h)); clear hA57
    have hA61 := hA60.add (has_ev (hH59 7 (by decide)) rfl (fun _ h => h)); clear hA60
    clear hH59
    refine st hA61 (op_lss rfl (hA61.ev rfl) (hA61.ev rfl)) rfl rfl (by decide) fun a62 hA63 => ?_; clear hA61 a55
    refine st hA63 (op_assign rfl (hA63.ev rfl)) rfl rfl (by decide) fun a64 hA65 => ?_; clear hA63 a62
    refine wl_nil ?_
    refine then_n ?_
    refine c_ret ?_
    refine blk_ret ?_
    refine then_ret ?_
    refine then_ret ?_
    refine blk_ret ?_
    refine then_ret ?_
    refine fin_run hA65 (.inl rfl) (run_results1 hA65 rfl (.tmp rfl)) ?_
    exact ⟨congrArg Value.bool (Eq.symm (by first | exact less_at (k := k) (by omega) (by omega) (fun i hi => hq_ i (by omega)) (by assumption) | (by_cases hl_ : l.length = m.length; exact less_all hl_ (fun i hi => hq_ i (by omega)); exact less_ne hl_))), hS58.ext⟩
  ·skip
   rw [decide_eq_false hb33] at hA32
   refine c_false hA32 rfl ?_
   refine c_exit ?_
   refine then_exit ?_
   refine then_exit ?_
   refine blk_hit ?_
   refine then_n ?_
   refine c_seq ?_
   have hA66 := hA32.as [(0, xl), (1, xm)] rfl; clear hA32
   refine c_region ?_
   refine st hA66 (op_move rfl (hA66.ev rfl)) rfl rfl (by decide) fun a67 hA68 => ?_; clear hA66 a31
   refine st hA68 (op_lenS rfl un_40 (hA68.ev rfl) (hS9.sk 0 rfl)) rfl rfl (by decide) fun a69 hA70 => ?_; clear hA68 a67
   refine st hA70 (op_move rfl (hA70.ev rfl)) rfl rfl (by decide) fun a71 hA72 => ?_; clear hA70 a69
   refine st hA72 (op_lenS rfl un_40 (hA72.ev rfl) (hS9.sk 1 rfl)) rfl rfl (by decide) fun a73 hA74 => ?_; clear hA72 a71
   refine st hA74 (op_lss rfl (hA74.ev rfl) (hA74.ev rfl)) rfl rfl (by decide) fun a75 hA76 => ?_; clear hA74 a73
   refine st hA76 (op_assign rfl (hA76.ev rfl)) rfl rfl (by decide) fun a77 hA78 => ?_; clear hA76 a75
   refine wl_nil ?_
   refine then_n ?_
   refine c_ret ?_
   refine fin_run hA78 (.inl rfl) (run_results1 hA78 rfl (.tmp rfl)) ?_
   exact ⟨congrArg Value.bool (Eq.symm (by first | exact less_at (k := k) (by omega) (by omega) (fun i hi => hq_ i (by omega)) (by assumption) | (by_cases hl_ : l.length = m.length; exact less_all hl_ (fun i hi => hq_ i (by omega)); exact less_ne hl_))), hS9.ext⟩
 ·skip
  rw [decide_eq_false hb20] at hA19
  refine skp hA19 rfl rfl rfl rfl rfl (by decide) fun a79 hA80 => ?_; clear hA19 a18
  refine skp hA80 rfl rfl rfl rfl rfl (by decide) fun a81 hA82 => ?_; clear hA80 a79
  refine skp hA82 rfl rfl rfl rfl rfl (by decide) fun a83 hA84 => ?_; clear hA82 a81
  refine skp hA84 rfl rfl rfl rfl rfl (by decide) fun a85 hA86 => ?_; clear hA84 a83
  refine skp hA86 rfl rfl rfl rfl rfl (by decide) fun a87 hA88 => ?_; clear hA86 a85
  refine st hA88 (op_pick_f rfl (hA88.ev rfl) (evc _ _)) rfl rfl (by decide) fun a89 hA90 => ?_; clear hA88 a87
  refine wl_nil ?_
  refine then_n ?_
  refine c_false hA90 rfl ?_
  refine c_exit ?_
  refine then_exit ?_
  refine then_exit ?_
  refine blk_hit ?_
  refine then_n ?_
  refine c_seq ?_
  have hA91 := hA90.as [(0, xl), (1, xm)] rfl; clear hA90
  refine c_region ?_
  refine st hA91 (op_move rfl (hA91.ev rfl)) rfl rfl (by decide) fun a92 hA93 => ?_; clear hA91 a89
  refine st hA93 (op_lenS rfl un_40 (hA93.ev rfl) (hS9.sk 0 rfl)) rfl rfl (by decide) fun a94 hA95 => ?_; clear hA93 a92
  refine st hA95 (op_move rfl (hA95.ev rfl)) rfl rfl (by decide) fun a96 hA97 => ?_; clear hA95 a94
  refine st hA97 (op_lenS rfl un_40 (hA97.ev rfl) (hS9.sk 1 rfl)) rfl rfl (by decide) fun a98 hA99 => ?_; clear hA97 a96
  refine st hA99 (op_lss rfl (hA99.ev rfl) (hA99.ev rfl)) rfl rfl (by decide) fun a100 hA101 => ?_; clear hA99 a98
  refine st hA101 (op_assign rfl (hA101.ev rfl)) rfl rfl (by decide) fun a102 hA103 => ?_; clear hA101 a100
  refine wl_nil ?_
  refine then_n ?_
  refine c_ret ?_
  refine fin_run hA103 (.inl rfl) (run_results1 hA103 rfl (.tmp rfl)) ?_
  exact ⟨congrArg Value.bool (Eq.symm (by first | exact less_at (k := k) (by omega) (by omega) (fun i hi => hq_ i (by omega)) (by assumption) | (by_cases hl_ : l.length = m.length; exact less_all hl_ (fun i hi => hq_ i (by omega)); exact less_ne hl_))), hS9.ext⟩
set_option maxHeartbeats 4000000 in
theorem rDoubtful_ok (w : World) (R : List (Int × Int)) (vr : Value) (hm : SlAt w vr 2 R.length (pairs R)) (rs : List RunD) (lv : List Value) (vu : Value) (hx : RunsAt w vu lv rs) (he : enterF R rs = 0) :
  Calls Try.prog 45 #[(Value.agg #[vr]), vu] w (Ret fun v w' => Ext NoB w w' ∧ w'.ownsRow w.heap.size 3 1 v (doubtF R rs).length (ints (doubtF R rs))) := by
 refine calls_enter Try.func45 rfl fun a0 hA0 => ?_
 replace hA0 : Fr 58 [] [(0, (Value.agg #[vr])), (1, vu)] a0 := hA0
 have hcm := check_mat (enter_mat he); have hR := hcm.1; have hR1 := hcm.2.1; have hpos := hcm.2.2; have hV := enter_runs he; have h6 := hV.len
 obtain ⟨N, hN⟩ : ∃ N, 1 * 2 ^ rs.length = N := ⟨_, rfl⟩
 have hN2 : 2 ^ rs.length = N := by rw [← hN, Nat.one_mul]
 have hN6 : N ≤ 64 := by rw [← hN2]; exact Nat.pow_le_pow_right (by decide) h6
 have hS0 : Sep NoB w w [(sl vr 2 R.length (pairs R)), (runsR false vu lv rs)] := sep_ro ⟨rfl, hm, rfl, hx, trivial⟩
 refine c_seq ?_
 refine c_region ?_
 refine stw hA0 (op_box hS0 rfl (hA0.ev rfl) (cs := [vr]) rfl) rfl rfl (by decide) ?_
 rintro a1 _ w3 ⟨b4, rfl, hS5⟩ hA2; clear hA0 hS0 a0
 refine st hA2 (op_assign rfl (evc _ _)) rfl rfl (by decide) fun a6 hA7 => ?_; clear hA2 a1
 refine wl_nil ?_
 refine then_n ?_
 refine c_seq ?_
 refine c_region ?_
 refine st hA7 (op_assign rfl (evc _ _)) rfl rfl (by decide) fun a8 hA9 => ?_; clear hA7 a6
 have hS10 := hS5.nil_row 3 1; clear hS5
 refine wl_nil ?_
 refine then_n ?_
 refine c_seq ?_
 refine c_seq ?_
 refine c_region ?_
 refine st hA9 (op_assign rfl (evc _ _)) rfl rfl (by decide) fun a11 hA12 => ?_; clear hA9 a8
 refine wl_nil ?_
 refine then_n ?_
 refine c_block ?_
 have hA13 := hA12.as [(6, (Value.int .i64 0)), (5, (Value.slice none 0 0)), (2, (bptr b4 0)), (1, vu)] rfl; clear hA12
 refine c_loop (G := Nat) (fun (k0 : Nat) a_ w_ => ∃ v5_ : Value, Fr 58 [] [(6, (Value.int .i64 (k0 : Int))), (5, v5_), (2, (bptr b4 0)), (1, vu)] a_ ∧ Sep NoB w w_ [(row v5_ 3 1 ((rngI k0).length) (ints (rngI k0))), (blk b4 24 [vr]), (sl vr 2 R.length (pairs R)), (runsR false vu lv rs)] ∧ (k0 ≤ rs.length)) (fun k0 => rs.length - k0) 0 ⟨(Value.slice none 0 0), hA13.as _ rfl, hS10, by omega⟩ ?_
 clear hA13 hS10 a11
 rintro k0 a14 w16 ⟨v5_, hA15, hS17, hk0⟩
 have hrl := rngI_len k0
 refine c_seq ?_
 refine c_seq ?_
 refine c_region ?_
 refine st hA15 (op_move rfl (hA15.ev rfl)) rfl rfl (by decide) fun a18 hA19 => ?_; clear hA15 a14
 refine st hA19 (op_move rfl (hA19.ev rfl)) rfl rfl (by decide) fun a20 hA21 => ?_; clear hA19 a18
 refine st hA21 (op_lenS rfl un_25 (hA21.ev rfl) (runs_at (hS17.ok 3 _ rfl)).runs) rfl rfl (by decide) fun a22 hA23 => ?_; clear hA21 a20
 refine st hA23 (op_lss rfl (hA23.ev rfl) (hA23.ev rfl)) rfl rfl (by decide) fun a24 hA25 => ?_; clear hA23 a22
 refine wl_nil ?_
 refine then_n ?_
 by_cases hb26 : (k0 : Int) < (rs.length : Int)
 ·skip
  rw [decide_eq_true hb26] at hA25
  refine c_true hA25 rfl ?_
  refine c_skip ?_
  refine then_n ?_
  refine c_seq ?_
  refine c_block ?_
  refine c_region ?_
  refine st hA25 (op_move rfl (hA25.ev rfl)) rfl rfl (by decide) fun a27 hA28 => ?_; clear hA25 a24
  refine st hA28 (op_move rfl (hA28.ev rfl)) rfl rfl (by decide) fun a29 hA30 => ?_; clear hA28 a27
  refine stw hA30 (op_buildSlice hS17 rfl (pv1 (hA30.ev rfl)) un_40 ty_3 ze_3 (by decide) (cs := [(Value.int .i64 (k0 : Int))]) (bs_3_1_0i _)) rfl rfl (by decide) ?_
  rintro a31 _ w33 ⟨b34, rfl, hS35⟩ hA32; clear hA30 hS17 a29
  refine stw hA32 (op_append hS35 rfl un_40 el_3 (hA32.ev rfl) (hA32.ev rfl) (i := 1) rfl (SlAt.of_blk (hS35.bk 0 rfl) rfl (Nat.le_of_ble_eq_true rfl)) rfl (by simp only [maxLen]; omega) (by omega)) rfl rfl (by decide) ?_
  intro a36 v39 w38 hS40 hA37
  have hS41 := hS40.row_say (i := 1) rfl (n' := ((rngI k0) ++ [(k0 : Int)]).length) (xs' := (ints ((rngI k0) ++ [(k0 : Int)]))) (by simp) (by simp [ints]); clear hS40 hA32 hS35 a31
  refine st hA37 (op_assign rfl (hA37.ev rfl)) rfl rfl (by decide) fun a42 hA43 => ?_; clear hA37 a36
  refine wl_nil ?_
  refine blk_n ?_
  refine then_n ?_
  have hA44 := hA43.as [(5, v39), (6, (Value.int .i64 (k0 : Int))), (2, (bptr b4 0)), (1, vu)] rfl; clear hA43
  refine c_region ?_
  refine st hA44 (op_move rfl (hA44.ev rfl)) rfl rfl (by decide) fun a45 hA46 => ?_; clear hA44 a42
  refine st hA46 (op_add rfl (hA46.ev rfl) (evc _ _) (by omega) (by omega)) rfl rfl (by decide) fun a47 hA48 => ?_; clear hA46 a45
  refine st hA48 (op_assign rfl (hA48.ev rfl)) rfl rfl (by decide) fun a49 hA50 => ?_; clear hA48 a47
  refine wl_nil ?_
  have hS51 : Sep NoB w w38 [(row v39 3 1 (((rngI k0) ++ [(k0 : Int)]).length) (ints ((rngI k0) ++ [(k0 : Int)]))), (blk b4 24 [vr]), (sl vr 2 R.length (pairs R)), (runsR false vu lv rs)] := hS41.keep [1, 2, 3, 4] (by decide) _ rfl rfl; clear hS41
  exact then_n ⟨k0 + 1, ⟨v39, hA50.as _ rfl, (hS51.row_say (i := 0) rfl (n' := ((rngI (k0 + 1))).length) (xs' := ints (rngI (k0 + 1))) (by rw [rngI_succ]) (by rw [rngI_succ])), by omega⟩, by omega⟩
 ·skip
  rw [decide_eq_false hb26] at hA25
  refine c_false hA25 rfl ?_
  refine c_exit ?_
  refine then_exit ?_
  refine then_exit ?_
  refine blk_hit ?_
  refine then_n ?_
  refine c_seq ?_
  refine c_seq ?_
  refine c_region ?_
  refine st hA25 (op_assign rfl (evc _ _)) rfl rfl (by decide) fun a52 hA53 => ?_; clear hA25 a24
  refine wl_nil ?_
  refine then_n ?_
  refine c_block ?_
  have hA54 := hA53.as [(7, (Value.int .i64 0)), (5, v5_), (2, (bptr b4 0)), (1, vu)] rfl; clear hA53
  refine c_loop (G := Nat) (fun (k : Nat) a_ w_ => ∃ v5_ : Value, Fr 58 [] [(7, (Value.int .i64 (k : Int))), (5, v5_), (2, (bptr b4 0)), (1, vu)] a_ ∧ Sep NoB w w_ [(row v5_ 3 1 ((bestU (okB (againstF R rs)) rs.length k).length) (ints (bestU (okB (againstF R rs)) rs.length k))), (blk b4 24 [vr]), (sl vr 2 R.length (pairs R)), (runsR false vu lv rs)] ∧ (k ≤ N)) (fun k => N - k) 0 ⟨v5_, hA54.as _ rfl, (hS17.row_say (i := 0) rfl (n' := ((bestU (okB (againstF R rs)) rs.length 0)).length) (xs' := ints (bestU (okB (againstF R rs)) rs.length 0)) (by rw [show k0 = rs.length by omega]; rfl) (by rw [show k0 = rs.length by omega]; rfl)), by omega⟩ ?_
  clear hA54 hS17 a52
  rintro k a55 w57 ⟨v5_, hA56, hS58, hk⟩
  have hbl5 := best_len (okB (againstF R rs)) rs.length k
  refine c_seq ?_
  refine c_seq ?_
  refine c_region ?_
  refine st hA56 (op_move rfl (hA56.ev rfl)) rfl rfl (by decide) fun a59 hA60 => ?_; clear hA56 a55
  refine st hA60 (op_move rfl (hA60.ev rfl)) rfl rfl (by decide) fun a61 hA62 => ?_; clear hA60 a59
  refine st hA62 (op_lenS rfl un_25 (hA62.ev rfl) (runs_at (hS58.ok 3 _ rfl)).runs) rfl rfl (by decide) fun a63 hA64 => ?_; clear hA62 a61
  refine st hA64 (op_conv un_3 un_126 rfl (hA64.ev rfl) (v := (rs.length : Int)) (wrap_u64 (by omega) (by omega))) rfl rfl (by decide) fun a65 hA66 => ?_; clear hA64 a63
  refine st hA66 (op_shlN rfl (m := 1) (show _ = Value.int .i64 ((1 : Nat) : Int) from (evc _ _)) (k := rs.length) (hA66.ev rfl) hN (by omega) (by omega)) rfl rfl (by decide) fun a67 hA68 => ?_; clear hA66 a65
  refine st hA68 (op_lss rfl (hA68.ev rfl) (hA68.ev rfl)) rfl rfl (by decide) fun a69 hA70 => ?_; clear hA68 a67
  refine wl_nil ?_
  refine then_n ?_
  by_cases hb71 : (k : Int) < (N : Int)
  ·skip
   rw [decide_eq_true hb71] at hA70
   refine c_true hA70 rfl ?_
   refine c_skip ?_
   refine then_n ?_
   refine c_seq ?_
   refine c_block ?_
   refine c_seq ?_
   have hA72 := hA70.as [(7, (Value.int .i64 (k : Int))), (5, v5_), (2, (bptr b4 0)), (1, vu)] rfl; clear hA70
   refine c_region ?_
   refine st hA72 (op_assign rfl (evc _ _)) rfl rfl (by decide) fun a73 hA74 => ?_; clear hA72 a69
   have hS75 := hS58.nil_row 3 1; clear hS58
   refine wl_nil ?_
   refine then_n ?_
   refine c_seq ?_
   refine c_seq ?_
   refine c_region ?_
   refine st hA74 (op_assign rfl (evc _ _)) rfl rfl (by decide) fun a76 hA77 => ?_; clear hA74 a73
   refine wl_nil ?_
   refine then_n ?_
   refine c_block ?_
   have hA78 := hA77.as [(9, (Value.int .i64 0)), (8, (Value.slice none 0 0)), (7, (Value.int .i64 (k : Int))), (5, v5_), (2, (bptr b4 0)), (1, vu)] rfl; clear hA77
   refine c_loop (G := Nat) (fun (j : Nat) a_ w_ => ∃ v8_ : Value, Fr 58 [] [(9, (Value.int .i64 (j : Int))), (8, v8_), (7, (Value.int .i64 (k : Int))), (5, v5_), (2, (bptr b4 0)), (1, vu)] a_ ∧ Sep NoB w w_ [(row v8_ 3 1 ((bitsU k j).length) (ints (bitsU k j))), (row v5_ 3 1 ((bestU (okB (againstF R rs)) rs.length k).length) (ints (bestU (okB (againstF R rs)) rs.length k))), (blk b4 24 [vr]), (sl vr 2 R.length (pairs R)), (runsR false vu lv rs)] ∧ (j ≤ rs.length)) (fun j => rs.length - j) 0 ⟨(Value.slice none 0 0), hA78.as _ rfl, hS75, by omega⟩ ?_
   clear hA78 hS75 a76
   rintro j a79 w81 ⟨v8_, hA80, hS82, hj⟩
   have hbl := bits_len k j
   refine c_seq ?_
   refine c_seq ?_
   refine c_region ?_
   refine st hA80 (op_move rfl (hA80.ev rfl)) rfl rfl (by decide) fun a83 hA84 => ?_; clear hA80 a79
   refine st hA84 (op_move rfl (hA84.ev rfl)) rfl rfl (by decide) fun a85 hA86 => ?_; clear hA84 a83
   refine st hA86 (op_lenS rfl un_25 (hA86.ev rfl) (runs_at (hS82.ok 4 _ rfl)).runs) rfl rfl (by decide) fun a87 hA88 => ?_; clear hA86 a85
   refine st hA88 (op_lss rfl (hA88.ev rfl) (hA88.ev rfl)) rfl rfl (by decide) fun a89 hA90 => ?_; clear hA88 a87
   refine wl_nil ?_
   refine then_n ?_
   by_cases hb91 : (j : Int) < (rs.length : Int)
   ·skip
    rw [decide_eq_true hb91] at hA90
    refine c_true hA90 rfl ?_
    refine c_skip ?_
    refine then_n ?_
    refine c_seq ?_
    refine c_block ?_
    refine c_seq ?_
    refine c_region ?_
    refine st hA90 (op_move rfl (hA90.ev rfl)) rfl rfl (by decide) fun a92 hA93 => ?_; clear hA90 a89
    refine st hA93 (op_move rfl (hA93.ev rfl)) rfl rfl (by decide) fun a94 hA95 => ?_; clear hA93 a92
    refine st hA95 (op_conv un_3 un_126 rfl (hA95.ev rfl) (v := (j : Int)) (wrap_u64 (by omega) (by omega))) rfl rfl (by decide) fun a96 hA97 => ?_; clear hA95 a94
    refine st hA97 (op_shrI rfl (m := k) (hA97.ev rfl) (k := j) (hA97.ev rfl) (by omega)) rfl rfl (by decide) fun a98 hA99 => ?_; clear hA97 a96
    refine st hA99 (op_rem rfl (hA99.ev rfl) (evc _ _) (by omega)) rfl rfl (by decide) fun a100 hA101 => ?_; clear hA99 a98
    refine st hA101 (op_eql rfl (hA101.ev rfl) (evc _ _)) rfl rfl (by decide) fun a102 hA103 => ?_; clear hA101 a100
    refine wl_nil ?_
    refine then_n ?_
    by_cases hb104 : ((((k >>> j : Nat) : Int)).tmod 2) = 1
    ·skip
     rw [decide_eq_true hb104] at hA103
     refine c_true hA103 rfl ?_
     have hA105 := hA103.as [(9, (Value.int .i64 (j : Int))), (8, v8_), (7, (Value.int .i64 (k : Int))), (5, v5_), (2, (bptr b4 0)), (1, vu)] rfl; clear hA103
     refine c_region ?_
     refine st hA105 (op_move rfl (hA105.ev rfl)) rfl rfl (by decide) fun a106 hA107 => ?_; clear hA105 a102
     refine st hA107 (op_move rfl (hA107.ev rfl)) rfl rfl (by decide) fun a108 hA109 => ?_; clear hA107 a106
     refine stw hA109 (op_buildSlice hS82 rfl (pv1 (hA109.ev rfl)) un_40 ty_3 ze_3 (by decide) (cs := [(Value.int .i64 (j : Int))]) (bs_3_1_0i _)) rfl rfl (by decide) ?_
     rintro a110 _ w112 ⟨b113, rfl, hS114⟩ hA111; clear hA109 hS82 a108
     refine stw hA111 (op_append hS114 rfl un_40 el_3 (hA111.ev rfl) (hA111.ev rfl) (i := 1) rfl (SlAt.of_blk (hS114.bk 0 rfl) rfl (Nat.le_of_ble_eq_true rfl)) rfl (by simp only [maxLen]; omega) (by omega)) rfl rfl (by decide) ?_
     intro a115 v118 w117 hS119 hA116
     have hS120 := hS119.row_say (i := 1) rfl (n' := ((bitsU k j) ++ [(j : Int)]).length) (xs' := (ints ((bitsU k j) ++ [(j : Int)]))) (by simp) (by simp [ints]); clear hS119 hA111 hS114 a110
     refine st hA116 (op_assign rfl (hA116.ev rfl)) rfl rfl (by decide) fun a121 hA122 => ?_; clear hA116 a115
     refine wl_nil ?_
     refine blk_n ?_
     refine then_n ?_
     refine c_region ?_
     refine st hA122 (op_move rfl (hA122.ev rfl)) rfl rfl (by decide) fun a123 hA124 => ?_; clear hA122 a121
     refine st hA124 (op_add rfl (hA124.ev rfl) (evc _ _) (by omega) (by omega)) rfl rfl (by decide) fun a125 hA126 => ?_; clear hA124 a123
     refine st hA126 (op_assign rfl (hA126.ev rfl)) rfl rfl (by decide) fun a127 hA128 => ?_; clear hA126 a125
     refine wl_nil ?_
     have hS129 : Sep NoB w w117 [(row v118 3 1 (((bitsU k j) ++ [(j : Int)]).length) (ints ((bitsU k j) ++ [(j : Int)]))), (row v5_ 3 1 ((bestU (okB (againstF R rs)) rs.length k).length) (ints (bestU (okB (againstF R rs)) rs.length k))), (blk b4 24 [vr]), (sl vr 2 R.length (pairs R)), (runsR false vu lv rs)] := hS120.keep [1, 2, 3, 4, 5] (by decide) _ rfl rfl; clear hS120
     exact then_n ⟨j + 1, ⟨v118, hA128.as _ rfl, (hS129.row_say (i := 0) rfl (n' := ((bitsU k (j + 1))).length) (xs' := ints (bitsU k (j + 1))) (by rw [bits_y (by assumption)]) (by rw [bits_y (by assumption)])), by omega⟩, by omega⟩
    ·skip
     rw [decide_eq_false hb104] at hA103
     refine c_false hA103 rfl ?_
     refine c_skip ?_
     refine blk_n ?_
     refine then_n ?_
     have hA130 := hA103.as [(9, (Value.int .i64 (j : Int))), (8, v8_), (7, (Value.int .i64 (k : Int))), (5, v5_), (2, (bptr b4 0)), (1, vu)] rfl; clear hA103
     refine c_region ?_
     refine st hA130 (op_move rfl (hA130.ev rfl)) rfl rfl (by decide) fun a131 hA132 => ?_; clear hA130 a102
     refine st hA132 (op_add rfl (hA132.ev rfl) (evc _ _) (by omega) (by omega)) rfl rfl (by decide) fun a133 hA134 => ?_; clear hA132 a131
     refine st hA134 (op_assign rfl (hA134.ev rfl)) rfl rfl (by decide) fun a135 hA136 => ?_; clear hA134 a133
     refine wl_nil ?_
     exact then_n ⟨j + 1, ⟨v8_, hA136.as _ rfl, (hS82.row_say (i := 0) rfl (n' := ((bitsU k (j + 1))).length) (xs' := ints (bitsU k (j + 1))) (by rw [bits_n (by assumption)]) (by rw [bits_n (by assumption)])), by omega⟩, by omega⟩
   ·skip
    rw [decide_eq_false hb91] at hA90
    refine c_false hA90 rfl ?_
    refine c_exit ?_
    refine then_exit ?_
    refine then_exit ?_
    refine blk_hit ?_
    refine then_n ?_
    refine c_seq ?_
    have hS137 := (hS82.row_say (i := 0) rfl (n' := ((bitsU k rs.length)).length) (xs' := ints (bitsU k rs.length)) (by rw [show j = rs.length by omega]) (by rw [show j = rs.length by omega])); have hbl8 := bits_len k rs.length; clear hS82
    have hA138 := hA90.as [(8, v8_), (7, (Value.int .i64 (k : Int))), (5, v5_), (2, (bptr b4 0)), (1, vu)] rfl; clear hA90
    rcases Bool.eq_false_or_eq_true ((lessB (bitsU k rs.length) (bestU (okB (againstF R rs)) rs.length k))) with hb140 | hb140
    ·skip
     have hA141 := hA138.as [(8, v8_), (7, (Value.int .i64 (k : Int))), (5, v5_), (2, (bptr b4 0)), (1, vu)] rfl; clear hA138
     refine c_drawV mixed hA141 hS137 8 [[], [], [0, 1], [2], [3], [3], [3], [3, 5, 6]] [(fun (vs142 : Nat → Value) (v_ : Value) (rs_ : List Res) => v_ = v8_ ∧ rs_ = []), (fun (vs142 : Nat → Value) (v_ : Value) (rs_ : List Res) => v_ = v5_ ∧ rs_ = []), (fun (vs142 : Nat → Value) (v_ : Value) (rs_ : List Res) => v_ = (Value.bool true) ∧ rs_ = []), (fun (vs142 : Nat → Value) (v_ : Value) (rs_ : List Res) => v_ = (Value.bool true) ∧ rs_ = []), (fun (vs142 : Nat → Value) (v_ : Value) (rs_ : List Res) => v_ = (Value.agg #[vr]) ∧ rs_ = []), (fun (vs142 : Nat → Value) (v_ : Value) (rs_ : List Res) => v_ = vu ∧ rs_ = []), (fun (vs142 : Nat → Value) (v_ : Value) (rs_ : List Res) => v_ = v8_ ∧ rs_ = []), (fun (vs142 : Nat → Value) (v_ : Value) (rs_ : List Res) => True ∧ rs_ = [(row v_ 54 3 ((woF rs (bitsU k rs.length)).length) (vtrips (runV (woV lv rs.length (bitsU k rs.length)) (woF rs (bitsU k rs.length)))))])] (by decide +kernel) (by decide +kernel) rfl rfl ⟨(fun _ _ _ _ _ h_ => h_), (fun _ _ _ _ _ h_ => h_), (fun _ _ _ _ _ h_ => h_), (fun _ _ _ _ _ h_ => h_), (fun _ _ _ _ _ h_ => h_), (fun _ _ _ _ _ h_ => h_), (fun _ _ _ _ _ h_ => h_), (fun _ _ _ _ _ h_ => h_), trivial⟩ ?_ ?_
     ·skip
      refine ⟨fun a w vs142 hA hS hd => ?_, ?_⟩
      ·skip
       exact opG_of rfl (vv (op_move rfl (hA.ev rfl)) (And.intro rfl rfl))
      refine ⟨fun a w vs142 hA hS hd => ?_, ?_⟩
      ·skip
       exact opG_of rfl (vv (op_move rfl (hA.ev rfl)) (And.intro rfl rfl))
      refine ⟨fun a w vs142 hA hS hd => ?_, ?_⟩
      ·skip
       obtain ⟨e0, rs0, hy0, hp0⟩ := hd 0 (by decide)
       obtain ⟨hv0, hr0⟩ := hy0; subst hr0
       rw [hv0] at e0
       obtain ⟨e1, rs1, hy1, hp1⟩ := hd 1 (by decide)
       obtain ⟨hv1, hr1⟩ := hy1; subst hr1
       rw [hv1] at e1
       exact opG_of rfl (vx (op_call rfl en_77 (ev2 (tmp_ev (slot_ev e0 rfl)) (tmp_ev (slot_ev e1 rfl))) (less_ok _ (bitsU k rs.length) _ (SlAt.of_row (hS.ok_row 0 rfl)) (bestU (okB (againstF R rs)) rs.length k) _ (SlAt.of_row (hS.ok_row 1 rfl)) (by omega))) (And.intro (by show Value.bool _ = _; simp only [hb140, decide_true, decide_false, Bool.not_true, Bool.not_false]) rfl))
      refine ⟨fun a w vs142 hA hS hd => ?_, ?_⟩
      ·skip
       obtain ⟨e2, rs2, hy2, hp2⟩ := hd 2 (by decide)
       obtain ⟨hv2, hr2⟩ := hy2; subst hr2
       rw [hv2] at e2
       exact opG_of rfl (vv (op_move rfl (tmp_ev (slot_ev e2 rfl))) (And.intro rfl rfl))
      refine ⟨fun a w vs142 hA hS hd => ?_, ?_⟩
      ·skip
       obtain ⟨e3, rs3, hy3, hp3⟩ := hd 3 (by decide)
       obtain ⟨hv3, hr3⟩ := hy3; subst hr3
       rw [hv3] at e3
       exact opG_yes rfl rfl (slot_ev e3 rfl) (vv (op_loadA rfl ty_24 (hA.ev rfl) (hS.bk 2 rfl) (l := [vr]) rfl rfl) (And.intro rfl rfl))
      refine ⟨fun a w vs142 hA hS hd => ?_, ?_⟩
      ·skip
       obtain ⟨e3, rs3, hy3, hp3⟩ := hd 3 (by decide)
       obtain ⟨hv3, hr3⟩ := hy3; subst hr3
       rw [hv3] at e3
       exact opG_yes rfl rfl (slot_ev e3 rfl) (vv (op_move rfl (hA.ev rfl)) (And.intro rfl rfl))
      refine ⟨fun a w vs142 hA hS hd => ?_, ?_⟩
      ·skip
       obtain ⟨e3, rs3, hy3, hp3⟩ := hd 3 (by decide)
       obtain ⟨hv3, hr3⟩ := hy3; subst hr3
       rw [hv3] at e3
       exact opG_yes rfl rfl (slot_ev e3 rfl) (vv (op_move rfl (hA.ev rfl)) (And.intro rfl rfl))
      refine ⟨fun a w vs142 hA hS hd => ?_, ?_⟩
      ·skip
       obtain ⟨e3, rs3, hy3, hp3⟩ := hd 3 (by decide)
       obtain ⟨hv3, hr3⟩ := hy3; subst hr3
       rw [hv3] at e3
       obtain ⟨e5, rs5, hy5, hp5⟩ := hd 5 (by decide)
       obtain ⟨hv5, hr5⟩ := hy5; subst hr5
       rw [hv5] at e5
       obtain ⟨e6, rs6, hy6, hp6⟩ := hd 6 (by decide)
       obtain ⟨hv6, hr6⟩ := hy6; subst hr6
       rw [hv6] at e6
       exact opG_yes rfl rfl (slot_ev e3 rfl) (vn (op_call rfl en_46 (ev2 (tmp_ev (slot_ev e5 rfl)) (tmp_ev (slot_ev e6 rfl))) (Without_ok _ rs _ _ (runs_at (hS.ok 4 _ rfl)) (bitsU k rs.length) _ (SlAt.of_row (hS.ok_row 0 rfl)) (by omega) (by omega))) (fun v w' h => ⟨_, And.intro trivial rfl, (Sep.start NoB _).new_row h.1 h.2, rfl⟩))
      trivial
     intro a143 w144 vs142 rsf148 hA145 hH147 hS146; clear hA141 hS137
     obtain ⟨hs_0, hy_0⟩ := hH147 0 (by decide)
     obtain ⟨hv_0, hr_0⟩ := hy_0
     obtain ⟨hs_1, hy_1⟩ := hH147 1 (by decide)
     obtain ⟨hv_1, hr_1⟩ := hy_1
     obtain ⟨hs_2, hy_2⟩ := hH147 2 (by decide)
     obtain ⟨hv_2, hr_2⟩ := hy_2
     obtain ⟨hs_3, hy_3⟩ := hH147 3 (by decide)
     obtain ⟨hv_3, hr_3⟩ := hy_3
     obtain ⟨hs_4, hy_4⟩ := hH147 4 (by decide)
     obtain ⟨hv_4, hr_4⟩ := hy_4
     obtain ⟨hs_5, hy_5⟩ := hH147 5 (by decide)
     obtain ⟨hv_5, hr_5⟩ := hy_5
     obtain ⟨hs_6, hy_6⟩ := hH147 6 (by decide)
     obtain ⟨hv_6, hr_6⟩ := hy_6
     obtain ⟨hs_7, hy_7⟩ := hH147 7 (by decide)
     obtain ⟨hv_7, hr_7⟩ := hy_7
     have hS149 : Sep NoB w w144 [(row (vs142 7) 54 3 ((woF rs (bitsU k rs.length)).length) (vtrips (runV (woV lv rs.length (bitsU k rs.length)) (woF rs (bitsU k rs.length))))), (row v8_ 3 1 ((bitsU k rs.length).length) (ints (bitsU k rs.length))), (row v5_ 3 1 ((bestU (okB (againstF R rs)) rs.length k).length) (ints (bestU (okB (againstF R rs)) rs.length k))), (blk b4 24 [vr]), (sl vr 2 R.length (pairs R)), (runsR false vu lv rs)] := by rw [show catR rsf148 0 8 = ([(row (vs142 7) 54 3 ((woF rs (bitsU k rs.length)).length) (vtrips (runV (woV lv rs.length (bitsU k rs.length)) (woF rs (bitsU k rs.length)))))] : List Res) by (try simp only [catR, hr_0, hr_1, hr_2, hr_3, hr_4, hr_5, hr_6, hr_7]); (try rfl)] at hS146; exact hS146
     rw [hv_3] at hs_3
     have hA150 : Fr 58 [] [(47, (Value.bool true)), (8, v8_), (7, (Value.int .i64 (k : Int))), (5, v5_), (2, (bptr b4 0)), (1, vu)] a143 := hA145.add (slot_ev hs_3 rfl); clear hA145
     rw [hv_4] at hs_4
     have hA151 : Fr 58 [] [(48, (Value.agg #[vr])), (47, (Value.bool true)), (8, v8_), (7, (Value.int .i64 (k : Int))), (5, v5_), (2, (bptr b4 0)), (1, vu)] a143 := hA150.add (slot_ev hs_4 rfl); clear hA150
     have hA152 : Fr 58 [] [(51, (vs142 7)), (48, (Value.agg #[vr])), (47, (Value.bool true)), (8, v8_), (7, (Value.int .i64 (k : Int))), (5, v5_), (2, (bptr b4 0)), (1, vu)] a143 := hA151.add (slot_ev hs_7 rfl); clear hA151
     clear hH147 hS146 hs_0 hs_1 hs_2 hs_3 hs_4 hs_5 hs_6 hs_7
     clear hr_0
     clear hv_0
     clear hr_1
     clear hv_1
     clear hr_2
     clear hv_2
     clear hr_3
     clear hv_3
     clear hr_4
     clear hv_4
     clear hr_5
     clear hv_5
     clear hr_6
     clear hv_6
     clear hr_7
     clear hv_7
     refine stwg hA152 (op_call rfl en_22 (ev2 (hA152.ev rfl) (hA152.ev rfl)) (rAllowed_ok _ R _ (hS149.sk 4 rfl) (woF rs (bitsU k rs.length)) _ _ (runsAt_sel (sel := woSel (bitsU k rs.length) rs.length) (SlAt.of_row (hS149.ok_row 0 rfl)) (runs_at (hS149.ok 5 _ rfl)) (fun _ h => woSel_lt h)) hR hR1 (wo_runs hV))) rfl rfl rfl rfl (by decide) ?_
     rintro a153 v156 w155 ⟨ov157, hT158⟩ hA154; have hS159 : Sep NoB w w155 [(row v156 40 1 ov157.length ov157), (lstR ov157 (rallowF R (woF rs (bitsU k rs.length)))), (row (vs142 7) 54 3 ((woF rs (bitsU k rs.length)).length) (vtrips (runV (woV lv rs.length (bitsU k rs.length)) (woF rs (bitsU k rs.length))))), (row v8_ 3 1 ((bitsU k rs.length).length) (ints (bitsU k rs.length))), (row v5_ 3 1 ((bestU (okB (againstF R rs)) rs.length k).length) (ints (bestU (okB (againstF R rs)) rs.length k))), (blk b4 24 [vr]), (sl vr 2 R.length (pairs R)), (runsR false vu lv rs)] := hS149.callS hT158 rfl; clear hT158 hA152 hS149 a143
     have hol_ral : ov157.length = (rallowF R (woF rs (bitsU k rs.length))).length := hS159.lst_len 1 rfl
     refine stg hA154 (op_lenS rfl un_38 (hA154.ev rfl) (SlAt.of_row (hS159.ok_row 0 rfl))) rfl rfl rfl rfl (by decide) fun a160 hA161 => ?_; clear hA154 a153
     refine stg hA161 (op_gtr rfl (hA161.ev rfl) (evc _ _)) rfl rfl rfl rfl (by decide) fun a162 hA163 => ?_; clear hA161 a160
     refine st hA163 (op_pick_t rfl (hA163.ev rfl) (hA163.ev rfl)) rfl rfl (by decide) fun a164 hA165 => ?_; clear hA163 a162
     refine wl_nil ?_
     refine then_n ?_
     by_cases hb166 : 0 < (ov157.length : Int)
     ·skip
      rw [decide_eq_true hb166] at hA165
      refine c_true hA165 rfl ?_
      have hA167 := hA165.as [(8, v8_), (7, (Value.int .i64 (k : Int))), (2, (bptr b4 0)), (1, vu)] rfl; clear hA165
      refine c_region ?_
      refine st hA167 (op_move rfl (hA167.ev rfl)) rfl rfl (by decide) fun a168 hA169 => ?_; clear hA167 a164
      refine st hA169 (op_assign rfl (hA169.ev rfl)) rfl rfl (by decide) fun a170 hA171 => ?_; clear hA169 a168
      refine wl_nil ?_
      refine blk_n ?_
      refine then_n ?_
      refine c_region ?_
      refine st hA171 (op_move rfl (hA171.ev rfl)) rfl rfl (by decide) fun a172 hA173 => ?_; clear hA171 a170
      refine st hA173 (op_add rfl (hA173.ev rfl) (evc _ _) (by omega) (by omega)) rfl rfl (by decide) fun a174 hA175 => ?_; clear hA173 a172
      refine st hA175 (op_assign rfl (hA175.ev rfl)) rfl rfl (by decide) fun a176 hA177 => ?_; clear hA175 a174
      refine wl_nil ?_
      have hS178 : Sep NoB w w155 [(row v8_ 3 1 ((bitsU k rs.length).length) (ints (bitsU k rs.length))), (blk b4 24 [vr]), (sl vr 2 R.length (pairs R)), (runsR false vu lv rs)] := hS159.keep [3, 5, 6, 7] (by decide) _ rfl rfl; clear hS159
      exact then_n ⟨k + 1, ⟨v8_, hA177.as _ rfl, (hS178.row_say (i := 0) rfl (n' := ((bestU (okB (againstF R rs)) rs.length (k + 1))).length) (xs' := ints (bestU (okB (againstF R rs)) rs.length (k + 1))) (by rw [bits_p (by assumption) (wo_pos.1 (by rw [← rallow_len hR (wo_runs hV)]; omega))]) (by rw [bits_p (by assumption) (wo_pos.1 (by rw [← rallow_len hR (wo_runs hV)]; omega))])), by omega⟩, by omega⟩
     ·skip
      rw [decide_eq_false hb166] at hA165
      refine c_false hA165 rfl ?_
      refine c_skip ?_
      refine blk_n ?_
      refine then_n ?_
      have hA179 := hA165.as [(7, (Value.int .i64 (k : Int))), (5, v5_), (2, (bptr b4 0)), (1, vu)] rfl; clear hA165
      refine c_region ?_
      refine st hA179 (op_move rfl (hA179.ev rfl)) rfl rfl (by decide) fun a180 hA181 => ?_; clear hA179 a164
      refine st hA181 (op_add rfl (hA181.ev rfl) (evc _ _) (by omega) (by omega)) rfl rfl (by decide) fun a182 hA183 => ?_; clear hA181 a180
      refine st hA183 (op_assign rfl (hA183.ev rfl)) rfl rfl (by decide) fun a184 hA185 => ?_; clear hA183 a182
      refine wl_nil ?_
      have hS186 : Sep NoB w w155 [(row v5_ 3 1 ((bestU (okB (againstF R rs)) rs.length k).length) (ints (bestU (okB (againstF R rs)) rs.length k))), (blk b4 24 [vr]), (sl vr 2 R.length (pairs R)), (runsR false vu lv rs)] := hS159.keep [4, 5, 6, 7] (by decide) _ rfl rfl; clear hS159
      exact then_n ⟨k + 1, ⟨v5_, hA185.as _ rfl, (hS186.row_say (i := 0) rfl (n' := ((bestU (okB (againstF R rs)) rs.length (k + 1))).length) (xs' := ints (bestU (okB (againstF R rs)) rs.length (k + 1))) (by first | (rw [bits_m (by assumption)]; done) | (rw [bits_q (fun h_ => by have hz_ := (wo_pos (R := R)).2 h_; rw [← rallow_len hR (wo_runs hV)] at hz_; omega)]; done)) (by first | (rw [bits_m (by assumption)]; done) | (rw [bits_q (fun h_ => by have hz_ := (wo_pos (R := R)).2 h_; rw [← rallow_len hR (wo_runs hV)] at hz_; omega)]; done))), by omega⟩, by omega⟩
    ·skip
     have hA187 := hA138.as [(8, v8_), (7, (Value.int .i64 (k : Int))), (5, v5_), (2, (bptr b4 0)), (1, vu)] rfl; clear hA138
     refine c_drawn mixed hA187 hS137 8 [[], [], [0, 1], [2], [3], [3], [3], [3, 5, 6]] [(Yd.val v8_), (Yd.val v5_), (Yd.val (Value.bool false)), (Yd.val (Value.bool false)), (Yd.val undef), (Yd.val undef), (Yd.val undef), (Yd.val undef)] (by decide +kernel) rfl rfl ?_ ?_
     ·skip
      refine ⟨fun a w hA hS hd => by exact opG_of rfl (dv (op_move rfl (hA.ev rfl)) hS rfl), ?_⟩
      refine ⟨fun a w hA hS hd => by exact opG_of rfl (dv (op_move rfl (hA.ev rfl)) hS rfl), ?_⟩
      refine ⟨fun a w hA hS hd => by have e0 := has_ev (hd 0 (by decide)) rfl (fun _ h => h); have e1 := has_ev (hd 1 (by decide)) rfl (fun _ h => h); exact opG_of rfl (dx (op_call rfl en_77 (ev2 (tmp_ev e0) (tmp_ev e1)) (less_ok _ (bitsU k rs.length) _ (SlAt.of_row (hS.ok_row 0 rfl)) (bestU (okB (againstF R rs)) rs.length k) _ (SlAt.of_row (hS.ok_row 1 rfl)) (by omega))) hS (fun _ => (by show Value.bool _ = _; simp only [hb140, decide_true, decide_false, Bool.not_true, Bool.not_false]))), ?_⟩
      refine ⟨fun a w hA hS hd => by have e2 := has_ev (hd 2 (by decide)) rfl (fun _ h => h); exact opG_of rfl (dv (op_move rfl (tmp_ev e2)) hS rfl), ?_⟩
      refine ⟨fun a w hA hS hd => by have e3 := has_ev (hd 3 (by decide)) rfl (fun _ h => h); exact opG_no rfl rfl e3 rfl (dskip hS rfl), ?_⟩
      refine ⟨fun a w hA hS hd => by have e3 := has_ev (hd 3 (by decide)) rfl (fun _ h => h); exact opG_no rfl rfl e3 rfl (dskip hS rfl), ?_⟩
      refine ⟨fun a w hA hS hd => by have e3 := has_ev (hd 3 (by decide)) rfl (fun _ h => h); exact opG_no rfl rfl e3 rfl (dskip hS rfl), ?_⟩
      refine ⟨fun a w hA hS hd => by have e3 := has_ev (hd 3 (by decide)) rfl (fun _ h => h); have e5 := has_ev (hd 5 (by decide)) rfl (fun _ h => h); have e6 := has_ev (hd 6 (by decide)) rfl (fun _ h => h); exact opG_no rfl rfl e3 rfl (dskip hS rfl), ?_⟩
      trivial
     intro a189 w190 hA191 hS192 hH193; clear hA187 hS137
     have hA194 := hA191.add (has_ev (hH193 3 (by decide)) rfl (fun _ h => h)); clear hA191
     have hA195 := hA194.add (has_ev (hH193 4 (by decide)) rfl (fun _ h => h)); clear hA194
     have hA196 := hA195.add (has_ev (hH193 7 (by decide)) rfl (fun _ h => h)); clear hA195
     clear hH193
     refine skp hA196 rfl rfl rfl rfl rfl (by decide) fun a197 hA198 => ?_; clear hA196 a189
     refine skp hA198 rfl rfl rfl rfl rfl (by decide) fun a199 hA200 => ?_; clear hA198 a197
     refine skp hA200 rfl rfl rfl rfl rfl (by decide) fun a201 hA202 => ?_; clear hA200 a199
     refine st hA202 (op_pick_f rfl (hA202.ev rfl) (evc _ _)) rfl rfl (by decide) fun a203 hA204 => ?_; clear hA202 a201
     refine wl_nil ?_
     refine then_n ?_
     refine c_false hA204 rfl ?_
     refine c_skip ?_
     refine blk_n ?_
     refine then_n ?_
     have hA205 := hA204.as [(7, (Value.int .i64 (k : Int))), (5, v5_), (2, (bptr b4 0)), (1, vu)] rfl; clear hA204
     refine c_region ?_
     refine st hA205 (op_move rfl (hA205.ev rfl)) rfl rfl (by decide) fun a206 hA207 => ?_; clear hA205 a203
     refine st hA207 (op_add rfl (hA207.ev rfl) (evc _ _) (by omega) (by omega)) rfl rfl (by decide) fun a208 hA209 => ?_; clear hA207 a206
     refine st hA209 (op_assign rfl (hA209.ev rfl)) rfl rfl (by decide) fun a210 hA211 => ?_; clear hA209 a208
     refine wl_nil ?_
     have hS212 : Sep NoB w w190 [(row v5_ 3 1 ((bestU (okB (againstF R rs)) rs.length k).length) (ints (bestU (okB (againstF R rs)) rs.length k))), (blk b4 24 [vr]), (sl vr 2 R.length (pairs R)), (runsR false vu lv rs)] := hS192.keep [1, 2, 3, 4] (by decide) _ rfl rfl; clear hS192
     exact then_n ⟨k + 1, ⟨v5_, hA211.as _ rfl, (hS212.row_say (i := 0) rfl (n' := ((bestU (okB (againstF R rs)) rs.length (k + 1))).length) (xs' := ints (bestU (okB (againstF R rs)) rs.length (k + 1))) (by first | (rw [bits_m (by assumption)]; done) | (rw [bits_q (fun h_ => by have hz_ := (wo_pos (R := R)).2 h_; rw [← rallow_len hR (wo_runs hV)] at hz_; omega)]; done)) (by first | (rw [bits_m (by assumption)]; done) | (rw [bits_q (fun h_ => by have hz_ := (wo_pos (R := R)).2 h_; rw [← rallow_len hR (wo_runs hV)] at hz_; omega)]; done))), by omega⟩, by omega⟩
  ·skip
   rw [decide_eq_false hb71] at hA70
   refine c_false hA70 rfl ?_
   refine c_exit ?_
   refine then_exit ?_
   refine then_exit ?_
   refine blk_hit ?_
   refine then_n ?_
   refine c_seq ?_
   have hA213 := hA70.as [(5, v5_)] rfl; clear hA70
   refine c_region ?_
   refine st hA213 (op_move rfl (hA213.ev rfl)) rfl rfl (by decide) fun a214 hA215 => ?_; clear hA213 a69
   refine st hA215 (op_assign rfl (hA215.ev rfl)) rfl rfl (by decide) fun a216 hA217 => ?_; clear hA215 a214
   refine wl_nil ?_
   refine then_n ?_
   refine c_ret ?_
   refine fin_run hA217 (.inl rfl) (run_results1 hA217 rfl (.tmp rfl)) ?_
   have e_ : (bestU (okB (againstF R rs)) rs.length k) = (doubtF R rs) := by rw [show k = 2 ^ rs.length by omega]; exact best_doubt hpos h6
   have hz := (hS58.row_say (i := 0) rfl (n' := ((doubtF R rs)).length) (xs' := ints (doubtF R rs)) (by rw [e_]) (by rw [e_]))
   exact ⟨hz.ext, hz.row_new (i := 0) rfl⟩
end Go.Proofs.Ytkkglkdnnfegkaa
