/-
  Walks through the functions of the seat, printed by a program of ours (gowalk), a theorem a function: what the call returns and what it leaves in memory.
-/
import Derived.Test.YtkkglkdnnfegkaaBc
import Derived.Test.YtkkglkdnnfegkaaEnga
set_option linter.unusedSimpArgs false
set_option linter.unusedVariables false
namespace Go.Proofs.Ytkkglkdnnfegkaa
open Go.RowKit Go.Shelf Go.Eng
theorem index_ok (xs : List Int) (x : Int) (v : Value) (w : World) (hv : SlAt w v 1 xs.length (ints xs)) (hlen : xs.length ≤ 1000000) :
  Calls Try.prog 95 #[v, (Value.int .i64 x)] w (Ret fun v w' => v = .int .i64 (fidx (fun i => decide (x = xs.getD i 0)) xs.length) ∧ Ext NoB w w') := by
 refine calls_enter Try.func95 rfl fun a0 hA0 => ?_
 replace hA0 : Fr 19 [] [(0, v), (1, (Value.int .i64 x))] a0 := hA0
 have hS0 : Sep NoB w w [(sl v 1 xs.length (ints xs))] := sep_ro ⟨rfl, hv, trivial⟩
 refine c_seq ?_
 refine c_region ?_
 refine st hA0 (op_assign rfl (evc _ _)) rfl rfl (by decide) fun a1 hA2 => ?_; clear hA0 a0
 refine wl_nil ?_
 refine then_n ?_
 refine c_seq ?_
 refine c_seq ?_
 refine c_region ?_
 refine st hA2 (op_move rfl (hA2.ev rfl)) rfl rfl (by decide) fun a3 hA4 => ?_; clear hA2 a1
 refine st hA4 (op_lenS rfl un_40 (hA4.ev rfl) (hS0.sk 0 rfl)) rfl rfl (by decide) fun a5 hA6 => ?_; clear hA4 a3
 refine st hA6 (op_move rfl (evc _ _)) rfl rfl (by decide) fun a7 hA8 => ?_; clear hA6 a5
 refine wl_nil ?_
 refine then_n ?_
 refine c_block ?_
 have hA9 := hA8.as [(8, (Value.int .i64 0)), (7, (Value.int .i64 (xs.length : Int))), (0, v), (1, (Value.int .i64 x))] rfl; clear hA8
 refine c_loop (G := Nat) (fun (k : Nat) a_ w_ => Fr 19 [] [(8, (Value.int .i64 (k : Int))), (7, (Value.int .i64 (xs.length : Int))), (0, v), (1, (Value.int .i64 x))] a_ ∧ Sep NoB w w_ [(sl v 1 xs.length (ints xs))] ∧ (k ≤ xs.length) ∧ (∀ i, i < k → decide (x = xs.getD i 0) = false)) (fun k => xs.length - k) 0 ⟨hA9.as _ rfl, hS0, by omega, by omega⟩ ?_
 clear hA9 hS0 a7
 rintro k a10 w12 ⟨hA11, hS13, hk, hn⟩
 refine c_seq ?_
 refine c_region ?_
 refine st hA11 (op_lss rfl (hA11.ev rfl) (hA11.ev rfl)) rfl rfl (by decide) fun a14 hA15 => ?_; clear hA11 a10
 refine wl_nil ?_
 refine then_n ?_
 refine c_seq ?_
 by_cases hb16 : (k : Int) < (xs.length : Int)
 ·skip
  rw [decide_eq_true hb16] at hA15
  refine c_true hA15 rfl ?_
  refine c_skip ?_
  refine then_n ?_
  refine c_seq ?_
  refine c_block ?_
  refine c_seq ?_
  refine c_region ?_
  refine st hA15 (op_move rfl (hA15.ev rfl)) rfl rfl (by decide) fun a17 hA18 => ?_; clear hA15 a14
  refine st hA18 (op_assign rfl (hA18.ev rfl)) rfl rfl (by decide) fun a19 hA20 => ?_; clear hA18 a17
  refine wl_nil ?_
  refine then_n ?_
  refine c_seq ?_
  refine c_region ?_
  refine st hA20 (op_move rfl (hA20.ev rfl)) rfl rfl (by decide) fun a21 hA22 => ?_; clear hA20 a19
  refine st hA22 (op_move rfl (hA22.ev rfl)) rfl rfl (by decide) fun a23 hA24 => ?_; clear hA22 a21
  refine st hA24 (op_move rfl (hA24.ev rfl)) rfl rfl (by decide) fun a25 hA26 => ?_; clear hA24 a23
  refine st hA26 (op_indexS rfl un_40 ty_3 (hA26.ev rfl) (i := k) (hA26.ev rfl) (hS13.sk 0 rfl) (by decide) (by omega)) rfl rfl (by decide) fun a27 hA28 => ?_; clear hA26 a25
  refine st hA28 (op_load1E rfl ty_3 (hA28.ev rfl) (hS13.sk 0 rfl) (ints_at (by omega))) rfl rfl (by decide) fun a29 hA30 => ?_; clear hA28 a27
  refine st hA30 (op_eql rfl (hA30.ev rfl) (hA30.ev rfl)) rfl rfl (by decide) fun a31 hA32 => ?_; clear hA30 a29
  refine wl_nil ?_
  refine then_n ?_
  by_cases hb33 : x = (xs.getD k 0)
  ·skip
   rw [decide_eq_true hb33] at hA32
   refine c_true hA32 rfl ?_
   refine c_seq ?_
   have hA34 := hA32.as [(5, (Value.int .i64 (k : Int)))] rfl; clear hA32
   refine c_region ?_
   refine st hA34 (op_move rfl (hA34.ev rfl)) rfl rfl (by decide) fun a35 hA36 => ?_; clear hA34 a31
   refine st hA36 (op_assign rfl (hA36.ev rfl)) rfl rfl (by decide) fun a37 hA38 => ?_; clear hA36 a35
   refine wl_nil ?_
   refine then_n ?_
   refine c_ret ?_
   refine blk_ret ?_
   refine then_ret ?_
   refine then_ret ?_
   refine blk_ret ?_
   refine then_ret ?_
   refine fin_run hA38 (.inl rfl) (run_results1 hA38 rfl (.tmp rfl)) ?_
   exact ⟨by first | rw [fidx_hit (by omega) hn (decide_eq_true (by assumption))] | rw [fidx_miss (fun i hi => hn i (by omega))], hS13.ext⟩
  ·skip
   rw [decide_eq_false hb33] at hA32
   refine c_false hA32 rfl ?_
   refine c_skip ?_
   refine blk_n ?_
   refine then_n ?_
   have hA39 := hA32.as [(8, (Value.int .i64 (k : Int))), (7, (Value.int .i64 (xs.length : Int))), (0, v), (1, (Value.int .i64 x))] rfl; clear hA32
   refine c_region ?_
   refine st hA39 (op_add rfl (hA39.ev rfl) (evc _ _) (by omega) (by omega)) rfl rfl (by decide) fun a40 hA41 => ?_; clear hA39 a31
   refine st hA41 (op_move rfl (hA41.ev rfl)) rfl rfl (by decide) fun a42 hA43 => ?_; clear hA41 a40
   refine wl_nil ?_
   exact then_n ⟨k + 1, ⟨hA43.as _ rfl, hS13, by omega, (fun i hi => by rcases Nat.lt_succ_iff_lt_or_eq.1 hi with h | h; exact hn i h; subst h; exact decide_eq_false (by assumption))⟩, by omega⟩
 ·skip
  rw [decide_eq_false hb16] at hA15
  refine c_false hA15 rfl ?_
  refine c_exit ?_
  refine then_exit ?_
  refine then_exit ?_
  refine blk_hit ?_
  refine then_n ?_
  refine c_seq ?_
  refine c_region ?_
  refine st hA15 (op_assign rfl (evc _ _)) rfl rfl (by decide) fun a44 hA45 => ?_; clear hA15 a14
  refine wl_nil ?_
  refine then_n ?_
  refine c_ret ?_
  refine fin_run hA45 (.inl rfl) (run_results1 hA45 rfl (.tmp rfl)) ?_
  exact ⟨by first | rw [fidx_hit (by omega) hn (decide_eq_true (by assumption))] | rw [fidx_miss (fun i hi => hn i (by omega))], hS13.ext⟩
theorem contains_ok (xs : List Int) (x : Int) (v : Value) (w : World) (hv : SlAt w v 1 xs.length (ints xs)) (hlen : xs.length ≤ 1000000) :
  Calls Try.prog 76 #[v, (Value.int .i64 x)] w (Ret fun v w' => v = .bool (hasB xs x) ∧ Ext NoB w w') := by
 refine calls_enter Try.func76 rfl fun a0 hA0 => ?_
 replace hA0 : Fr 9 [] [(0, v), (1, (Value.int .i64 x))] a0 := hA0
 have hS0 : Sep NoB w w [(sl v 1 xs.length (ints xs))] := sep_ro ⟨rfl, hv, trivial⟩
 refine c_seq ?_
 refine c_region ?_
 refine st hA0 (op_assign rfl (evc _ _)) rfl rfl (by decide) fun a1 hA2 => ?_; clear hA0 a0
 refine wl_nil ?_
 refine then_n ?_
 refine c_seq ?_
 refine c_region ?_
 refine st hA2 (op_move rfl (hA2.ev rfl)) rfl rfl (by decide) fun a3 hA4 => ?_; clear hA2 a1
 refine st hA4 (op_move rfl (hA4.ev rfl)) rfl rfl (by decide) fun a5 hA6 => ?_; clear hA4 a3
 refine stw hA6 (op_call rfl en_95 (ev2 (hA6.ev rfl) (hA6.ev rfl)) (index_ok xs x _ _ (hS0.sk 0 rfl) hlen)) rfl rfl (by decide) ?_
 rintro a7 _ w9 ⟨rfl, hE10⟩ hA8; have hS11 := hS0.step hE10; clear hE10 hA6 hS0 a5
 refine st hA8 (op_geq rfl (hA8.ev rfl) (evc _ _)) rfl rfl (by decide) fun a12 hA13 => ?_; clear hA8 a7
 refine st hA13 (op_assign rfl (hA13.ev rfl)) rfl rfl (by decide) fun a14 hA15 => ?_; clear hA13 a12
 refine wl_nil ?_
 refine then_n ?_
 refine c_ret ?_
 refine fin_run hA15 (.inl rfl) (run_results1 hA15 rfl (.tmp rfl)) ?_
 exact ⟨congrArg Value.bool (fidx_any (fun i => decide (x = xs.getD i 0)) xs.length), hS11.ext⟩
theorem hasin_ok (x : Int) (b : Nat) (l : List Int) (xl : Value) (w : World) (hb : (blk b 40 [xl]).p w) (hv : SlAt w xl 1 l.length (ints l)) (hl : l.length ≤ 1000000) :
  Calls Try.prog 75 #[(Value.int .i64 x), (bptr b 0)] w (Ret fun v w' => v = .bool (hasB l x) ∧ Ext NoB w w') := by
 refine calls_enter Try.func75 rfl fun a0 hA0 => ?_
 replace hA0 : Fr 7 [] [(0, (Value.int .i64 x)), (1, (bptr b 0))] a0 := hA0
 have hS0 : Sep NoB w w [(rob b 40 [xl]), (sl xl 1 l.length (ints l))] := sep_ro ⟨rfl, hb, rfl, hv, trivial⟩
 refine c_seq ?_
 refine c_region ?_
 refine st hA0 (op_assign rfl (evc _ _)) rfl rfl (by decide) fun a1 hA2 => ?_; clear hA0 a0
 refine wl_nil ?_
 refine then_n ?_
 refine c_seq ?_
 refine c_region ?_
 refine st hA2 (op_load1 rfl ty_40 (hA2.ev rfl) (hS0.rk 0 rfl) rfl) rfl rfl (by decide) fun a3 hA4 => ?_; clear hA2 a1
 refine st hA4 (op_move rfl (hA4.ev rfl)) rfl rfl (by decide) fun a5 hA6 => ?_; clear hA4 a3
 refine stw hA6 (op_call rfl en_76 (ev2 (hA6.ev rfl) (hA6.ev rfl)) (contains_ok l x _ _ (hS0.sk 1 rfl) (by omega))) rfl rfl (by decide) ?_
 rintro a7 _ w9 ⟨rfl, hE10⟩ hA8; have hS11 := hS0.step hE10; clear hE10 hA6 hS0 a5
 refine st hA8 (op_assign rfl (hA8.ev rfl)) rfl rfl (by decide) fun a12 hA13 => ?_; clear hA8 a7
 refine wl_nil ?_
 refine then_n ?_
 refine c_ret ?_
 refine fin_run hA13 (.inl rfl) (run_results1 hA13 rfl (.tmp rfl)) ?_
 exact ⟨rfl, hS11.ext⟩
theorem covers_ok (a : List Int) (xa : Value) (b : Nat) (l : List Int) (xl : Value) (w : World) (hb : (blk b 40 [xl]).p w) (hv : SlAt w xl 1 l.length (ints l)) (hl : l.length ≤ 1000000) (ha : SlAt w xa 1 a.length (ints a)) (hal : a.length ≤ 1000000) :
  Calls Try.prog 73 #[xa, (bptr b 0)] w (Ret fun v w' => v = .bool (coverB a l) ∧ Ext NoB w w') := by
 refine calls_enter Try.func73 rfl fun a0 hA0 => ?_
 replace hA0 : Fr 7 [] [(0, xa), (1, (bptr b 0))] a0 := hA0
 have hS0 : Sep NoB w w [(rob b 40 [xl]), (sl xl 1 l.length (ints l)), (sl xa 1 a.length (ints a))] := sep_ro ⟨rfl, hb, rfl, hv, rfl, ha, trivial⟩
 refine c_seq ?_
 refine c_region ?_
 refine st hA0 (op_assign rfl (evc _ _)) rfl rfl (by decide) fun a1 hA2 => ?_; clear hA0 a0
 refine wl_nil ?_
 refine then_n ?_
 refine c_seq ?_
 refine c_region ?_
 refine st hA2 (op_move rfl (hA2.ev rfl)) rfl rfl (by decide) fun a3 hA4 => ?_; clear hA2 a1
 refine st hA4 (op_makeFunc rfl ev0 (ev1 (hA4.ev rfl))) rfl rfl (by decide) fun a5 hA6 => ?_; clear hA4 a3
 refine stw hA6 (op_call rfl en_74 (ev2 (hA6.ev rfl) (hA6.ev rfl)) (all_int a _ 75 #[] #[(bptr b 0)] (fun i => hasB l (a.getD i 0)) _ (hS0.sk 2 rfl) (by omega) ⟨en_75, fun i hi W hW => hasin_ok _ b l xl W ((hS0.step hW).rk 0 rfl) ((hS0.step hW).sk 1 rfl) hl⟩)) rfl rfl (by decide) ?_
 rintro a7 _ w9 ⟨rfl, hE10⟩ hA8; have hS11 := hS0.step hE10; clear hE10 hA6 hS0 a5
 refine st hA8 (op_assign rfl (hA8.ev rfl)) rfl rfl (by decide) fun a12 hA13 => ?_; clear hA8 a7
 refine wl_nil ?_
 refine then_n ?_
 refine c_ret ?_
 refine fin_run hA13 (.inl rfl) (run_results1 hA13 rfl (.tmp rfl)) ?_
 exact ⟨rfl, hS11.ext⟩
theorem leave_zero (bb ba br bs : Nat) (va vu : Value) (ov lv : List Value) (A : List (List Int)) (rs : List RunD) (hlv : lv.length = rs.length) (hAl : A.length ≤ 1000000) (hAs : ∀ i, (A.getD i []).length ≤ 1000000) (hrl : rs.length ≤ 1000) (l : List Int) (next : Nat) (xl vb : Value) (best : List Int) (w : World) (X : Nat → Prop) (hl : l.length + 0 ≤ 1000) (hJ : Sep X w w [(row xl 3 1 l.length (ints l)), (blk bb 40 [vb]), (row vb 3 1 best.length (ints best)), (rob bs 120 [(Value.func (.func 71) #[] #[(bptr bb 0), (bptr ba 0), (bptr br 0), (bptr bs 0)])]), (rob ba 38 [va]), (rob br 35 [vu]), (sl va 1 ov.length ov), (lstRo ov A), (sl vu 3 rs.length (vtrips (runV lv rs)))]) :
  Calls Try.prog 71 #[xl, (Value.int .i64 (next : Int)), (Value.int .i64 0), (bptr bb 0), (bptr ba 0), (bptr br 0), (bptr bs 0)] w (Ret fun v w' => v = .bool (leaveB rs.length A 0 l next) ∧ ∃ vb' best', (leaveB rs.length A 0 l next = true → (setsF rs.length 0 l next).find? (okB A) = some best') ∧ Sep X w w' [(row xl 3 1 l.length (ints l)), (blk bb 40 [vb']), (row vb' 3 1 best'.length (ints best')), (rob bs 120 [(Value.func (.func 71) #[] #[(bptr bb 0), (bptr ba 0), (bptr br 0), (bptr bs 0)])]), (rob ba 38 [va]), (rob br 35 [vu]), (sl va 1 ov.length ov), (lstRo ov A), (sl vu 3 rs.length (vtrips (runV lv rs)))]) := by
 refine calls_enter Try.func71 rfl fun a0 hA0 => ?_
 replace hA0 : Fr 36 [] [(0, xl), (1, (Value.int .i64 (next : Int))), (2, (Value.int .i64 0)), (3, (bptr bb 0)), (4, (bptr ba 0)), (5, (bptr br 0)), (6, (bptr bs 0))] a0 := hA0
 have hol := (show (lstR ov A).p _ from hJ.ok 7 (lstRo ov A) rfl).1
 have hS0 : Sep X w w [(row xl 3 1 l.length (ints l)), (blk bb 40 [vb]), (row vb 3 1 best.length (ints best)), (rob bs 120 [(Value.func (.func 71) #[] #[(bptr bb 0), (bptr ba 0), (bptr br 0), (bptr bs 0)])]), (rob ba 38 [va]), (rob br 35 [vu]), (sl va 1 ov.length ov), (lstRo ov A), (sl vu 3 rs.length (vtrips (runV lv rs)))] := hJ
 refine c_seq ?_
 refine c_region ?_
 refine stw hA0 (op_box hS0 rfl (hA0.ev rfl) (cs := [xl]) (isSl_cells (SlAt.isSl (SlAt.of_row (hS0.ok_row 0 rfl))))) rfl rfl (by decide) ?_
 rintro a1 _ w3 ⟨b4, rfl, hS5⟩ hA2; clear hA0 hS0 a0
 refine st hA2 (op_assign rfl (evc _ _)) rfl rfl (by decide) fun a6 hA7 => ?_; clear hA2 a1
 refine wl_nil ?_
 refine then_n ?_
 refine c_seq ?_
 refine c_seq ?_
 refine c_region ?_
 refine st hA7 (op_move rfl (hA7.ev rfl)) rfl rfl (by decide) fun a8 hA9 => ?_; clear hA7 a6
 refine st hA9 (op_eql rfl (hA9.ev rfl) (evc _ _)) rfl rfl (by decide) fun a10 hA11 => ?_; clear hA9 a8
 refine wl_nil ?_
 refine then_n ?_
 refine c_true hA11 rfl ?_
 refine c_seq ?_
 have hA12 := hA11.as [(7, (bptr b4 0)), (3, (bptr bb 0)), (4, (bptr ba 0))] rfl; clear hA11
 refine c_region ?_
 refine st hA12 (op_load1 rfl ty_40 (hA12.ev rfl) (hS5.bk 0 rfl) rfl) rfl rfl (by decide) fun a13 hA14 => ?_; clear hA12 a10
 refine stw hA14 (op_call rfl en_61 (ev1 (hA14.ev rfl)) (clone_int l _ _ (SlAt.of_row (hS5.ok_row 1 rfl)) (by omega))) rfl rfl (by decide) ?_
 rintro a15 v21 w17 ⟨hE18, hO19⟩ hA16; have hS20 := hS5.new_row hE18 hO19; clear hE18 hO19 hA14 hS5 a13
 refine sts hA16 (op_store hS20 rfl ty_40 (hA16.ev rfl) (hA16.ev rfl) (i := 3) rfl (vs := [v21]) (isSl_cells (SlAt.isSl (SlAt.of_row (hS20.ok_row 0 rfl)))) rfl (all_c (SlAt.one (SlAt.of_row (hS20.ok_row 0 rfl))) all_n) (Nat.le_of_ble_eq_true rfl)) rfl rfl ?_
 intro _ w22 hS23 hA24; clear hA16
 have hS25 : Sep X w w22 [(row v21 3 1 l.length (ints l)), (blk b4 40 [xl]), (row xl 3 1 l.length (ints l)), (blk bb 40 [v21]), (row vb 3 1 best.length (ints best)), (rob bs 120 [(Value.func (.func 71) #[] #[(bptr bb 0), (bptr ba 0), (bptr br 0), (bptr bs 0)])]), (rob ba 38 [va]), (rob br 35 [vu]), (sl va 1 ov.length ov), (lstRo ov A), (sl vu 3 rs.length (vtrips (runV lv rs)))] := hS23; clear hS23 hS20
 refine wl_nil ?_
 refine then_n ?_
 refine c_seq ?_
 refine c_region ?_
 refine st hA24 (op_load1 rfl ty_38 (hA24.ev rfl) (hS25.rk 6 rfl) rfl) rfl rfl (by decide) fun a26 hA27 => ?_; clear hA24 a15
 refine st hA27 (op_makeFunc rfl ev0 (ev1 (hA27.ev rfl))) rfl rfl (by decide) fun a28 hA29 => ?_; clear hA27 a26
 refine stw hA29 (op_call rfl en_72 (ev2 (hA29.ev rfl) (hA29.ev rfl)) (contf_sls ov _ 73 #[] #[(bptr b4 0)] (fun i => coverB (A.getD i []) l) _ (hS25.sk 8 rfl) (by omega) ⟨en_73, fun i hi W hW => covers_ok _ _ _ l xl W ((hS25.step hW).bk 1 rfl) (SlAt.of_row ((hS25.step hW).ok_row 2 rfl)) (by omega) ((show (lstR ov A).p _ from (hS25.step hW).ok 9 (lstRo ov A) rfl).2 i (by omega)) (hAs i)⟩)) rfl rfl (by decide) ?_
 rintro a30 _ w32 ⟨rfl, hE33⟩ hA31; have hS34 := hS25.step hE33; clear hE33 hA29 hS25 a28
 refine st hA31 (op_assign rfl (hA31.ev rfl)) rfl rfl (by decide) fun a35 hA36 => ?_; clear hA31 a30
 refine wl_nil ?_
 refine then_n ?_
 refine c_ret ?_
 refine then_ret ?_
 refine fin_run hA36 (.inl rfl) (run_results1 hA36 rfl (.tmp rfl)) ?_
 rw [leave_0]
 exact ⟨congrArg Value.bool (by unfold okB; rw [hol]), _, l, fun h => find_0 h, hS34.keep [2, 3, 0, 5, 6, 7, 8, 9, 10] (by decide) _ rfl rfl⟩
theorem leave_succ (bb ba br bs : Nat) (va vu : Value) (ov lv : List Value) (A : List (List Int)) (rs : List RunD) (hlv : lv.length = rs.length) (hAl : A.length ≤ 1000000) (hAs : ∀ i, (A.getD i []).length ≤ 1000000) (hrl : rs.length ≤ 1000) (m : Nat) (ih : ∀ (l : List Int) (next : Nat) (xl vb : Value) (best : List Int) (w : World) (X : Nat → Prop) (hl : l.length + m ≤ 1000) (_ : Sep X w w [(row xl 3 1 l.length (ints l)), (blk bb 40 [vb]), (row vb 3 1 best.length (ints best)), (rob bs 120 [(Value.func (.func 71) #[] #[(bptr bb 0), (bptr ba 0), (bptr br 0), (bptr bs 0)])]), (rob ba 38 [va]), (rob br 35 [vu]), (sl va 1 ov.length ov), (lstRo ov A), (sl vu 3 rs.length (vtrips (runV lv rs)))]), Calls Try.prog 71 #[xl, .int .i64 (next : Int), .int .i64 (m : Int), bptr bb 0, bptr ba 0, bptr br 0, bptr bs 0] w (Ret fun v w' => v = .bool (leaveB rs.length A m l next) ∧ ∃ vb' best', (leaveB rs.length A m l next = true → (setsF rs.length m l next).find? (okB A) = some best') ∧ Sep X w w' [(row xl 3 1 l.length (ints l)), (blk bb 40 [vb']), (row vb' 3 1 best'.length (ints best')), (rob bs 120 [(Value.func (.func 71) #[] #[(bptr bb 0), (bptr ba 0), (bptr br 0), (bptr bs 0)])]), (rob ba 38 [va]), (rob br 35 [vu]), (sl va 1 ov.length ov), (lstRo ov A), (sl vu 3 rs.length (vtrips (runV lv rs)))])) (l : List Int) (next : Nat) (xl vb : Value) (best : List Int) (w : World) (X : Nat → Prop) (hl : l.length + (m + 1) ≤ 1000) (hJ : Sep X w w [(row xl 3 1 l.length (ints l)), (blk bb 40 [vb]), (row vb 3 1 best.length (ints best)), (rob bs 120 [(Value.func (.func 71) #[] #[(bptr bb 0), (bptr ba 0), (bptr br 0), (bptr bs 0)])]), (rob ba 38 [va]), (rob br 35 [vu]), (sl va 1 ov.length ov), (lstRo ov A), (sl vu 3 rs.length (vtrips (runV lv rs)))]) :
  Calls Try.prog 71 #[xl, (Value.int .i64 (next : Int)), (Value.int .i64 ((m : Int) + 1)), (bptr bb 0), (bptr ba 0), (bptr br 0), (bptr bs 0)] w (Ret fun v w' => v = .bool (leaveB rs.length A (m + 1) l next) ∧ ∃ vb' best', (leaveB rs.length A (m + 1) l next = true → (setsF rs.length (m + 1) l next).find? (okB A) = some best') ∧ Sep X w w' [(row xl 3 1 l.length (ints l)), (blk bb 40 [vb']), (row vb' 3 1 best'.length (ints best')), (rob bs 120 [(Value.func (.func 71) #[] #[(bptr bb 0), (bptr ba 0), (bptr br 0), (bptr bs 0)])]), (rob ba 38 [va]), (rob br 35 [vu]), (sl va 1 ov.length ov), (lstRo ov A), (sl vu 3 rs.length (vtrips (runV lv rs)))]) := by
 refine calls_enter Try.func71 rfl fun a0 hA0 => ?_
 replace hA0 : Fr 36 [] [(0, xl), (1, (Value.int .i64 (next : Int))), (2, (Value.int .i64 ((m : Int) + 1))), (3, (bptr bb 0)), (4, (bptr ba 0)), (5, (bptr br 0)), (6, (bptr bs 0))] a0 := hA0
 have hS0 : Sep X w w [(row xl 3 1 l.length (ints l)), (blk bb 40 [vb]), (row vb 3 1 best.length (ints best)), (rob bs 120 [(Value.func (.func 71) #[] #[(bptr bb 0), (bptr ba 0), (bptr br 0), (bptr bs 0)])]), (rob ba 38 [va]), (rob br 35 [vu]), (sl va 1 ov.length ov), (lstRo ov A), (sl vu 3 rs.length (vtrips (runV lv rs)))] := hJ
 refine c_seq ?_
 refine c_region ?_
 refine stw hA0 (op_box hS0 rfl (hA0.ev rfl) (cs := [xl]) (isSl_cells (SlAt.isSl (SlAt.of_row (hS0.ok_row 0 rfl))))) rfl rfl (by decide) ?_
 rintro a1 _ w3 ⟨b4, rfl, hS5⟩ hA2; clear hA0 hS0 a0
 refine st hA2 (op_assign rfl (evc _ _)) rfl rfl (by decide) fun a6 hA7 => ?_; clear hA2 a1
 refine wl_nil ?_
 refine then_n ?_
 refine c_seq ?_
 refine c_seq ?_
 refine c_region ?_
 refine st hA7 (op_move rfl (hA7.ev rfl)) rfl rfl (by decide) fun a8 hA9 => ?_; clear hA7 a6
 refine st hA9 (op_eql rfl (hA9.ev rfl) (evc _ _)) rfl rfl (by decide) fun a10 hA11 => ?_; clear hA9 a8
 have hd12 : ¬ (((m : Int) + 1) = 0) := (by omega)
 rw [decide_eq_false hd12] at hA11
 refine wl_nil ?_
 refine then_n ?_
 refine c_false hA11 rfl ?_
 refine c_skip ?_
 refine then_n ?_
 refine c_seq ?_
 refine c_seq ?_
 have hA13 := hA11.as [(7, (bptr b4 0)), (1, (Value.int .i64 (next : Int))), (2, (Value.int .i64 ((m : Int) + 1))), (5, (bptr br 0)), (6, (bptr bs 0))] rfl; clear hA11
 refine c_region ?_
 refine st hA13 (op_move rfl (hA13.ev rfl)) rfl rfl (by decide) fun a14 hA15 => ?_; clear hA13 a10
 refine st hA15 (op_assign rfl (hA15.ev rfl)) rfl rfl (by decide) fun a16 hA17 => ?_; clear hA15 a14
 refine wl_nil ?_
 refine then_n ?_
 refine c_block ?_
 have hA18 := hA17.as [(11, (Value.int .i64 (next : Int))), (7, (bptr b4 0)), (2, (Value.int .i64 ((m : Int) + 1))), (5, (bptr br 0)), (6, (bptr bs 0))] rfl; clear hA17
 refine c_loop (G := Nat) (fun (k : Nat) a_ w_ => ∃ vb_ : Value, ∃ best_ : List Int, Fr 36 [] [(11, (Value.int .i64 (k : Int))), (7, (bptr b4 0)), (2, (Value.int .i64 ((m : Int) + 1))), (5, (bptr br 0)), (6, (bptr bs 0))] a_ ∧ Sep X w w_ [(blk b4 40 [xl]), (row xl 3 1 l.length (ints l)), (blk bb 40 [vb_]), (row vb_ 3 1 best_.length (ints best_)), (rob bs 120 [(Value.func (.func 71) #[] #[(bptr bb 0), (bptr ba 0), (bptr br 0), (bptr bs 0)])]), (rob ba 38 [va]), (rob br 35 [vu]), (sl va 1 ov.length ov), (lstRo ov A), (sl vu 3 rs.length (vtrips (runV lv rs)))] ∧ (next ≤ k) ∧ (k = next ∨ k ≤ rs.length) ∧ ((setsUpto rs.length m l next k).any (okB A) = false)) (fun k => rs.length - k) next ⟨vb, best, hA18.as _ rfl, hS5, Nat.le_refl _, .inl rfl, (by rw [setsUpto_self]; rfl)⟩ ?_
 clear hA18 hS5 a16
 rintro k a19 w21 ⟨vb_, best_, hA20, hS22, hk1, hk2, hno⟩
 refine c_seq ?_
 refine c_seq ?_
 refine c_region ?_
 refine st hA20 (op_move rfl (hA20.ev rfl)) rfl rfl (by decide) fun a23 hA24 => ?_; clear hA20 a19
 refine st hA24 (op_load1 rfl ty_35 (hA24.ev rfl) (hS22.rk 6 rfl) rfl) rfl rfl (by decide) fun a25 hA26 => ?_; clear hA24 a23
 refine st hA26 (op_lenS rfl un_35 (hA26.ev rfl) (hS22.sk 9 rfl)) rfl rfl (by decide) fun a27 hA28 => ?_; clear hA26 a25
 refine st hA28 (op_lss rfl (hA28.ev rfl) (hA28.ev rfl)) rfl rfl (by decide) fun a29 hA30 => ?_; clear hA28 a27
 refine wl_nil ?_
 refine then_n ?_
 by_cases hb31 : (k : Int) < (rs.length : Int)
 ·skip
  rw [decide_eq_true hb31] at hA30
  refine c_true hA30 rfl ?_
  refine c_skip ?_
  refine then_n ?_
  refine c_seq ?_
  refine c_block ?_
  refine c_seq ?_
  have hA32 := hA30.as [(11, (Value.int .i64 (k : Int))), (7, (bptr b4 0)), (2, (Value.int .i64 ((m : Int) + 1))), (5, (bptr br 0)), (6, (bptr bs 0))] rfl; clear hA30
  have hB33 := hS22.below
  refine c_drawnA mixed hA32 hS22 9 [[], [], [], [2], [1, 3], [], [5], [], [7]] [(Yd.val (Value.func (.func 71) #[] #[(bptr bb 0), (bptr ba 0), (bptr br 0), (bptr bs 0)])), (Yd.val xl), (Yd.val (Value.int .i64 (k : Int))), (Yd.blt w21.heap.size 3 1 [(Value.int .i64 (k : Int))]), Yd.any, (Yd.val (Value.int .i64 (k : Int))), (Yd.val (Value.int .i64 ((k : Int) + 1))), (Yd.val (Value.int .i64 ((m : Int) + 1))), (Yd.val (Value.int .i64 (((m : Int) + 1) - 1)))] (by decide +kernel) rfl rfl 4 1 (by decide) rfl 1 ((ints l) ++ [(Value.int .i64 (k : Int))]) rfl ⟨ydb_val _ _, ydb_val _ _, ydb_val _ _, ydb_blt _ _ _ _, ydb_any _, ydb_val _ _, ydb_val _ _, ydb_val _ _, ydb_val _ _, trivial⟩ ?_ ?_
  ·skip
   refine ⟨⟨fun _ a w hA hS hz hd => ?_, fun e_ => absurd e_ (by decide)⟩, ?_⟩
   ·skip
    exact opG_of rfl (dv (op_load1 rfl ty_120 (hA.ev rfl) (hS.rk 4 rfl) rfl) hS rfl)
   refine ⟨⟨fun _ a w hA hS hz hd => ?_, fun e_ => absurd e_ (by decide)⟩, ?_⟩
   ·skip
    exact opG_of rfl (dv (op_load1 rfl ty_40 (hA.ev rfl) (hS.bk 0 rfl) rfl) hS rfl)
   refine ⟨⟨fun _ a w hA hS hz hd => ?_, fun e_ => absurd e_ (by decide)⟩, ?_⟩
   ·skip
    exact opG_of rfl (dv (op_move rfl (hA.ev rfl)) hS rfl)
   refine ⟨⟨fun _ a w hA hS hz hd => ?_, fun e_ => absurd e_ (by decide)⟩, ?_⟩
   ·skip
    have e2 := has_ev (hd 2 (by decide)) rfl (fun _ h => h)
    exact opG_of rfl (dbltZ hS hz rfl (pv1 (tmp_ev e2)) un_40 ty_3 ze_3 (by decide) (cs := [(Value.int .i64 (k : Int))]) (bs_3_1_0i _) (fun _ _ h => h))
   refine ⟨⟨fun e_ => absurd rfl e_, fun _ a w hA hS hz hd => ?_⟩, ?_⟩
   ·skip
    have e1 := has_ev (hd 1 (by decide)) rfl (fun _ h => h)
    obtain ⟨_, e3, b3, rfl, hp3, _⟩ := has_get (hd 3 (by decide)) rfl
    exact opG_of rfl (op_appendL hS hz rfl un_40 el_3 (tmp_ev e1) (tmp_ev e3) (i := 1) rfl (SlAt.of_blk hp3 rfl (by decide)) (by decide) rfl (by simp only [maxLen]; omega) (by omega))
   refine ⟨⟨fun _ a w hA hS hz hd => ?_, fun e_ => absurd e_ (by decide)⟩, ?_⟩
   ·skip
    exact opG_of rfl (dv (op_move rfl (hA.ev rfl)) hS rfl)
   refine ⟨⟨fun _ a w hA hS hz hd => ?_, fun e_ => absurd e_ (by decide)⟩, ?_⟩
   ·skip
    have e5 := has_ev (hd 5 (by decide)) rfl (fun _ h => h)
    exact opG_of rfl (dv (op_add rfl (tmp_ev e5) (evc _ _) (by omega) (by omega)) hS rfl)
   refine ⟨⟨fun _ a w hA hS hz hd => ?_, fun e_ => absurd e_ (by decide)⟩, ?_⟩
   ·skip
    exact opG_of rfl (dv (op_move rfl (hA.ev rfl)) hS rfl)
   refine ⟨⟨fun _ a w hA hS hz hd => ?_, fun e_ => absurd e_ (by decide)⟩, ?_⟩
   ·skip
    have e7 := has_ev (hd 7 (by decide)) rfl (fun _ h => h)
    exact opG_of rfl (dv (op_sub rfl (tmp_ev e7) (evc _ _) (by omega) (by omega)) hS rfl)
   trivial
  intro a34 w35 hA36 hS37 hH38 hAp39; clear hA32 hS22
  have hA40 := hA36.add (has_ev (hH38 0 (by decide) (by decide)) rfl (fun _ h => h)); clear hA36
  obtain ⟨u42, ht43, hap44⟩ := has_get hAp39 rfl
  have hA41 := hA40.add ht43; clear hA40 ht43 hAp39
  have hA45 := hA41.add (has_ev (hH38 6 (by decide) (by decide)) rfl (fun _ h => h)); clear hA41
  have hA46 := hA45.add (has_ev (hH38 8 (by decide) (by decide)) rfl (fun _ h => h)); clear hA45
  clear hH38
  rcases appL_row hS37 hB33 (i0 := 1) rfl hap44 with ⟨hS47, hbk48⟩ | hS47
  ·skip
   clear hS37
   have hS53 := hS47.row_say (i := 1) rfl (n' := (l ++ [(k : Int)]).length) (xs' := ints (l ++ [(k : Int)])) (by simp) (by simp [ints]); clear hS47
   have hS54 : Sep X w w35 [(row u42 3 1 ((l ++ [(k : Int)]).length) (ints (l ++ [(k : Int)]))), (blk bb 40 [vb_]), (row vb_ 3 1 best_.length (ints best_)), (rob bs 120 [(Value.func (.func 71) #[] #[(bptr bb 0), (bptr ba 0), (bptr br 0), (bptr bs 0)])]), (rob ba 38 [va]), (rob br 35 [vu]), (sl va 1 ov.length ov), (lstRo ov A), (sl vu 3 rs.length (vtrips (runV lv rs))), (blk b4 40 [xl])] := hS53.keep [1, 2, 3, 4, 5, 6, 7, 8, 9, 0] (by decide) _ rfl rfl; clear hS53
   refine stw hA46 (op_callv rfl (hA46.ev rfl) en_71 (ev3 (hA46.ev rfl) (hA46.ev rfl) (hA46.ev rfl)) (by have hz := ih (l ++ [(k : Int)]) (k + 1) _ _ _ _ (ownX [(row u42 3 1 ((l ++ [(k : Int)]).length) (ints (l ++ [(k : Int)]))), (blk bb 40 [vb_]), (row vb_ 3 1 best_.length (ints best_)), (rob bs 120 [(Value.func (.func 71) #[] #[(bptr bb 0), (bptr ba 0), (bptr br 0), (bptr bs 0)])]), (rob ba 38 [va]), (rob br 35 [vu]), (sl va 1 ov.length ov), (lstRo ov A), (sl vu 3 rs.length (vtrips (runV lv rs)))]) (by simp; omega) (Sep.enterG (A := [(row u42 3 1 ((l ++ [(k : Int)]).length) (ints (l ++ [(k : Int)]))), (blk bb 40 [vb_]), (row vb_ 3 1 best_.length (ints best_)), (rob bs 120 [(Value.func (.func 71) #[] #[(bptr bb 0), (bptr ba 0), (bptr br 0), (bptr bs 0)])]), (rob ba 38 [va]), (rob br 35 [vu]), (sl va 1 ov.length ov), (lstRo ov A), (sl vu 3 rs.length (vtrips (runV lv rs)))]) (B := [(blk b4 40 [xl])]) hS54); rw [show ((m : Int) + 1) - 1 = (m : Int) by omega]; exact hz)) rfl rfl (by decide) ?_
   rintro a50 _ w52 ⟨rfl, vb56, best57, hf58, hT55⟩ hA51; clear hA46 a34
   have hS59 : Sep X w w52 [(row u42 3 1 ((l ++ [(k : Int)]).length) (ints (l ++ [(k : Int)]))), (blk bb 40 [vb56]), (row vb56 3 1 best57.length (ints best57)), (rob bs 120 [(Value.func (.func 71) #[] #[(bptr bb 0), (bptr ba 0), (bptr br 0), (bptr bs 0)])]), (rob ba 38 [va]), (rob br 35 [vu]), (sl va 1 ov.length ov), (lstRo ov A), (sl vu 3 rs.length (vtrips (runV lv rs))), (blk b4 40 [xl])] := Sep.callG (A := [(row u42 3 1 ((l ++ [(k : Int)]).length) (ints (l ++ [(k : Int)]))), (blk bb 40 [vb_]), (row vb_ 3 1 best_.length (ints best_)), (rob bs 120 [(Value.func (.func 71) #[] #[(bptr bb 0), (bptr ba 0), (bptr br 0), (bptr bs 0)])]), (rob ba 38 [va]), (rob br 35 [vu]), (sl va 1 ov.length ov), (lstRo ov A), (sl vu 3 rs.length (vtrips (runV lv rs)))]) (B := [(blk b4 40 [xl])]) hS54 hT55 (lentOk_at ⟨.inl rfl, .inl rfl, .inl rfl, .inr ⟨3, rfl⟩, .inr ⟨4, rfl⟩, .inr ⟨5, rfl⟩, .inr ⟨6, rfl⟩, .inr ⟨7, rfl⟩, .inr ⟨8, rfl⟩, trivial⟩); clear hT55 hS54
   have hS60 := hbk48 _ _ _ _ (hS59.row_say (i := 0) rfl (n' := l.length + 1) (xs' := ints l ++ [Value.int .i64 (k : Int)]) (by simp) (by simp [ints])) 0 rfl (by simp [ints]); clear hS59
   refine wl_nil ?_
   refine then_n ?_
   rcases Bool.eq_false_or_eq_true ((leaveB rs.length A m (l ++ [(k : Int)]) (k + 1))) with hb61 | hb61
   ·skip
    rw [hb61] at hA51
    refine c_true hA51 rfl ?_
    refine c_seq ?_
    have hA62 := hA51.as [] rfl; clear hA51
    refine c_region ?_
    refine st hA62 (op_assign rfl (evc _ _)) rfl rfl (by decide) fun a63 hA64 => ?_; clear hA62 a50
    refine wl_nil ?_
    refine then_n ?_
    refine c_ret ?_
    refine blk_ret ?_
    refine then_ret ?_
    refine then_ret ?_
    refine blk_ret ?_
    refine then_ret ?_
    refine fin_run hA64 (.inl rfl) (run_results1 hA64 rfl (.tmp rfl)) ?_
    have hh := leave_hit (A := A) hk1 (by omega) hno (by assumption) (hf58 (by assumption))
    rw [hh.1]
    exact ⟨rfl, _, _, fun _ => hh.2, hS60.keep [0, 1, 2, 3, 4, 5, 6, 7, 8] (by decide) _ rfl rfl⟩
   ·skip
    rw [hb61] at hA51
    refine c_false hA51 rfl ?_
    refine c_skip ?_
    refine blk_n ?_
    refine then_n ?_
    refine c_region ?_
    refine st hA51 (op_move rfl (hA51.ev rfl)) rfl rfl (by decide) fun a65 hA66 => ?_; clear hA51 a50
    refine st hA66 (op_add rfl (hA66.ev rfl) (evc _ _) (by omega) (by omega)) rfl rfl (by decide) fun a67 hA68 => ?_; clear hA66 a65
    refine st hA68 (op_assign rfl (hA68.ev rfl)) rfl rfl (by decide) fun a69 hA70 => ?_; clear hA68 a67
    refine wl_nil ?_
    have hS71 : Sep X w w52 [(blk b4 40 [xl]), (row xl 3 1 l.length (ints l)), (blk bb 40 [vb56]), (row vb56 3 1 best57.length (ints best57)), (rob bs 120 [(Value.func (.func 71) #[] #[(bptr bb 0), (bptr ba 0), (bptr br 0), (bptr bs 0)])]), (rob ba 38 [va]), (rob br 35 [vu]), (sl va 1 ov.length ov), (lstRo ov A), (sl vu 3 rs.length (vtrips (runV lv rs)))] := hS60.keep [9, 0, 1, 2, 3, 4, 5, 6, 7, 8] (by decide) _ rfl rfl; clear hS60
    exact then_n ⟨k + 1, ⟨vb56, best57, hA70.as _ rfl, hS71, by omega, by omega, leave_go hk1 hno (by assumption)⟩, by omega⟩
  ·skip
   clear hS37
   have hS76 := hS47.row_say (i := 0) rfl (n' := (l ++ [(k : Int)]).length) (xs' := ints (l ++ [(k : Int)])) (by simp) (by simp [ints]); clear hS47
   have hS77 : Sep X w w35 [(row u42 3 1 ((l ++ [(k : Int)]).length) (ints (l ++ [(k : Int)]))), (blk bb 40 [vb_]), (row vb_ 3 1 best_.length (ints best_)), (rob bs 120 [(Value.func (.func 71) #[] #[(bptr bb 0), (bptr ba 0), (bptr br 0), (bptr bs 0)])]), (rob ba 38 [va]), (rob br 35 [vu]), (sl va 1 ov.length ov), (lstRo ov A), (sl vu 3 rs.length (vtrips (runV lv rs))), (blk b4 40 [xl]), (row xl 3 1 l.length (ints l))] := hS76.keep [0, 3, 4, 5, 6, 7, 8, 9, 10, 1, 2] (by decide) _ rfl rfl; clear hS76
   refine stw hA46 (op_callv rfl (hA46.ev rfl) en_71 (ev3 (hA46.ev rfl) (hA46.ev rfl) (hA46.ev rfl)) (by have hz := ih (l ++ [(k : Int)]) (k + 1) _ _ _ _ (ownX [(row u42 3 1 ((l ++ [(k : Int)]).length) (ints (l ++ [(k : Int)]))), (blk bb 40 [vb_]), (row vb_ 3 1 best_.length (ints best_)), (rob bs 120 [(Value.func (.func 71) #[] #[(bptr bb 0), (bptr ba 0), (bptr br 0), (bptr bs 0)])]), (rob ba 38 [va]), (rob br 35 [vu]), (sl va 1 ov.length ov), (lstRo ov A), (sl vu 3 rs.length (vtrips (runV lv rs)))]) (by simp; omega) (Sep.enterG (A := [(row u42 3 1 ((l ++ [(k : Int)]).length) (ints (l ++ [(k : Int)]))), (blk bb 40 [vb_]), (row vb_ 3 1 best_.length (ints best_)), (rob bs 120 [(Value.func (.func 71) #[] #[(bptr bb 0), (bptr ba 0), (bptr br 0), (bptr bs 0)])]), (rob ba 38 [va]), (rob br 35 [vu]), (sl va 1 ov.length ov), (lstRo ov A), (sl vu 3 rs.length (vtrips (runV lv rs)))]) (B := [(blk b4 40 [xl]), (row xl 3 1 l.length (ints l))]) hS77); rw [show ((m : Int) + 1) - 1 = (m : Int) by omega]; exact hz)) rfl rfl (by decide) ?_
   rintro a73 _ w75 ⟨rfl, vb79, best80, hf81, hT78⟩ hA74; clear hA46 a34
   have hS82 : Sep X w w75 [(row u42 3 1 ((l ++ [(k : Int)]).length) (ints (l ++ [(k : Int)]))), (blk bb 40 [vb79]), (row vb79 3 1 best80.length (ints best80)), (rob bs 120 [(Value.func (.func 71) #[] #[(bptr bb 0), (bptr ba 0), (bptr br 0), (bptr bs 0)])]), (rob ba 38 [va]), (rob br 35 [vu]), (sl va 1 ov.length ov), (lstRo ov A), (sl vu 3 rs.length (vtrips (runV lv rs))), (blk b4 40 [xl]), (row xl 3 1 l.length (ints l))] := Sep.callG (A := [(row u42 3 1 ((l ++ [(k : Int)]).length) (ints (l ++ [(k : Int)]))), (blk bb 40 [vb_]), (row vb_ 3 1 best_.length (ints best_)), (rob bs 120 [(Value.func (.func 71) #[] #[(bptr bb 0), (bptr ba 0), (bptr br 0), (bptr bs 0)])]), (rob ba 38 [va]), (rob br 35 [vu]), (sl va 1 ov.length ov), (lstRo ov A), (sl vu 3 rs.length (vtrips (runV lv rs)))]) (B := [(blk b4 40 [xl]), (row xl 3 1 l.length (ints l))]) hS77 hT78 (lentOk_at ⟨.inl rfl, .inl rfl, .inl rfl, .inr ⟨3, rfl⟩, .inr ⟨4, rfl⟩, .inr ⟨5, rfl⟩, .inr ⟨6, rfl⟩, .inr ⟨7, rfl⟩, .inr ⟨8, rfl⟩, trivial⟩); clear hT78 hS77
   refine wl_nil ?_
   refine then_n ?_
   rcases Bool.eq_false_or_eq_true ((leaveB rs.length A m (l ++ [(k : Int)]) (k + 1))) with hb83 | hb83
   ·skip
    rw [hb83] at hA74
    refine c_true hA74 rfl ?_
    refine c_seq ?_
    have hA84 := hA74.as [] rfl; clear hA74
    refine c_region ?_
    refine st hA84 (op_assign rfl (evc _ _)) rfl rfl (by decide) fun a85 hA86 => ?_; clear hA84 a73
    refine wl_nil ?_
    refine then_n ?_
    refine c_ret ?_
    refine blk_ret ?_
    refine then_ret ?_
    refine then_ret ?_
    refine blk_ret ?_
    refine then_ret ?_
    refine fin_run hA86 (.inl rfl) (run_results1 hA86 rfl (.tmp rfl)) ?_
    have hh := leave_hit (A := A) hk1 (by omega) hno (by assumption) (hf81 (by assumption))
    rw [hh.1]
    exact ⟨rfl, _, _, fun _ => hh.2, hS82.keep [10, 1, 2, 3, 4, 5, 6, 7, 8] (by decide) _ rfl rfl⟩
   ·skip
    rw [hb83] at hA74
    refine c_false hA74 rfl ?_
    refine c_skip ?_
    refine blk_n ?_
    refine then_n ?_
    refine c_region ?_
    refine st hA74 (op_move rfl (hA74.ev rfl)) rfl rfl (by decide) fun a87 hA88 => ?_; clear hA74 a73
    refine st hA88 (op_add rfl (hA88.ev rfl) (evc _ _) (by omega) (by omega)) rfl rfl (by decide) fun a89 hA90 => ?_; clear hA88 a87
    refine st hA90 (op_assign rfl (hA90.ev rfl)) rfl rfl (by decide) fun a91 hA92 => ?_; clear hA90 a89
    refine wl_nil ?_
    have hS93 : Sep X w w75 [(blk b4 40 [xl]), (row xl 3 1 l.length (ints l)), (blk bb 40 [vb79]), (row vb79 3 1 best80.length (ints best80)), (rob bs 120 [(Value.func (.func 71) #[] #[(bptr bb 0), (bptr ba 0), (bptr br 0), (bptr bs 0)])]), (rob ba 38 [va]), (rob br 35 [vu]), (sl va 1 ov.length ov), (lstRo ov A), (sl vu 3 rs.length (vtrips (runV lv rs)))] := hS82.keep [9, 10, 1, 2, 3, 4, 5, 6, 7, 8] (by decide) _ rfl rfl; clear hS82
    exact then_n ⟨k + 1, ⟨vb79, best80, hA92.as _ rfl, hS93, by omega, by omega, leave_go hk1 hno (by assumption)⟩, by omega⟩
 ·skip
  rw [decide_eq_false hb31] at hA30
  refine c_false hA30 rfl ?_
  refine c_exit ?_
  refine then_exit ?_
  refine then_exit ?_
  refine blk_hit ?_
  refine then_n ?_
  refine c_seq ?_
  have hA94 := hA30.as [] rfl; clear hA30
  refine c_region ?_
  refine st hA94 (op_assign rfl (evc _ _)) rfl rfl (by decide) fun a95 hA96 => ?_; clear hA94 a29
  refine wl_nil ?_
  refine then_n ?_
  refine c_ret ?_
  refine fin_run hA96 (.inl rfl) (run_results1 hA96 rfl (.tmp rfl)) ?_
  have he := leave_end (A := A) (l := l) hk2 (by omega) hno
  rw [he]
  exact ⟨rfl, _, _, (fun h => absurd h (by decide)), hS22.keep [1, 2, 3, 4, 5, 6, 7, 8, 9] (by decide) _ rfl rfl⟩
theorem leave_ok (bb ba br bs : Nat) (va vu : Value) (ov lv : List Value) (A : List (List Int)) (rs : List RunD) (hlv : lv.length = rs.length) (hAl : A.length ≤ 1000000) (hAs : ∀ i, (A.getD i []).length ≤ 1000000) (hrl : rs.length ≤ 1000) : ∀ (m : Nat) (l : List Int) (next : Nat) (xl vb : Value) (best : List Int) (w : World) (X : Nat → Prop) (hl : l.length + m ≤ 1000) (_ : Sep X w w [(row xl 3 1 l.length (ints l)), (blk bb 40 [vb]), (row vb 3 1 best.length (ints best)), (rob bs 120 [(Value.func (.func 71) #[] #[(bptr bb 0), (bptr ba 0), (bptr br 0), (bptr bs 0)])]), (rob ba 38 [va]), (rob br 35 [vu]), (sl va 1 ov.length ov), (lstRo ov A), (sl vu 3 rs.length (vtrips (runV lv rs)))]), Calls Try.prog 71 #[xl, .int .i64 (next : Int), .int .i64 (m : Int), bptr bb 0, bptr ba 0, bptr br 0, bptr bs 0] w (Ret fun v w' => v = .bool (leaveB rs.length A m l next) ∧ ∃ vb' best', (leaveB rs.length A m l next = true → (setsF rs.length m l next).find? (okB A) = some best') ∧ Sep X w w' [(row xl 3 1 l.length (ints l)), (blk bb 40 [vb']), (row vb' 3 1 best'.length (ints best')), (rob bs 120 [(Value.func (.func 71) #[] #[(bptr bb 0), (bptr ba 0), (bptr br 0), (bptr bs 0)])]), (rob ba 38 [va]), (rob br 35 [vu]), (sl va 1 ov.length ov), (lstRo ov A), (sl vu 3 rs.length (vtrips (runV lv rs)))]) := by
 intro m
 induction m with
 | zero => intro l next xl vb best w X hl hJ; exact leave_zero bb ba br bs va vu ov lv A rs hlv hAl hAs hrl l next xl vb best w X hl hJ
 | succ m ih => intro l next xl vb best w X hl hJ; exact leave_succ bb ba br bs va vu ov lv A rs hlv hAl hAs hrl m ih l next xl vb best w X hl hJ
end Go.Proofs.Ytkkglkdnnfegkaa

namespace Go.Proofs.Ytkkglkdnnfegkaa
open Go.RowKit Go.Shelf Go.Eng
theorem doubt_ok (R : List (Int × Int)) (rs : List RunD) (lv : List Value) (vr vu : Value) (w : World) (hm : SlAt w vr 2 R.length (pairs R)) (hx : RunsAt w vu lv rs) (hlen : R.length ≤ 1000000) (hrl : rs.length ≤ 1000000) (he : enterF R rs = 0) :
  Calls Try.prog 43 #[(Value.agg #[vr]), vu] w (Ret fun v w' => ∃ u, v = .tuple #[u, .int .i64 0] ∧ Sep NoB w w' [row u 3 1 (doubtF R rs).length (ints (doubtF R rs))]) := by
 refine calls_enterM Try.func43 rfl fun a0 hA0 => ?_
 replace hA0 : Fr 63 (marks []) [(0, (Value.agg #[vr])), (1, vu)] a0 := hA0
 have hR := (check_mat (enter_mat he)).1
 have hV := enter_runs he
 have hmp := (check_mat (enter_mat he)).2.2
 have hfew := check_few (enter_mat he)
 have hvl := hV.len
 have hags : ∀ i, ((againstF R rs).getD i []).length ≤ 1000000 := against_small (by omega)
 have hS0 : Sep NoB w w [(marksR []), (sl vr 2 R.length (pairs R)), (sl vu 3 rs.length (vtrips (runV lv rs))), (segsR false lv rs)] := sep_marks (sep_ro ⟨rfl, hm, rfl, hx.runs, rfl, ⟨hx.len, hx.segs⟩, trivial⟩)
 refine c_seq ?_
 refine c_region ?_
 refine stw hA0 (op_box hS0 rfl (hA0.ev rfl) (cs := [vr]) rfl) rfl rfl (by decide) ?_
 rintro a1 _ w3 ⟨b4, rfl, hS5⟩ hA2; clear hA0 hS0 a0
 refine stw hA2 (op_box hS5 rfl (hA2.ev rfl) (cs := [vu]) (isSl_cells (SlAt.isSl (hS5.sk 3 rfl)))) rfl rfl (by decide) ?_
 rintro a6 _ w8 ⟨b9, rfl, hS10⟩ hA7; clear hA2 hS5 a1
 refine st hA7 (op_assign rfl (evc _ _)) rfl rfl (by decide) fun a11 hA12 => ?_; clear hA7 a6
 refine st hA12 (op_assign rfl (evc _ _)) rfl rfl (by decide) fun a13 hA14 => ?_; clear hA12 a11
 refine wl_nil ?_
 refine then_n ?_
 refine c_seq ?_
 refine c_region ?_
 refine st hA14 (op_loadA rfl ty_33 (hA14.ev rfl) (hS10.bk 1 rfl) (l := [vr]) rfl rfl) rfl rfl (by decide) fun a15 hA16 => ?_; clear hA14 a13
 refine st hA16 (op_load1 rfl ty_35 (hA16.ev rfl) (hS10.bk 0 rfl) rfl) rfl rfl (by decide) fun a17 hA18 => ?_; clear hA16 a15
 refine stw hA18 (op_call rfl en_66 (ev2 (hA18.ev rfl) (hA18.ev rfl)) (enter_ok R rs lv vr vu _ (hm.step hS10.ext) (hx.step hS10.ext) (by omega) (by omega) he)) rfl rfl (by decide) ?_
 rintro a19 _ w21 ⟨bj24, bm25, rfl, hT22⟩ hA20; have hS23 := hS10.callS hT22 rfl; clear hT22 hA18 hS10 a17
 refine st hA20 (op_move rfl (hA20.ev rfl)) rfl rfl (by decide) fun a26 hA27 => ?_; clear hA20 a19
 refine st hA27 (op_extract rfl (hA27.ev rfl) rfl) rfl rfl (by decide) fun a28 hA29 => ?_; clear hA27 a26
 refine st hA29 (op_extract rfl (hA29.ev rfl) rfl) rfl rfl (by decide) fun a30 hA31 => ?_; clear hA29 a28
 refine st hA31 (op_assign rfl (hA31.ev rfl)) rfl rfl (by decide) fun a32 hA33 => ?_; clear hA31 a30
 refine st hA33 (op_assign rfl (hA33.ev rfl)) rfl rfl (by decide) fun a34 hA35 => ?_; clear hA33 a32
 refine wl_nil ?_
 refine then_n ?_
 refine c_seq ?_
 refine c_seq ?_
 have hA36 := hA35.as [(7, (Value.int .i64 0)), (6, (bptr bj24 0)), (3, (bptr b9 0))] rfl; clear hA35
 refine c_region ?_
 refine st hA36 (op_move rfl (hA36.ev rfl)) rfl rfl (by decide) fun a37 hA38 => ?_; clear hA36 a34
 refine st hA38 (op_neq rfl (hA38.ev rfl) (evc _ _)) rfl rfl (by decide) fun a39 hA40 => ?_; clear hA38 a37
 refine wl_nil ?_
 refine then_n ?_
 refine c_false hA40 rfl ?_
 refine c_skip ?_
 refine then_n ?_
 refine c_seq ?_
 refine c_region ?_
 refine stw hA40 (op_alloc hS23 rfl ze_38 (cs := [(Value.slice none 0 0)]) rfl) rfl rfl (by decide) ?_
 rintro a41 _ w43 ⟨b44, rfl, hS45⟩ hA42; clear hA40 hS23 a39
 refine wl_nil ?_
 refine then_n ?_
 refine c_seq ?_
 refine c_seq ?_
 refine c_region ?_
 refine st hA42 (op_move rfl (hA42.ev rfl)) rfl rfl (by decide) fun a46 hA47 => ?_; clear hA42 a41
 refine st hA47 (op_nilCheck rfl (hA47.ev rfl)) rfl rfl (by decide) fun a48 hA49 => ?_; clear hA47 a46
 refine st hA49 (op_field rfl fd_119_0 (hA49.ev rfl)) rfl rfl (by decide) fun a50 hA51 => ?_; clear hA49 a48
 refine st hA51 (op_loadA rfl ty_33 (hA51.ev rfl) (hS45.bk 1 rfl) (l := [vr]) rfl rfl) rfl rfl (by decide) fun a52 hA53 => ?_; clear hA51 a50
 refine stw hA53 (op_call rfl en_65 (ev1 (hA53.ev rfl)) (lists_ok _ _)) rfl rfl (by decide) ?_
 rintro a54 _ w56 ⟨bl59, rfl, hT57⟩ hA55; have hS58 := hS45.callS hT57 rfl; clear hT57 hA53 hS45 a52
 refine wl_nil ?_
 refine then_n ?_
 refine c_block ?_
 have hA60 := hA55.as [(29, (Value.func (.func 87) #[] #[(bptr bl59 0)])), (8, (bptr b44 0)), (3, (bptr b9 0))] rfl; clear hA55
 have hS61 := (hS58.nil_row 40 1).lst_nil; clear hS58
 have hS62 := hS61.nilR; clear hS61
 have hS63 : Sep NoB w w56 [(marksR []), nilR, (lstR [] []), (row (Value.slice none 0 0) 40 1 0 []), (blk bl59 33 [vr]), (blk b44 38 [(Value.slice none 0 0)]), (blk bj24 119 [vr, vu, (Value.map (some bm25))]), (memo bm25 (KA rs)), (blk b9 35 [vu]), (blk b4 33 [vr]), (sl vr 2 R.length (pairs R)), (sl vu 3 rs.length (vtrips (runV lv rs))), (segsR false lv rs)] := hS62.keep [9, 0, 1, 2, 3, 4, 5, 6, 7, 8, 10, 11, 12] (by decide) _ rfl rfl; clear hS62
 refine c_rangeG hA60 nilR rfl hS63 (hA60.ev rfl) en_87 ((listsF R).length) (fun k => #[.agg (ints ((listsF R).getD k [])).toArray]) (fun _ => rfl) [rob bl59 33 [vr], sl vr 2 R.length (pairs R)] (fun r hr => by simp only [List.mem_cons, List.not_mem_nil, or_false] at hr; rcases hr with rfl | rfl <;> rfl) (lists_it bl59 vr R hR _ rfl) (fun q L_ => ∃ vo_ : Value, ∃ ov_ : List Value, L_ = [(lstR ov_ ((againstF R rs).take q)), (row vo_ 40 1 ov_.length ov_), (blk bl59 33 [vr]), (blk b44 38 [vo_]), (blk bj24 119 [vr, vu, (Value.map (some bm25))]), (memo bm25 (KA rs)), (blk b9 35 [vu]), (blk b4 33 [vr]), (sl vr 2 R.length (pairs R)), (sl vu 3 rs.length (vtrips (runV lv rs))), (segsR false lv rs)]) (fun _ => False) none ⟨(Value.slice none 0 0), [], rfl⟩ (fun q L_ hI_ G_ W_ r1_ r2_ hW_ => by obtain ⟨vo_, ov_, rfl⟩ := hI_; exact (Sep.keep (hW_.to_ro (i := 5) rfl) [2, 5, 11] (by decide) _ rfl rfl)) (fun L_ hI_ => hI_.elim) ?_ ?_ (fun _ hc_ => by cases hc_)
 ·skip
  intro q hq L_ hL_ G72 hG73 l69 D70 rc71 a64 w65 ha68 hS66; obtain ⟨vo_, ov_, rfl⟩ := hL_
  have hA67 : Fr 63 [] [(30, (Value.agg (ints ((listsF R).getD q [])).toArray)), (29, (Value.func (.func 87) #[] #[(bptr bl59 0)])), (8, (bptr b44 0)), (3, (bptr b9 0))] a64 := by rw [ha68]; exact Fr.round1 hA60 (by decide)
  clear ha68 hS63
  have hlr := lists_rates hR hq; have hlr3 := hlr.1; have hol := hS66.lst_len 3 rfl; have hot : ((againstF R rs).take q).length ≤ q := List.length_take_le _ _
  refine c_region ?_
  refine stw hA67 (op_alloc hS66 rfl ze_104 (cs := [(Value.int .i64 0), (Value.int .i64 0), (Value.int .i64 0)]) rfl) rfl rfl (by decide) ?_
  rintro a74 _ w76 ⟨b77, rfl, hS78⟩ hA75; clear hA67 hS66 a64
  refine sts hA75 (op_store hS78 rfl ty_104 (hA75.ev rfl) (hA75.ev rfl) (i := 0) rfl (vs := (ints ((listsF R).getD q []))) rfl (lists_len3 hR hq).symm (ints_one _) (by decide)) rfl rfl ?_
  intro _ w79 hS80 hA82; have hS81 := hS80.blk_say (i := 0) rfl (cs' := (ints ((listsF R).getD q []))) (setFrom_all _ _ (Eq.symm (lists_len3 hR hq).symm)); clear hS80 hA75 hS78
  refine wl_nil ?_
  have hS83 : Sep NoB w w79 [(obR l69 (.loop (rc71 .ready none))), (marksR (D70 :: [])), G72, (blk b77 104 (ints ((listsF R).getD q []))), (lstR ov_ ((againstF R rs).take q)), (row vo_ 40 1 ov_.length ov_), (blk bl59 33 [vr]), (blk b44 38 [vo_]), (blk bj24 119 [vr, vu, (Value.map (some bm25))]), (memo bm25 (KA rs)), (blk b9 35 [vu]), (blk b4 33 [vr]), (sl vr 2 R.length (pairs R)), (sl vu 3 rs.length (vtrips (runV lv rs))), (segsR false lv rs)] := hS81.keep [1, 2, 3, 0, 4, 5, 6, 7, 8, 9, 10, 11, 12, 13, 14] (by decide) _ rfl rfl; clear hS81
  refine ⟨rfl, _, hS83, ?_⟩; intro w84 hS85; clear hS83
  refine c_block ?_
  refine c_seq ?_
  refine c_region ?_
  refine st hA82 (op_assign rfl (evc _ _)) rfl rfl (by decide) fun a86 hA87 => ?_; clear hA82 a74
  have hS88 := hS85.nil_row 3 1; clear hS85
  refine wl_nil ?_
  refine then_n ?_
  refine c_seq ?_
  refine c_seq ?_
  refine c_region ?_
  refine st hA87 (op_load1 rfl ty_35 (hA87.ev rfl) (hS88.bk 11 rfl) rfl) rfl rfl (by decide) fun a89 hA90 => ?_; clear hA87 a86
  refine st hA90 (op_lenS rfl un_35 (hA90.ev rfl) (hS88.sk 14 rfl)) rfl rfl (by decide) fun a91 hA92 => ?_; clear hA90 a89
  refine st hA92 (op_move rfl (evc _ _)) rfl rfl (by decide) fun a93 hA94 => ?_; clear hA92 a91
  refine wl_nil ?_
  refine then_n ?_
  refine c_block ?_
  have hA95 := hA94.as [(33, (Value.int .i64 0)), (32, (Value.int .i64 (rs.length : Int))), (31, vu), (10, (Value.slice none 0 0)), (9, (bptr b77 0)), (8, (bptr b44 0))] rfl; clear hA94
  refine c_loop (G := Nat) (fun (k : Nat) a_ w_ => ∃ v10_ : Value, Fr 63 [] [(33, (Value.int .i64 (k : Int))), (32, (Value.int .i64 (rs.length : Int))), (31, vu), (10, v10_), (9, (bptr b77 0)), (8, (bptr b44 0))] a_ ∧ Sep NoB w w_ [(row v10_ 3 1 ((agU rs ((listsF R).getD q []) k).length) (ints (agU rs ((listsF R).getD q []) k))), (obR l69 (.loop (rc71 .busy none))), (marksR (D70 :: [])), G72, (blk b77 104 (ints ((listsF R).getD q []))), (lstR ov_ ((againstF R rs).take q)), (row vo_ 40 1 ov_.length ov_), (blk bl59 33 [vr]), (blk b44 38 [vo_]), (blk bj24 119 [vr, vu, (Value.map (some bm25))]), (memo bm25 (KA rs)), (blk b9 35 [vu]), (blk b4 33 [vr]), (sl vr 2 R.length (pairs R)), (sl vu 3 rs.length (vtrips (runV lv rs))), (segsR false lv rs)] ∧ (k ≤ rs.length)) (fun k => rs.length - k) 0 ⟨(Value.slice none 0 0), hA95.as _ rfl, hS88, by omega⟩ ?_
  clear hA95 hS88 a93
  rintro k a96 w98 ⟨v10_, hA97, hS99, hk⟩
  have hagu := agU_len rs ((listsF R).getD q []) k
  refine c_seq ?_
  refine c_region ?_
  refine st hA97 (op_lss rfl (hA97.ev rfl) (hA97.ev rfl)) rfl rfl (by decide) fun a100 hA101 => ?_; clear hA97 a96
  refine wl_nil ?_
  refine then_n ?_
  refine c_seq ?_
  by_cases hb102 : (k : Int) < (rs.length : Int)
  ·skip
   rw [decide_eq_true hb102] at hA101
   have hrk := hV.runs k (by omega)
   refine c_true hA101 rfl ?_
   refine c_skip ?_
   refine then_n ?_
   refine c_seq ?_
   refine c_block ?_
   refine c_seq ?_
   refine c_region ?_
   refine st hA101 (op_move rfl (hA101.ev rfl)) rfl rfl (by decide) fun a103 hA104 => ?_; clear hA101 a100
   refine st hA104 (op_indexS rfl un_35 ty_96 (hA104.ev rfl) (i := k) (hA104.ev rfl) (hS99.sk 14 rfl) (by decide) (by omega)) rfl rfl (by decide) fun a105 hA106 => ?_; clear hA104 a103
   refine st hA106 (op_loadAE rfl ty_96 (hA106.ev rfl) (hS99.sk 14 rfl) (runs_all hx.len (by omega)) rfl (by decide)) rfl rfl (by decide) fun a107 hA108 => ?_; clear hA106 a105
   refine stw hA108 (op_alloc hS99 rfl ze_96 (cs := [(Value.slice none 0 0), (Value.int .i64 0), (Value.int .i64 0)]) rfl) rfl rfl (by decide) ?_
   rintro a109 _ w111 ⟨b112, rfl, hS113⟩ hA110; clear hA108 hS99 a107
   refine st hA110 (op_assign rfl (hA110.ev rfl)) rfl rfl (by decide) fun a114 hA115 => ?_; clear hA110 a109
   refine sts hA115 (op_store hS113 rfl ty_96 (hA115.ev rfl) (hA115.ev rfl) (i := 0) rfl (vs := [(lv.getD k nilS), (Value.int .i64 ((rs.getD k run0).lo)), (Value.int .i64 ((rs.getD k run0).hi))]) rfl rfl (all_c (SlAt.one ((hS113.ok 16 _ rfl).2 k (by omega))) (all_c rfl (all_c rfl all_n))) (Nat.le_of_ble_eq_true rfl)) rfl rfl ?_
   intro _ w116 hS117 hA118; clear hA115
   have hS119 : Sep NoB w w116 [(blk b112 96 [(lv.getD k nilS), (Value.int .i64 ((rs.getD k run0).lo)), (Value.int .i64 ((rs.getD k run0).hi))]), (row v10_ 3 1 ((agU rs ((listsF R).getD q []) k).length) (ints (agU rs ((listsF R).getD q []) k))), (obR l69 (.loop (rc71 .busy none))), (marksR (D70 :: [])), G72, (blk b77 104 (ints ((listsF R).getD q []))), (lstR ov_ ((againstF R rs).take q)), (row vo_ 40 1 ov_.length ov_), (blk bl59 33 [vr]), (blk b44 38 [vo_]), (blk bj24 119 [vr, vu, (Value.map (some bm25))]), (memo bm25 (KA rs)), (blk b9 35 [vu]), (blk b4 33 [vr]), (sl vr 2 R.length (pairs R)), (sl vu 3 rs.length (vtrips (runV lv rs))), (segsR false lv rs)] := hS117; clear hS117 hS113
   refine wl_nil ?_
   refine then_n ?_
   refine c_seq ?_
   refine c_region ?_
   refine st hA118 (op_loadA rfl ty_96 (hA118.ev rfl) (hS119.bk 0 rfl) (l := [(lv.getD k nilS), (Value.int .i64 ((rs.getD k run0).lo)), (Value.int .i64 ((rs.getD k run0).hi))]) rfl rfl) rfl rfl (by decide) fun a120 hA121 => ?_; clear hA118 a114
   refine st hA121 (op_loadA rfl ty_104 (hA121.ev rfl) (hS119.bk 5 rfl) (l := (ints ((listsF R).getD q []))) (drop_take_all _ _ (lists_len3 hR hq).symm) (lists_len3 hR hq).symm) rfl rfl (by decide) fun a122 hA123 => ?_; clear hA121 a120
   refine stw hA123 (op_call rfl en_70 (ev2 (hA123.ev rfl) (hA123.ev rfl)) (allows_ok (rs.getD k run0) _ ((listsF R).getD q []) R.length _ hrk.len hR.1 hlr hrk.segs ((hS119.ok 16 _ rfl).2 k (by omega)))) rfl rfl (by decide) ?_
   rintro a124 _ w126 ⟨rfl, hE127⟩ hA125; have hS128 := hS119.step hE127; clear hE127 hA123 hS119 a122
   refine st hA125 (op_not rfl (hA125.ev rfl)) rfl rfl (by decide) fun a129 hA130 => ?_; clear hA125 a124
   refine wl_nil ?_
   refine then_n ?_
   rcases Bool.eq_false_or_eq_true ((allowsB (rs.getD k run0) ((listsF R).getD q []))) with hb131 | hb131
   ·skip
    rw [hb131] at hA130
    refine c_false hA130 rfl ?_
    refine c_skip ?_
    refine blk_n ?_
    refine then_n ?_
    have hA132 := hA130.as [(33, (Value.int .i64 (k : Int))), (32, (Value.int .i64 (rs.length : Int))), (31, vu), (10, v10_), (9, (bptr b77 0)), (8, (bptr b44 0))] rfl; clear hA130
    refine c_region ?_
    refine st hA132 (op_add rfl (hA132.ev rfl) (evc _ _) (by omega) (by omega)) rfl rfl (by decide) fun a133 hA134 => ?_; clear hA132 a129
    refine st hA134 (op_move rfl (hA134.ev rfl)) rfl rfl (by decide) fun a135 hA136 => ?_; clear hA134 a133
    refine wl_nil ?_
    have hS137 : Sep NoB w w126 [(row v10_ 3 1 ((agU rs ((listsF R).getD q []) k).length) (ints (agU rs ((listsF R).getD q []) k))), (obR l69 (.loop (rc71 .busy none))), (marksR (D70 :: [])), G72, (blk b77 104 (ints ((listsF R).getD q []))), (lstR ov_ ((againstF R rs).take q)), (row vo_ 40 1 ov_.length ov_), (blk bl59 33 [vr]), (blk b44 38 [vo_]), (blk bj24 119 [vr, vu, (Value.map (some bm25))]), (memo bm25 (KA rs)), (blk b9 35 [vu]), (blk b4 33 [vr]), (sl vr 2 R.length (pairs R)), (sl vu 3 rs.length (vtrips (runV lv rs))), (segsR false lv rs)] := hS128.keep [1, 2, 3, 4, 5, 6, 7, 8, 9, 10, 11, 12, 13, 14, 15, 16] (by decide) _ rfl rfl; clear hS128
    exact then_n ⟨k + 1, ⟨v10_, hA136.as _ rfl, (hS137.row_say (i := 0) rfl (by rw [agU_n (by assumption)]) (by rw [agU_n (by assumption)])), by omega⟩, by omega⟩
   ·skip
    rw [hb131] at hA130
    refine c_true hA130 rfl ?_
    have hA138 := hA130.as [(11, (Value.int .i64 (k : Int))), (33, (Value.int .i64 (k : Int))), (32, (Value.int .i64 (rs.length : Int))), (31, vu), (10, v10_), (9, (bptr b77 0)), (8, (bptr b44 0))] rfl; clear hA130
    refine c_region ?_
    refine st hA138 (op_move rfl (hA138.ev rfl)) rfl rfl (by decide) fun a139 hA140 => ?_; clear hA138 a129
    refine st hA140 (op_move rfl (hA140.ev rfl)) rfl rfl (by decide) fun a141 hA142 => ?_; clear hA140 a139
    refine stw hA142 (op_buildSlice hS128 rfl (pv1 (hA142.ev rfl)) un_40 ty_3 ze_3 (by decide) (cs := [(Value.int .i64 (k : Int))]) (bs_3_1_0i _)) rfl rfl (by decide) ?_
    rintro a143 _ w145 ⟨b146, rfl, hS147⟩ hA144; clear hA142 hS128 a141
    refine stw hA144 (op_append hS147 rfl un_40 el_3 (hA144.ev rfl) (hA144.ev rfl) (i := 2) rfl (SlAt.of_blk (hS147.bk 0 rfl) rfl (Nat.le_of_ble_eq_true rfl)) rfl (by simp only [maxLen]; omega) (by omega)) rfl rfl (by decide) ?_
    intro a148 v151 w150 hS152 hA149
    have hS153 := hS152.row_say (i := 2) rfl (n' := ((agU rs ((listsF R).getD q []) k) ++ [(k : Int)]).length) (xs' := (ints ((agU rs ((listsF R).getD q []) k) ++ [(k : Int)]))) (by simp) (by simp [ints]); clear hS152 hA144 hS147 a143
    refine st hA149 (op_assign rfl (hA149.ev rfl)) rfl rfl (by decide) fun a154 hA155 => ?_; clear hA149 a148
    refine wl_nil ?_
    refine blk_n ?_
    refine then_n ?_
    refine c_region ?_
    refine st hA155 (op_add rfl (hA155.ev rfl) (evc _ _) (by omega) (by omega)) rfl rfl (by decide) fun a156 hA157 => ?_; clear hA155 a154
    refine st hA157 (op_move rfl (hA157.ev rfl)) rfl rfl (by decide) fun a158 hA159 => ?_; clear hA157 a156
    refine wl_nil ?_
    have hS160 : Sep NoB w w150 [(row v151 3 1 (((agU rs ((listsF R).getD q []) k) ++ [(k : Int)]).length) (ints ((agU rs ((listsF R).getD q []) k) ++ [(k : Int)]))), (obR l69 (.loop (rc71 .busy none))), (marksR (D70 :: [])), G72, (blk b77 104 (ints ((listsF R).getD q []))), (lstR ov_ ((againstF R rs).take q)), (row vo_ 40 1 ov_.length ov_), (blk bl59 33 [vr]), (blk b44 38 [vo_]), (blk bj24 119 [vr, vu, (Value.map (some bm25))]), (memo bm25 (KA rs)), (blk b9 35 [vu]), (blk b4 33 [vr]), (sl vr 2 R.length (pairs R)), (sl vu 3 rs.length (vtrips (runV lv rs))), (segsR false lv rs)] := hS153.keep [2, 3, 4, 5, 6, 7, 8, 9, 10, 11, 12, 13, 14, 15, 16, 17] (by decide) _ rfl rfl; clear hS153
    exact then_n ⟨k + 1, ⟨v151, hA159.as _ rfl, (hS160.row_say (i := 0) rfl (by rw [agU_y (by assumption)]) (by rw [agU_y (by assumption)])), by omega⟩, by omega⟩
  ·skip
   rw [decide_eq_false hb102] at hA101
   refine c_false hA101 rfl ?_
   refine c_exit ?_
   refine then_exit ?_
   refine then_exit ?_
   refine blk_hit ?_
   refine then_n ?_
   refine c_region ?_
   refine st hA101 (op_load1 rfl ty_38 (hA101.ev rfl) (hS99.bk 8 rfl) rfl) rfl rfl (by decide) fun a161 hA162 => ?_; clear hA101 a100
   refine st hA162 (op_move rfl (hA162.ev rfl)) rfl rfl (by decide) fun a163 hA164 => ?_; clear hA162 a161
   refine stw hA164 (op_buildSlice hS99 rfl (pv1 (hA164.ev rfl)) un_38 ty_40 ze_40 (by decide) (cs := [v10_]) (bs_40_1_0s _ (SlAt.isSl (SlAt.of_row (hS99.ok_row 0 rfl))))) rfl rfl (by decide) ?_
   rintro a165 _ w167 ⟨b168, rfl, hS169⟩ hA166; clear hA164 hS99 a163
   refine stw hA166 (op_append hS169 rfl un_38 el_40 (hA166.ev rfl) (hA166.ev rfl) (i := 7) rfl (SlAt.of_blk (hS169.bk 0 rfl) rfl (Nat.le_of_ble_eq_true rfl)) (all_c (SlAt.one (SlAt.of_row (hS169.ok_row 1 rfl))) all_n) (by simp only [maxLen]; omega) (by omega)) rfl rfl (by decide) ?_
   intro a170 v173 w172 hS174 hA171
   have hS175 := hS174.row_say (i := 7) rfl (n' := (ov_ ++ [v10_]).length) (xs' := (ov_ ++ [v10_])) (by simp) rfl; clear hS174 hA166 hS169 a165
   refine sts hA171 (op_store hS175 rfl ty_38 (hA171.ev rfl) (hA171.ev rfl) (i := 9) rfl (vs := [v173]) (isSl_cells (SlAt.isSl (SlAt.of_row (hS175.ok_row 7 rfl)))) rfl (all_c (SlAt.one (SlAt.of_row (hS175.ok_row 7 rfl))) all_n) (Nat.le_of_ble_eq_true rfl)) rfl rfl ?_
   intro _ w176 hS177 hA178; clear hA171
   have hS179 : Sep NoB w w176 [(blk b168 40 [v10_]), (row v10_ 3 1 ((agU rs ((listsF R).getD q []) k).length) (ints (agU rs ((listsF R).getD q []) k))), (obR l69 (.loop (rc71 .busy none))), (marksR (D70 :: [])), G72, (blk b77 104 (ints ((listsF R).getD q []))), (lstR ov_ ((againstF R rs).take q)), (row v173 40 1 ((ov_ ++ [v10_]).length) (ov_ ++ [v10_])), (blk bl59 33 [vr]), (blk b44 38 [v173]), (blk bj24 119 [vr, vu, (Value.map (some bm25))]), (memo bm25 (KA rs)), (blk b9 35 [vu]), (blk b4 33 [vr]), (sl vr 2 R.length (pairs R)), (sl vu 3 rs.length (vtrips (runV lv rs))), (segsR false lv rs)] := hS177; clear hS177 hS175
   refine wl_nil ?_
   refine blk_n ?_
   have hS180 := hS179.row_say (i := 1) rfl (n' := (agU rs ((listsF R).getD q []) rs.length).length) (xs' := ints (agU rs ((listsF R).getD q []) rs.length)) (by rw [show k = rs.length by omega]) (by rw [show k = rs.length by omega]); clear hS179
   have hS181 : Sep NoB w w176 [(row v10_ 3 1 ((agU rs ((listsF R).getD q []) rs.length).length) (ints (agU rs ((listsF R).getD q []) rs.length))), (lstR ov_ ((againstF R rs).take q)), (blk b168 40 [v10_]), (obR l69 (.loop (rc71 .busy none))), (marksR (D70 :: [])), G72, (blk b77 104 (ints ((listsF R).getD q []))), (row v173 40 1 ((ov_ ++ [v10_]).length) (ov_ ++ [v10_])), (blk bl59 33 [vr]), (blk b44 38 [v173]), (blk bj24 119 [vr, vu, (Value.map (some bm25))]), (memo bm25 (KA rs)), (blk b9 35 [vu]), (blk b4 33 [vr]), (sl vr 2 R.length (pairs R)), (sl vu 3 rs.length (vtrips (runV lv rs))), (segsR false lv rs)] := hS180.keep [1, 6, 0, 2, 3, 4, 5, 7, 8, 9, 10, 11, 12, 13, 14, 15, 16] (by decide) _ rfl rfl; clear hS180
   have hS182 := hS181.lst_snoc; clear hS181
   have hS183 : Sep NoB w w176 [(obR l69 (.loop (rc71 .busy none))), (marksR (D70 :: [])), G72, (lstR (ov_ ++ [v10_]) ((againstF R rs).take q ++ [(agU rs ((listsF R).getD q []) rs.length)])), (row v173 40 1 ((ov_ ++ [v10_]).length) (ov_ ++ [v10_])), (blk bl59 33 [vr]), (blk b44 38 [v173]), (blk bj24 119 [vr, vu, (Value.map (some bm25))]), (memo bm25 (KA rs)), (blk b9 35 [vu]), (blk b4 33 [vr]), (sl vr 2 R.length (pairs R)), (sl vu 3 rs.length (vtrips (runV lv rs))), (segsR false lv rs)] := hS182.keep [2, 3, 4, 0, 6, 7, 8, 9, 10, 11, 12, 13, 14, 15] (by decide) _ rfl rfl; clear hS182
   exact re_n ⟨_, rfl, ⟨v173, (ov_ ++ [v10_]), rfl⟩⟩ (hS183.lst_say (i := 3) rfl (against_succ hq))
 intro L_ hL_ D188 a184 w185 hA187 hS186; obtain ⟨vo_, ov_, rfl⟩ := hL_; clear hA60 hS63
 have hS189 := hS186.lst_say (i := 2) (ls' := (againstF R rs)) rfl (List.take_of_length_le (by rw [against_len]; exact Nat.le_refl _)); clear hS186
 have hol := hS189.lst_len 2 rfl; have hagl := against_len R rs
 refine blk_n ?_
 refine then_n ?_
 refine c_seq ?_
 refine c_region ?_
 refine stw hA187 (op_alloc hS189 rfl ze_40 (cs := [(Value.slice none 0 0)]) rfl) rfl rfl (by decide) ?_
 rintro a190 _ w192 ⟨b193, rfl, hS194⟩ hA191; clear hA187 hS189 a184
 refine wl_nil ?_
 refine then_n ?_
 refine c_seq ?_
 refine c_region ?_
 refine stw hA191 (op_alloc hS194 rfl ze_120 (cs := [Value.nilFunc]) rfl) rfl rfl (by decide) ?_
 rintro a195 _ w197 ⟨b198, rfl, hS199⟩ hA196; clear hA191 hS194 a190
 refine wl_nil ?_
 refine then_n ?_
 refine c_seq ?_
 refine c_region ?_
 refine st hA196 (op_makeFunc rfl ev0 (ev4 (hA196.ev rfl) (hA196.ev rfl) (hA196.ev rfl) (hA196.ev rfl))) rfl rfl (by decide) fun a200 hA201 => ?_; clear hA196 a195
 refine sts hA201 (op_store hS199 rfl ty_120 (hA201.ev rfl) (hA201.ev rfl) (i := 0) rfl (vs := [(Value.func (.func 71) #[] #[(bptr b193 0), (bptr b44 0), (bptr b9 0), (bptr b198 0)])]) rfl rfl rfl (Nat.le_of_ble_eq_true rfl)) rfl rfl ?_
 intro _ w202 hS203 hA204; clear hA201
 have hS205 : Sep NoB w w202 [(blk b198 120 [(Value.func (.func 71) #[] #[(bptr b193 0), (bptr b44 0), (bptr b9 0), (bptr b198 0)])]), (blk b193 40 [(Value.slice none 0 0)]), (marksR (D188 :: [])), nilR, (lstR ov_ (againstF R rs)), (row vo_ 40 1 ov_.length ov_), (blk bl59 33 [vr]), (blk b44 38 [vo_]), (blk bj24 119 [vr, vu, (Value.map (some bm25))]), (memo bm25 (KA rs)), (blk b9 35 [vu]), (blk b4 33 [vr]), (sl vr 2 R.length (pairs R)), (sl vu 3 rs.length (vtrips (runV lv rs))), (segsR false lv rs)] := hS203; clear hS203 hS199
 refine wl_nil ?_
 refine then_n ?_
 refine c_seq ?_
 refine c_seq ?_
 refine c_region ?_
 refine st hA204 (op_load1 rfl ty_35 (hA204.ev rfl) (hS205.bk 10 rfl) rfl) rfl rfl (by decide) fun a206 hA207 => ?_; clear hA204 a200
 refine st hA207 (op_lenS rfl un_35 (hA207.ev rfl) (hS205.sk 13 rfl)) rfl rfl (by decide) fun a208 hA209 => ?_; clear hA207 a206
 refine st hA209 (op_add rfl (hA209.ev rfl) (evc _ _) (by omega) (by omega)) rfl rfl (by decide) fun a210 hA211 => ?_; clear hA209 a208
 refine st hA211 (op_move rfl (evc _ _)) rfl rfl (by decide) fun a212 hA213 => ?_; clear hA211 a210
 refine wl_nil ?_
 refine then_n ?_
 refine c_block ?_
 have hS214 := hS205.to_ro (i := 0) rfl; clear hS205
 have hS215 := hS214.to_ro (i := 7) rfl; clear hS214
 have hS216 := hS215.to_ro (i := 10) rfl; clear hS215
 have hS217 := (hS216.row_sl (i := 5) rfl).lst_ro (i := 4) rfl; clear hS216
 have hS218 := hS217.nil_row 3 1; clear hS217
 have hA219 := hA213.as [(55, (Value.int .i64 0)), (54, (Value.int .i64 ((rs.length : Int) + 1))), (14, (bptr b198 0)), (13, (bptr b193 0))] rfl; clear hA213
 refine c_loop (G := Nat) (fun (k : Nat) a_ w_ => ∃ vb_ : Value, ∃ best_ : List Int, Fr 63 (marks (D188 :: [])) [(55, (Value.int .i64 (k : Int))), (54, (Value.int .i64 ((rs.length : Int) + 1))), (14, (bptr b198 0)), (13, (bptr b193 0))] a_ ∧ Sep NoB w w_ [(row vb_ 3 1 best_.length (ints best_)), (rob b198 120 [(Value.func (.func 71) #[] #[(bptr b193 0), (bptr b44 0), (bptr b9 0), (bptr b198 0)])]), (blk b193 40 [vb_]), (marksR (D188 :: [])), nilR, (lstRo ov_ (againstF R rs)), (sl vo_ 1 ov_.length ov_), (blk bl59 33 [vr]), (rob b44 38 [vo_]), (blk bj24 119 [vr, vu, (Value.map (some bm25))]), (memo bm25 (KA rs)), (rob b9 35 [vu]), (blk b4 33 [vr]), (sl vr 2 R.length (pairs R)), (sl vu 3 rs.length (vtrips (runV lv rs))), (segsR false lv rs)] ∧ (k ≤ rs.length + 1) ∧ ((allUpto rs.length k).any (okB (againstF R rs)) = false)) (fun k => rs.length + 1 - k) 0 ⟨(Value.slice none 0 0), [], hA219.as _ rfl, hS218, by omega, rfl⟩ ?_
 clear hA219 hS218 a212
 rintro k a220 w222 ⟨vb_, best_, hA221, hS223, hk1, hno⟩
 refine c_seq ?_
 refine c_region ?_
 refine st hA221 (op_lss rfl (hA221.ev rfl) (hA221.ev rfl)) rfl rfl (by decide) fun a224 hA225 => ?_; clear hA221 a220
 refine wl_nil ?_
 refine then_n ?_
 refine c_seq ?_
 by_cases hb226 : (k : Int) < ((rs.length : Int) + 1)
 ·skip
  rw [decide_eq_true hb226] at hA225
  refine c_true hA225 rfl ?_
  refine c_skip ?_
  refine then_n ?_
  refine c_seq ?_
  refine c_block ?_
  refine c_seq ?_
  refine c_region ?_
  refine st hA225 (op_move rfl (hA225.ev rfl)) rfl rfl (by decide) fun a227 hA228 => ?_; clear hA225 a224
  refine st hA228 (op_assign rfl (hA228.ev rfl)) rfl rfl (by decide) fun a229 hA230 => ?_; clear hA228 a227
  refine wl_nil ?_
  refine then_n ?_
  refine c_seq ?_
  refine c_region ?_
  refine st hA230 (op_load1 rfl ty_120 (hA230.ev rfl) (hS223.rk 1 rfl) rfl) rfl rfl (by decide) fun a231 hA232 => ?_; clear hA230 a229
  refine st hA232 (op_move rfl (hA232.ev rfl)) rfl rfl (by decide) fun a233 hA234 => ?_; clear hA232 a231
  have hS238 := hS223.nil_row 3 1; clear hS223
  have hS239 : Sep NoB w w222 [(row (Value.slice none 0 0) 3 1 0 []), (blk b193 40 [vb_]), (row vb_ 3 1 best_.length (ints best_)), (rob b198 120 [(Value.func (.func 71) #[] #[(bptr b193 0), (bptr b44 0), (bptr b9 0), (bptr b198 0)])]), (rob b44 38 [vo_]), (rob b9 35 [vu]), (sl vo_ 1 ov_.length ov_), (lstRo ov_ (againstF R rs)), (sl vu 3 rs.length (vtrips (runV lv rs))), (marksR (D188 :: [])), nilR, (blk bl59 33 [vr]), (blk bj24 119 [vr, vu, (Value.map (some bm25))]), (memo bm25 (KA rs)), (blk b4 33 [vr]), (sl vr 2 R.length (pairs R)), (segsR false lv rs)] := hS238.keep [0, 3, 1, 2, 9, 12, 7, 6, 15, 4, 5, 8, 10, 11, 13, 14, 16] (by decide) _ rfl rfl; clear hS238
  refine stw hA234 (op_callv rfl (hA234.ev rfl) en_71 (ev3 (evc _ _) (evc _ _) (hA234.ev rfl)) (leave_ok b193 b44 b9 b198 vo_ vu ov_ lv (againstF R rs) rs hx.len (by rw [hagl]; omega) hags (by omega) k [] 0 _ _ _ _ (ownX [(row (Value.slice none 0 0) 3 1 0 []), (blk b193 40 [vb_]), (row vb_ 3 1 best_.length (ints best_)), (rob b198 120 [(Value.func (.func 71) #[] #[(bptr b193 0), (bptr b44 0), (bptr b9 0), (bptr b198 0)])]), (rob b44 38 [vo_]), (rob b9 35 [vu]), (sl vo_ 1 ov_.length ov_), (lstRo ov_ (againstF R rs)), (sl vu 3 rs.length (vtrips (runV lv rs)))]) (by simp only [List.length_nil]; omega) (Sep.enterG (A := [(row (Value.slice none 0 0) 3 1 0 []), (blk b193 40 [vb_]), (row vb_ 3 1 best_.length (ints best_)), (rob b198 120 [(Value.func (.func 71) #[] #[(bptr b193 0), (bptr b44 0), (bptr b9 0), (bptr b198 0)])]), (rob b44 38 [vo_]), (rob b9 35 [vu]), (sl vo_ 1 ov_.length ov_), (lstRo ov_ (againstF R rs)), (sl vu 3 rs.length (vtrips (runV lv rs)))]) (B := [(marksR (D188 :: [])), nilR, (blk bl59 33 [vr]), (blk bj24 119 [vr, vu, (Value.map (some bm25))]), (memo bm25 (KA rs)), (blk b4 33 [vr]), (sl vr 2 R.length (pairs R)), (segsR false lv rs)]) hS239))) rfl rfl (by decide) ?_
  rintro a235 _ w237 ⟨rfl, vb241, best242, hf243, hT240⟩ hA236; clear hA234 a233
  have hS244 : Sep NoB w w237 [(row (Value.slice none 0 0) 3 1 0 []), (blk b193 40 [vb241]), (row vb241 3 1 best242.length (ints best242)), (rob b198 120 [(Value.func (.func 71) #[] #[(bptr b193 0), (bptr b44 0), (bptr b9 0), (bptr b198 0)])]), (rob b44 38 [vo_]), (rob b9 35 [vu]), (sl vo_ 1 ov_.length ov_), (lstRo ov_ (againstF R rs)), (sl vu 3 rs.length (vtrips (runV lv rs))), (marksR (D188 :: [])), nilR, (blk bl59 33 [vr]), (blk bj24 119 [vr, vu, (Value.map (some bm25))]), (memo bm25 (KA rs)), (blk b4 33 [vr]), (sl vr 2 R.length (pairs R)), (segsR false lv rs)] := Sep.callG (A := [(row (Value.slice none 0 0) 3 1 0 []), (blk b193 40 [vb_]), (row vb_ 3 1 best_.length (ints best_)), (rob b198 120 [(Value.func (.func 71) #[] #[(bptr b193 0), (bptr b44 0), (bptr b9 0), (bptr b198 0)])]), (rob b44 38 [vo_]), (rob b9 35 [vu]), (sl vo_ 1 ov_.length ov_), (lstRo ov_ (againstF R rs)), (sl vu 3 rs.length (vtrips (runV lv rs)))]) (B := [(marksR (D188 :: [])), nilR, (blk bl59 33 [vr]), (blk bj24 119 [vr, vu, (Value.map (some bm25))]), (memo bm25 (KA rs)), (blk b4 33 [vr]), (sl vr 2 R.length (pairs R)), (segsR false lv rs)]) hS239 hT240 (lentOk_at ⟨.inl rfl, .inl rfl, .inl rfl, .inr ⟨3, rfl⟩, .inr ⟨4, rfl⟩, .inr ⟨5, rfl⟩, .inr ⟨6, rfl⟩, .inr ⟨7, rfl⟩, .inr ⟨8, rfl⟩, trivial⟩); clear hT240 hS239
  refine wl_nil ?_
  refine then_n ?_
  rcases Bool.eq_false_or_eq_true ((leaveB rs.length (againstF R rs) k [] 0)) with hb245 | hb245
  ·skip
   rw [hb245] at hA236
   refine c_true hA236 rfl ?_
   refine c_exit ?_
   refine blk_miss (by decide) ?_
   refine then_exit ?_
   refine then_exit ?_
   refine blk_hit ?_
   refine then_n ?_
   refine c_seq ?_
   have hA246 := hA236.as [(13, (bptr b193 0))] rfl; clear hA236
   refine c_region ?_
   refine st hA246 (op_load1 rfl ty_40 (hA246.ev rfl) (hS244.bk 1 rfl) rfl) rfl rfl (by decide) fun a247 hA248 => ?_; clear hA246 a235
   refine st hA248 (op_assign rfl (hA248.ev rfl)) rfl rfl (by decide) fun a249 hA250 => ?_; clear hA248 a247
   refine st hA250 (op_assign rfl (evc _ _)) rfl rfl (by decide) fun a251 hA252 => ?_; clear hA250 a249
   refine wl_nil ?_
   refine then_n ?_
   refine c_ret ?_
   have hS253 : Sep NoB w w237 [(marksR (D188 :: [])), (row (Value.slice none 0 0) 3 1 0 []), (blk b193 40 [vb241]), (row vb241 3 1 best242.length (ints best242)), (rob b198 120 [(Value.func (.func 71) #[] #[(bptr b193 0), (bptr b44 0), (bptr b9 0), (bptr b198 0)])]), (rob b44 38 [vo_]), (rob b9 35 [vu]), (sl vo_ 1 ov_.length ov_), (lstRo ov_ (againstF R rs)), (sl vu 3 rs.length (vtrips (runV lv rs))), nilR, (blk bl59 33 [vr]), (blk bj24 119 [vr, vu, (Value.map (some bm25))]), (memo bm25 (KA rs)), (blk b4 33 [vr]), (sl vr 2 R.length (pairs R)), (segsR false lv rs)] := hS244.keep [9, 0, 1, 2, 3, 4, 5, 6, 7, 8, 10, 11, 12, 13, 14, 15, 16] (by decide) _ rfl rfl; clear hS244
   refine fin_runM hA252 (.inl rfl) hS253 ?_
   intro w254 hS255; clear hS253
   refine ⟨_, (run_results2 hA252 rfl (.tmp rfl) (.tmp rfl)), ?_⟩
   rw [doubt_found (by omega) hno (hf243 (by assumption))]
   exact ⟨_, rfl, hS255.keep [2] (by decide) _ rfl rfl⟩
  ·skip
   rw [hb245] at hA236
   refine c_false hA236 rfl ?_
   refine c_skip ?_
   refine blk_n ?_
   refine then_n ?_
   have hA256 := hA236.as [(55, (Value.int .i64 (k : Int))), (54, (Value.int .i64 ((rs.length : Int) + 1))), (14, (bptr b198 0)), (13, (bptr b193 0))] rfl; clear hA236
   refine c_region ?_
   refine st hA256 (op_add rfl (hA256.ev rfl) (evc _ _) (by omega) (by omega)) rfl rfl (by decide) fun a257 hA258 => ?_; clear hA256 a235
   refine st hA258 (op_move rfl (hA258.ev rfl)) rfl rfl (by decide) fun a259 hA260 => ?_; clear hA258 a257
   refine wl_nil ?_
   have hS261 : Sep NoB w w237 [(row vb241 3 1 best242.length (ints best242)), (rob b198 120 [(Value.func (.func 71) #[] #[(bptr b193 0), (bptr b44 0), (bptr b9 0), (bptr b198 0)])]), (blk b193 40 [vb241]), (marksR (D188 :: [])), nilR, (lstRo ov_ (againstF R rs)), (sl vo_ 1 ov_.length ov_), (blk bl59 33 [vr]), (rob b44 38 [vo_]), (blk bj24 119 [vr, vu, (Value.map (some bm25))]), (memo bm25 (KA rs)), (rob b9 35 [vu]), (blk b4 33 [vr]), (sl vr 2 R.length (pairs R)), (sl vu 3 rs.length (vtrips (runV lv rs))), (segsR false lv rs)] := hS244.keep [2, 3, 1, 9, 10, 7, 6, 11, 4, 12, 13, 5, 14, 15, 8, 16] (by decide) _ rfl rfl; clear hS244
   exact then_n ⟨k + 1, ⟨vb241, best242, hA260.as _ rfl, hS261, by omega, all_go hno (by assumption)⟩, by omega⟩
 ·skip
  rw [decide_eq_false hb226] at hA225
  refine c_false hA225 rfl ?_
  refine c_exit ?_
  refine then_exit ?_
  refine then_exit ?_
  refine blk_hit ?_
  refine then_n ?_
  refine c_seq ?_
  refine c_region ?_
  refine st hA225 (op_load1 rfl ty_40 (hA225.ev rfl) (hS223.bk 2 rfl) rfl) rfl rfl (by decide) fun a262 hA263 => ?_; clear hA225 a224
  refine st hA263 (op_assign rfl (hA263.ev rfl)) rfl rfl (by decide) fun a264 hA265 => ?_; clear hA263 a262
  refine st hA265 (op_assign rfl (evc _ _)) rfl rfl (by decide) fun a266 hA267 => ?_; clear hA265 a264
  refine wl_nil ?_
  refine then_n ?_
  refine c_ret ?_
  have hS268 : Sep NoB w w222 [(marksR (D188 :: [])), (row vb_ 3 1 best_.length (ints best_)), (rob b198 120 [(Value.func (.func 71) #[] #[(bptr b193 0), (bptr b44 0), (bptr b9 0), (bptr b198 0)])]), (blk b193 40 [vb_]), nilR, (lstRo ov_ (againstF R rs)), (sl vo_ 1 ov_.length ov_), (blk bl59 33 [vr]), (rob b44 38 [vo_]), (blk bj24 119 [vr, vu, (Value.map (some bm25))]), (memo bm25 (KA rs)), (rob b9 35 [vu]), (blk b4 33 [vr]), (sl vr 2 R.length (pairs R)), (sl vu 3 rs.length (vtrips (runV lv rs))), (segsR false lv rs)] := hS223.keep [3, 0, 1, 2, 4, 5, 6, 7, 8, 9, 10, 11, 12, 13, 14, 15] (by decide) _ rfl rfl; clear hS223
  refine fin_runM hA267 (.inl rfl) hS268 ?_
  intro w269 hS270; clear hS268
  refine ⟨_, (run_results2 hA267 rfl (.tmp rfl) (.tmp rfl)), ?_⟩
  exact (all_not hmp (by omega) hno).elim
end Go.Proofs.Ytkkglkdnnfegkaa
