/-
  The tables of a book by the scales that they convert: what the map of a bench holds.
  One pass over the tables, in the order of the scales that they lead to, and from: what is left to do.
  How the program finds the spans: the first ranges reading by reading, then pass by pass.
  Books built in memory: slices of slices, one more; tables and machines as one thing.
-/
import Derived.Test.YtohgladndklciaaBc
import Derived.Test.YtohgladndklciaaEngb
import Derived.Test.YtohgladndklciaaEnga
set_option linter.unusedSimpArgs false
set_option linter.unusedVariables false
namespace Go.Proofs.Ytohgladndklciaa
open Go.RowKit Go.Shelf Go.Eng Go.Hard
theorem ty_25 : tyK Try.prog 25 = some (true, 3) := by kernel_rfl
theorem en_21 : ∀ args w, (callFunc 21 args).run Try.prog w = .ok (.enter 21 args) w := enters_of Try.func21 (by kernel_rfl) rfl
theorem en_32 : ∀ args w, (callFunc 32 args).run Try.prog w = .ok (.enter 32 args) w := enters_of Try.func32 (by kernel_rfl) rfl
theorem en_67 : ∀ args w, (callFunc 67 args).run Try.prog w = .ok (.enter 67 args) w := enters_of Try.func67 (by kernel_rfl) rfl
theorem en_68 : ∀ args w, (callFunc 68 args).run Try.prog w = .ok (.enter 68 args) w := enters_of Try.func68 (by kernel_rfl) rfl
theorem bd_30_  (w : World) : (Instr.build 30 #[]).run Try.prog w = .ok (.agg #[(Value.int .i64 0), (Value.int .i64 0)]) w := by kernel_rfl
theorem en_49 : ∀ args w, (callFunc 49 args).run Try.prog w = .ok (.enter 49 args) w := enters_of Try.func49 (by kernel_rfl) rfl
theorem en_50 : ∀ args w, (callFunc 50 args).run Try.prog w = .ok (.enter 50 args) w := enters_of Try.func50 (by kernel_rfl) rfl
theorem ze_103 : (Try.prog.info? 103).bind (·.zero) = some (Value.agg #[(Value.int .i64 0), (Value.slice none 0 0)]) := by kernel_rfl
theorem bs_3_1_0i (x0_0 : Int) : Instr.fill (fun i => some (i * 1, 1)) ((Array.range (1 * 1)).map ((Value.int .i64 0).cells[· % (Value.int .i64 0).cells.size]!)) [(0, (.int .i64 x0_0))] = some (([(.int .i64 x0_0)] : List Value).toArray) := by kernel_rfl
theorem el_3 : elK Try.prog 3 = some ((Value.int .i64 0), 1, 8) := by kernel_rfl
set_option maxHeartbeats 4000000 in
theorem Bias_ok (b : BookD) (vt vm : Value) (lr lb lk : Nat → Value) (w : World) (hT : TabsAt w vt lr lb b.tabs) (hM : MacsAt w vm lk b.macs) (hth : ThinB b) (i : Int) :
  Calls Try.prog 33 #[(Value.agg #[(Value.int .i64 b.scales), vt, vm]), (Value.int .i64 i)] w (Ret fun v w' => v = .tuple #[.agg #[.int .i64 (biasR b i).1, .int .i64 (biasR b i).2], .int .i64 (biasE b i)] ∧ Ext NoB w w') := by
 refine calls_enter Try.func33 rfl fun a0 hA0 => ?_
 replace hA0 : Fr 32 [] [(0, (Value.agg #[(Value.int .i64 b.scales), vt, vm])), (1, (Value.int .i64 i))] a0 := hA0
 have hml9 := hth.ml
 have hS0 : Sep NoB w w [(tabsR false vt lr lb b.tabs), (macsR false vm lk b.macs)] := sep_ro ⟨rfl, hT, rfl, hM, trivial⟩
 refine m2 ?_
 refine s2 hA0 (op_box hS0 rfl (hA0.ev rfl) (cs := [(Value.int .i64 b.scales), vt, vm]) rfl) ?_
 rintro a1 _ w3 ⟨b4, rfl, hS5⟩ hA2; clear hA0 hS0 a0
 refine s2 hA2 (op_alloc hS5 rfl ze_30 (cs := [(Value.int .i64 0), (Value.int .i64 0)]) rfl) ?_
 rintro a6 _ w8 ⟨b9, rfl, hS10⟩ hA7; clear hA2 hS5 a1
 refine s1 hA7 (op_assign rfl (evc _ _)) fun a11 hA12 => ?_; clear hA7 a6
 refine n2 ?_
 refine m2 ?_
 refine s1 hA12 (op_loadA rfl ty_37 (hA12.ev rfl) (hS10.bk 1 rfl) (l := [(Value.int .i64 b.scales), vt, vm]) rfl rfl) fun a13 hA14 => ?_; clear hA12 a11
 refine s2 hA14 (op_call rfl en_32 (ev1 (hA14.ev rfl)) (check_book b vt vm lr lb lk _ (tabs_at (hS10.ok 2 _ rfl)) (macs_at (hS10.ok 3 _ rfl)) hth)) ?_
 rintro a15 _ w17 ⟨rfl, hE18⟩ hA16; have hS19 := hS10.step hE18; clear hE18 hA14 hS10 a13
 refine s1 hA16 (op_assign rfl (hA16.ev rfl)) fun a20 hA21 => ?_; clear hA16 a15
 refine n4 ?_
 refine s1 hA21 (op_move rfl (hA21.ev rfl)) fun a22 hA23 => ?_; clear hA21 a20
 refine s1 hA23 (op_neq rfl (hA23.ev rfl) (evc _ _)) fun a24 hA25 => ?_; clear hA23 a22
 refine n1 ?_
 by_cases hb26 : (checkF b) = 0
 ·skip
  rw [decide_eq_true hb26] at hA25
  refine c_false hA25 rfl ?_
  refine c_skip ?_
  refine then_n ?_
  refine c_seq ?_
  refine c_seq ?_
  have hA27 := hA25.as [(4, (bptr b9 0)), (2, (bptr b4 0)), (1, (Value.int .i64 i))] rfl; clear hA25
  refine c_region ?_
  refine s1 hA27 (op_move rfl (hA27.ev rfl)) fun a28 hA29 => ?_; clear hA27 a24
  refine s1 hA29 (op_field rfl fd_37_2 (hA29.ev rfl)) fun a30 hA31 => ?_; clear hA29 a28
  refine s1 hA31 (op_load1 rfl ty_35 (hA31.ev rfl) (hS19.bk 1 rfl) rfl) fun a32 hA33 => ?_; clear hA31 a30
  refine s1 hA33 (op_lenS rfl un_35 (hA33.ev rfl) (macs_at (hS19.ok 3 _ rfl)).macs) fun a34 hA35 => ?_; clear hA33 a32
  refine s1 hA35 (op_sub rfl (hA35.ev rfl) (evc _ _) (by omega) (by omega)) fun a36 hA37 => ?_; clear hA35 a34
  refine s2 hA37 (op_call rfl en_47 (ev3 (hA37.ev rfl) (evc _ _) (hA37.ev rfl)) (within_ok _ _ _ _)) ?_
  rintro a38 _ W_ ⟨rfl, hW_⟩ hA39; have hW2_ := hW_.symm; subst hW2_; clear hW_ hA37 a36
  refine s1 hA39 (op_not rfl (hA39.ev rfl)) fun a41 hA42 => ?_; clear hA39 a38
  refine n1 ?_
  rcases Bool.eq_false_or_eq_true ((inB i 0 ((b.macs.length : Int) - 1))) with hb43 | hb43
  ·skip
   rw [hb43] at hA42
   have hib := inB_iff.1 hb43
   refine c_false hA42 rfl ?_
   refine c_skip ?_
   refine then_n ?_
   refine c_seq ?_
   have hA44 := hA42.as [(4, (bptr b9 0)), (2, (bptr b4 0)), (1, (Value.int .i64 i))] rfl; clear hA42
   refine c_region ?_
   refine s1 hA44 (op_field rfl fd_37_2 (hA44.ev rfl)) fun a45 hA46 => ?_; clear hA44 a41
   refine s1 hA46 (op_load1 rfl ty_35 (hA46.ev rfl) (hS19.bk 1 rfl) rfl) fun a47 hA48 => ?_; clear hA46 a45
   refine s1 hA48 (op_move rfl (hA48.ev rfl)) fun a49 hA50 => ?_; clear hA48 a47
   refine s1 hA50 (op_indexS rfl un_35 ty_103 (hA50.ev rfl) (i := i.toNat) ((hA50.ev rfl).trans (int_nat (by omega))) (macs_at (hS19.ok 3 _ rfl)).macs (by decide) (by omega)) fun a51 hA52 => ?_; clear hA50 a49
   refine s1 hA52 (op_loadAE rfl ty_103 (hA52.ev rfl) (macs_at (hS19.ok 3 _ rfl)).macs (macs_all (by omega)) rfl (by decide)) fun a53 hA54 => ?_; clear hA52 a51
   refine s2 hA54 (op_call rfl en_67 (ev1 (hA54.ev rfl)) (bias_ok _ (b.macs.getD i.toNat mac0) _ _ ((macs_at (hS19.ok 3 _ rfl)).blk (i := i.toNat) (by omega)) ((check_ok (by assumption)).mac (by omega)) (hth.kl _))) ?_
   rintro a55 _ w57 ⟨rfl, hE58⟩ hA56; have hS59 := hS19.step hE58; clear hE58 hA54 hS19 a53
   refine s2 hA56 (op_alloc hS59 rfl ze_30 (cs := [(Value.int .i64 0), (Value.int .i64 0)]) rfl) ?_
   rintro a60 _ w62 ⟨b63, rfl, hS64⟩ hA61; clear hA56 hS59 a55
   refine s7 hA61 (op_store hS64 rfl ty_30 (hA61.ev rfl) (hA61.ev rfl) (i := 0) rfl (vs := [(Value.int .i64 ((biasF (b.macs.getD i.toNat mac0)).1)), (Value.int .i64 ((biasF (b.macs.getD i.toNat mac0)).2))]) rfl rfl rfl (Nat.le_of_ble_eq_true rfl)) ?_
   intro _ w65 hS66 hA67; clear hA61
   have hS68 : Sep NoB w w65 [(blk b63 30 [(Value.int .i64 ((biasF (b.macs.getD i.toNat mac0)).1)), (Value.int .i64 ((biasF (b.macs.getD i.toNat mac0)).2))]), (blk b9 30 [(Value.int .i64 0), (Value.int .i64 0)]), (blk b4 37 [(Value.int .i64 b.scales), vt, vm]), (tabsR false vt lr lb b.tabs), (macsR false vm lk b.macs)] := hS66; clear hS66 hS64
   refine n2 ?_
   refine c_seq ?_
   have hA69 := hA67.as [(7, (bptr b63 0)), (4, (bptr b9 0))] rfl; clear hA67
   refine c_region ?_
   refine s1 hA69 (op_loadA rfl ty_30 (hA69.ev rfl) (hS68.bk 0 rfl) (l := [(Value.int .i64 ((biasF (b.macs.getD i.toNat mac0)).1)), (Value.int .i64 ((biasF (b.macs.getD i.toNat mac0)).2))]) rfl rfl) fun a70 hA71 => ?_; clear hA69 a60
   refine s2 hA71 (op_call rfl en_68 (ev1 (hA71.ev rfl)) (empty_ok _ _ _)) ?_
   rintro a72 _ w74 ⟨rfl, hE75⟩ hA73; have hS76 := hS68.step hE75; clear hE75 hA71 hS68 a70
   refine n1 ?_
   by_cases hb77 : ((biasF (b.macs.getD i.toNat mac0)).2) < ((biasF (b.macs.getD i.toNat mac0)).1)
   ·skip
    rw [decide_eq_true hb77] at hA73
    refine c_true hA73 rfl ?_
    refine m2 ?_
    refine s1 hA73 (op_build rfl pv0 bd_30_) fun a78 hA79 => ?_; clear hA73 a72
    refine s7 hA79 (op_store hS76 rfl ty_30 (hA79.ev rfl) (hA79.ev rfl) (i := 1) rfl (vs := [(Value.int .i64 0), (Value.int .i64 0)]) rfl rfl rfl (Nat.le_of_ble_eq_true rfl)) ?_
    intro _ w80 hS81 hA82; clear hA79
    have hS83 : Sep NoB w w80 [(blk b63 30 [(Value.int .i64 ((biasF (b.macs.getD i.toNat mac0)).1)), (Value.int .i64 ((biasF (b.macs.getD i.toNat mac0)).2))]), (blk b9 30 [(Value.int .i64 0), (Value.int .i64 0)]), (blk b4 37 [(Value.int .i64 b.scales), vt, vm]), (tabsR false vt lr lb b.tabs), (macsR false vm lk b.macs)] := hS81; clear hS81 hS76
    refine s1 hA82 (op_assign rfl (evc _ _)) fun a84 hA85 => ?_; clear hA82 a78
    refine n1 ?_
    refine c_ret ?_
    refine then_ret ?_
    refine fin_run hA85 (.inl rfl) (run_results2 hA85 rfl (.cellA rfl ty_30 (hS83.bk 1 rfl) (l := [(Value.int .i64 0), (Value.int .i64 0)]) rfl rfl) (.tmp rfl)) ?_
    have he_ := (biasE_11 (i := i) (by assumption) (by assumption) (off_t (by assumption)))
    exact ⟨by rw [biasR_n (by rw [he_]; first | assumption | decide), he_], hS83.ext⟩
   ·skip
    rw [decide_eq_false hb77] at hA73
    refine c_false hA73 rfl ?_
    refine c_skip ?_
    refine then_n ?_
    refine m2 ?_
    refine s1 hA73 (op_loadA rfl ty_30 (hA73.ev rfl) (hS76.bk 0 rfl) (l := [(Value.int .i64 ((biasF (b.macs.getD i.toNat mac0)).1)), (Value.int .i64 ((biasF (b.macs.getD i.toNat mac0)).2))]) rfl rfl) fun a86 hA87 => ?_; clear hA73 a72
    refine s7 hA87 (op_store hS76 rfl ty_30 (hA87.ev rfl) (hA87.ev rfl) (i := 1) rfl (vs := [(Value.int .i64 ((biasF (b.macs.getD i.toNat mac0)).1)), (Value.int .i64 ((biasF (b.macs.getD i.toNat mac0)).2))]) rfl rfl rfl (Nat.le_of_ble_eq_true rfl)) ?_
    intro _ w88 hS89 hA90; clear hA87
    have hS91 : Sep NoB w w88 [(blk b63 30 [(Value.int .i64 ((biasF (b.macs.getD i.toNat mac0)).1)), (Value.int .i64 ((biasF (b.macs.getD i.toNat mac0)).2))]), (blk b9 30 [(Value.int .i64 ((biasF (b.macs.getD i.toNat mac0)).1)), (Value.int .i64 ((biasF (b.macs.getD i.toNat mac0)).2))]), (blk b4 37 [(Value.int .i64 b.scales), vt, vm]), (tabsR false vt lr lb b.tabs), (macsR false vm lk b.macs)] := hS89; clear hS89 hS76
    refine s1 hA90 (op_assign rfl (evc _ _)) fun a92 hA93 => ?_; clear hA90 a86
    refine n1 ?_
    refine c_ret ?_
    refine fin_run hA93 (.inl rfl) (run_results2 hA93 rfl (.cellA rfl ty_30 (hS91.bk 1 rfl) (l := [(Value.int .i64 ((biasF (b.macs.getD i.toNat mac0)).1)), (Value.int .i64 ((biasF (b.macs.getD i.toNat mac0)).2))]) rfl rfl) (.tmp rfl)) ?_
    have he_ := (biasE_0 (i := i) (by assumption) (by assumption) (off_f (by assumption)))
    exact ⟨by rw [biasR_y he_, he_], hS91.ext⟩
  ·skip
   rw [hb43] at hA42
   refine c_true hA42 rfl ?_
   refine c_seq ?_
   have hA94 := hA42.as [(4, (bptr b9 0))] rfl; clear hA42
   refine c_region ?_
   refine s1 hA94 (op_build rfl pv0 bd_30_) fun a95 hA96 => ?_; clear hA94 a41
   refine s7 hA96 (op_store hS19 rfl ty_30 (hA96.ev rfl) (hA96.ev rfl) (i := 0) rfl (vs := [(Value.int .i64 0), (Value.int .i64 0)]) rfl rfl rfl (Nat.le_of_ble_eq_true rfl)) ?_
   intro _ w97 hS98 hA99; clear hA96
   have hS100 : Sep NoB w w97 [(blk b9 30 [(Value.int .i64 0), (Value.int .i64 0)]), (blk b4 37 [(Value.int .i64 b.scales), vt, vm]), (tabsR false vt lr lb b.tabs), (macsR false vm lk b.macs)] := hS98; clear hS98 hS19
   refine s1 hA99 (op_assign rfl (evc _ _)) fun a101 hA102 => ?_; clear hA99 a95
   refine n1 ?_
   refine c_ret ?_
   refine then_ret ?_
   refine fin_run hA102 (.inl rfl) (run_results2 hA102 rfl (.cellA rfl ty_30 (hS100.bk 0 rfl) (l := [(Value.int .i64 0), (Value.int .i64 0)]) rfl rfl) (.tmp rfl)) ?_
   have he_ := (biasE_2 (i := i) (by assumption) (by assumption))
   exact ⟨by rw [biasR_n (by rw [he_]; first | assumption | decide), he_], hS100.ext⟩
 ·skip
  rw [decide_eq_false hb26] at hA25
  refine c_true hA25 rfl ?_
  refine c_seq ?_
  have hA103 := hA25.as [(6, (Value.int .i64 (checkF b))), (4, (bptr b9 0))] rfl; clear hA25
  refine c_region ?_
  refine s1 hA103 (op_build rfl pv0 bd_30_) fun a104 hA105 => ?_; clear hA103 a24
  refine s1 hA105 (op_move rfl (hA105.ev rfl)) fun a106 hA107 => ?_; clear hA105 a104
  refine s7 hA107 (op_store hS19 rfl ty_30 (hA107.ev rfl) (hA107.ev rfl) (i := 0) rfl (vs := [(Value.int .i64 0), (Value.int .i64 0)]) rfl rfl rfl (Nat.le_of_ble_eq_true rfl)) ?_
  intro _ w108 hS109 hA110; clear hA107
  have hS111 : Sep NoB w w108 [(blk b9 30 [(Value.int .i64 0), (Value.int .i64 0)]), (blk b4 37 [(Value.int .i64 b.scales), vt, vm]), (tabsR false vt lr lb b.tabs), (macsR false vm lk b.macs)] := hS109; clear hS109 hS19
  refine s1 hA110 (op_assign rfl (hA110.ev rfl)) fun a112 hA113 => ?_; clear hA110 a106
  refine n1 ?_
  refine c_ret ?_
  refine then_ret ?_
  refine fin_run hA113 (.inl rfl) (run_results2 hA113 rfl (.cellA rfl ty_30 (hS111.bk 0 rfl) (l := [(Value.int .i64 0), (Value.int .i64 0)]) rfl rfl) (.tmp rfl)) ?_
  have he_ := (biasE_c (i := i) (by assumption))
  exact ⟨by rw [biasR_n (by rw [he_]; first | assumption | decide), he_], hS111.ext⟩
set_option maxHeartbeats 4000000 in
theorem Convert_ok (b : BookD) (vt vm : Value) (lr lb lk : Nat → Value) (w : World) (hT : TabsAt w vt lr lb b.tabs) (hM : MacsAt w vm lk b.macs) (hth : ThinB b) (i r1 r2 : Int) :
  Calls Try.prog 18 #[(Value.agg #[(Value.int .i64 b.scales), vt, vm]), (Value.int .i64 i), (Value.agg #[(Value.int .i64 r1), (Value.int .i64 r2)])] w (Ret fun v w' => v = .tuple #[.agg #[.int .i64 (convR b i (r1, r2)).1, .int .i64 (convR b i (r1, r2)).2], .int .i64 (convE b i (r1, r2))] ∧ Ext NoB w w') := by
 refine calls_enter Try.func18 rfl fun a0 hA0 => ?_
 replace hA0 : Fr 47 [] [(0, (Value.agg #[(Value.int .i64 b.scales), vt, vm])), (1, (Value.int .i64 i)), (2, (Value.agg #[(Value.int .i64 r1), (Value.int .i64 r2)]))] a0 := hA0
 have htl9 := hth.tl
 have hS0 : Sep NoB w w [(tabsR false vt lr lb b.tabs), (macsR false vm lk b.macs)] := sep_ro ⟨rfl, hT, rfl, hM, trivial⟩
 refine m2 ?_
 refine s2 hA0 (op_box hS0 rfl (hA0.ev rfl) (cs := [(Value.int .i64 b.scales), vt, vm]) rfl) ?_
 rintro a1 _ w3 ⟨b4, rfl, hS5⟩ hA2; clear hA0 hS0 a0
 refine s2 hA2 (op_box hS5 rfl (hA2.ev rfl) (cs := [(Value.int .i64 r1), (Value.int .i64 r2)]) rfl) ?_
 rintro a6 _ w8 ⟨b9, rfl, hS10⟩ hA7; clear hA2 hS5 a1
 refine s2 hA7 (op_alloc hS10 rfl ze_30 (cs := [(Value.int .i64 0), (Value.int .i64 0)]) rfl) ?_
 rintro a11 _ w13 ⟨b14, rfl, hS15⟩ hA12; clear hA7 hS10 a6
 refine s1 hA12 (op_assign rfl (evc _ _)) fun a16 hA17 => ?_; clear hA12 a11
 refine n2 ?_
 refine m2 ?_
 refine s1 hA17 (op_loadA rfl ty_37 (hA17.ev rfl) (hS15.bk 2 rfl) (l := [(Value.int .i64 b.scales), vt, vm]) rfl rfl) fun a18 hA19 => ?_; clear hA17 a16
 refine s2 hA19 (op_call rfl en_32 (ev1 (hA19.ev rfl)) (check_book b vt vm lr lb lk _ (tabs_at (hS15.ok 3 _ rfl)) (macs_at (hS15.ok 4 _ rfl)) hth)) ?_
 rintro a20 _ w22 ⟨rfl, hE23⟩ hA21; have hS24 := hS15.step hE23; clear hE23 hA19 hS15 a18
 refine s1 hA21 (op_assign rfl (hA21.ev rfl)) fun a25 hA26 => ?_; clear hA21 a20
 refine n4 ?_
 refine s1 hA26 (op_move rfl (hA26.ev rfl)) fun a27 hA28 => ?_; clear hA26 a25
 refine s1 hA28 (op_neq rfl (hA28.ev rfl) (evc _ _)) fun a29 hA30 => ?_; clear hA28 a27
 refine n1 ?_
 by_cases hb31 : (checkF b) = 0
 ·skip
  rw [decide_eq_true hb31] at hA30
  refine c_false hA30 rfl ?_
  refine c_skip ?_
  refine then_n ?_
  refine c_seq ?_
  refine c_seq ?_
  have hA32 := hA30.as [(6, (bptr b14 0)), (5, (bptr b9 0)), (3, (bptr b4 0)), (1, (Value.int .i64 i))] rfl; clear hA30
  refine c_region ?_
  refine s1 hA32 (op_move rfl (hA32.ev rfl)) fun a33 hA34 => ?_; clear hA32 a29
  refine s1 hA34 (op_field rfl fd_37_1 (hA34.ev rfl)) fun a35 hA36 => ?_; clear hA34 a33
  refine s1 hA36 (op_load1 rfl ty_34 (hA36.ev rfl) (hS24.bk 2 rfl) rfl) fun a37 hA38 => ?_; clear hA36 a35
  refine s1 hA38 (op_lenS rfl un_34 (hA38.ev rfl) (tabs_at (hS24.ok 3 _ rfl)).tabs) fun a39 hA40 => ?_; clear hA38 a37
  refine s1 hA40 (op_sub rfl (hA40.ev rfl) (evc _ _) (by omega) (by omega)) fun a41 hA42 => ?_; clear hA40 a39
  refine s2 hA42 (op_call rfl en_47 (ev3 (hA42.ev rfl) (evc _ _) (hA42.ev rfl)) (within_ok _ _ _ _)) ?_
  rintro a43 _ W_ ⟨rfl, hW_⟩ hA44; have hW2_ := hW_.symm; subst hW2_; clear hW_ hA42 a41
  refine s1 hA44 (op_not rfl (hA44.ev rfl)) fun a46 hA47 => ?_; clear hA44 a43
  refine s1 hA47 (op_move rfl (hA47.ev rfl)) fun a48 hA49 => ?_; clear hA47 a46
  rcases Bool.eq_false_or_eq_true ((inB i 0 ((b.tabs.length : Int) - 1))) with hb50 | hb50
  ·skip
   rw [hb50] at hA49
   have hib := inB_iff.1 hb50
   refine s5 hA49 (op_loadA rfl ty_30 (hA49.ev rfl) (hS24.bk 1 rfl) (l := [(Value.int .i64 r1), (Value.int .i64 r2)]) rfl rfl) fun a51 hA52 => ?_; clear hA49 a48
   refine s6 hA52 (op_call rfl en_48 (ev1 (hA52.ev rfl)) (values_ok _ _ _)) ?_
   rintro a53 _ w55 ⟨rfl, hE56⟩ hA54; have hS57 := hS24.step hE56; clear hE56 hA52 hS24 a51
   refine s5 hA54 (op_not rfl (hA54.ev rfl)) fun a58 hA59 => ?_; clear hA54 a53
   refine s1 hA59 (op_pick_f rfl (hA59.ev rfl) (hA59.ev rfl)) fun a60 hA61 => ?_; clear hA59 a58
   refine n1 ?_
   rcases Bool.eq_false_or_eq_true ((spanB (r1, r2))) with hb62 | hb62
   ·skip
    rw [hb62] at hA61
    refine c_false hA61 rfl ?_
    refine c_skip ?_
    refine then_n ?_
    refine c_seq ?_
    refine c_seq ?_
    have hA63 := hA61.as [(6, (bptr b14 0)), (5, (bptr b9 0)), (3, (bptr b4 0)), (1, (Value.int .i64 i))] rfl; clear hA61
    refine c_region ?_
    refine s1 hA63 (op_field rfl fd_37_1 (hA63.ev rfl)) fun a64 hA65 => ?_; clear hA63 a60
    refine s1 hA65 (op_load1 rfl ty_34 (hA65.ev rfl) (hS57.bk 2 rfl) rfl) fun a66 hA67 => ?_; clear hA65 a64
    refine s1 hA67 (op_move rfl (hA67.ev rfl)) fun a68 hA69 => ?_; clear hA67 a66
    refine s1 hA69 (op_indexS rfl un_34 ty_106 (hA69.ev rfl) (i := i.toNat) ((hA69.ev rfl).trans (int_nat (by omega))) (tabs_at (hS57.ok 3 _ rfl)).tabs (by decide) (by omega)) fun a70 hA71 => ?_; clear hA69 a68
    refine s1 hA71 (op_loadAE rfl ty_106 (hA71.ev rfl) (tabs_at (hS57.ok 3 _ rfl)).tabs (tabs_all (by omega)) rfl (by decide)) fun a72 hA73 => ?_; clear hA71 a70
    refine s1 hA73 (op_makeFunc rfl (ev1 (hA73.ev rfl)) ev0) fun a74 hA75 => ?_; clear hA73 a72
    refine s1 hA75 (op_assign rfl (hA75.ev rfl)) fun a76 hA77 => ?_; clear hA75 a74
    refine n2 ?_
    have hA78 := hA77.as [(9, (Value.func (.func 49) #[(Value.agg #[(Value.int .i64 ((b.tabs.getD i.toNat tab0).frm)), (Value.int .i64 ((b.tabs.getD i.toNat tab0).dst)), (lr i.toNat), (lb i.toNat), (Value.int .i64 ((b.tabs.getD i.toNat tab0).err))])] #[])), (6, (bptr b14 0)), (5, (bptr b9 0)), (3, (bptr b4 0)), (1, (Value.int .i64 i))] rfl; clear hA77
    refine c_region ?_
    refine s1 hA78 (op_move rfl (hA78.ev rfl)) fun a79 hA80 => ?_; clear hA78 a76
    refine s1 hA80 (op_loadA rfl ty_30 (hA80.ev rfl) (hS57.bk 1 rfl) (l := [(Value.int .i64 r1), (Value.int .i64 r2)]) rfl rfl) fun a81 hA82 => ?_; clear hA80 a79
    refine s2 hA82 (op_callv rfl (hA82.ev rfl) en_49 (ev1 (hA82.ev rfl)) (converts_ok r1 r2 (b.tabs.getD i.toNat tab0) _ _ _ ((tabs_at (hS57.ok 3 _ rfl)).row (i := i.toNat) (by omega)) ((tabs_at (hS57.ok 3 _ rfl)).brk (i := i.toNat) (by omega)) (hth.rl _) (hth.bl _) _ ((check_ok (by assumption)).tab (by omega)))) ?_
    rintro a83 _ w85 ⟨rfl, hE86⟩ hA84; have hS87 := hS57.step hE86; clear hE86 hA82 hS57 a81
    refine s1 hA84 (op_not rfl (hA84.ev rfl)) fun a88 hA89 => ?_; clear hA84 a83
    refine n1 ?_
    rcases Bool.eq_false_or_eq_true ((convB (b.tabs.getD i.toNat tab0) (r1, r2))) with hb90 | hb90
    ·skip
     rw [hb90] at hA89
     refine c_false hA89 rfl ?_
     refine c_skip ?_
     refine then_n ?_
     refine c_seq ?_
     have hA91 := hA89.as [(6, (bptr b14 0)), (5, (bptr b9 0)), (3, (bptr b4 0)), (1, (Value.int .i64 i))] rfl; clear hA89
     refine c_drawn mixed hA91 hS87 6 [[], [0], [], [1, 2], [3], []] [(Yd.val (bptr b4 1)), (Yd.val vt), (Yd.val (Value.int .i64 i)), (Yd.val (eptr vt (i.toNat * 5))), (Yd.val (Value.agg #[(Value.int .i64 ((b.tabs.getD i.toNat tab0).frm)), (Value.int .i64 ((b.tabs.getD i.toNat tab0).dst)), (lr i.toNat), (lb i.toNat), (Value.int .i64 ((b.tabs.getD i.toNat tab0).err))])), (Yd.val (Value.agg #[(Value.int .i64 r1), (Value.int .i64 r2)]))] (by decide +kernel) rfl rfl ?_ ?_
     ·skip
      refine dq (fun a w hA hS hd => op_field rfl fd_37_1 (hA.ev rfl)) ?_
      refine dq (fun a w hA hS hd => op_load1 rfl ty_34 (hq hd 0) (hS.bk 2 rfl) rfl) ?_
      refine dq (fun a w hA hS hd => op_move rfl (hA.ev rfl)) ?_
      refine dq (fun a w hA hS hd => op_indexS rfl un_34 ty_106 (hq hd 1) (i := i.toNat) ((hq hd 2).trans (int_nat (by omega))) (tabs_at (hS.ok 3 _ rfl)).tabs (by decide) (by omega)) ?_
      refine dq (fun a w hA hS hd => op_loadAE rfl ty_106 (hq hd 3) (tabs_at (hS.ok 3 _ rfl)).tabs (tabs_all (by omega)) rfl (by decide)) ?_
      refine dq (fun a w hA hS hd => op_loadA rfl ty_30 (hA.ev rfl) (hS.bk 1 rfl) (l := [(Value.int .i64 r1), (Value.int .i64 r2)]) rfl rfl) ?_
      trivial
     intro a93 w94 hA95 hS96 hH97; clear hA91 hS87
     have hA98 := hA95.add (hz hH97 4); clear hA95
     have hA99 := hA98.add (hz hH97 5); clear hA98
     clear hH97
     refine s2 hA99 (op_call rfl en_50 (ev2 (hA99.ev rfl) (hA99.ev rfl)) (convert_ok r1 r2 (b.tabs.getD i.toNat tab0) _ _ _ ((tabs_at (hS96.ok 3 _ rfl)).row (i := i.toNat) (by omega)) ((tabs_at (hS96.ok 3 _ rfl)).brk (i := i.toNat) (by omega)) (hth.rl _) (hth.bl _) _ ((check_ok (by assumption)).tab (by omega)))) ?_
     rintro a100 _ w102 ⟨rfl, hE103⟩ hA101; have hS104 := hS96.step hE103; clear hE103 hA99 hS96 a93
     refine s7 hA101 (op_store hS104 rfl ty_30 (hA101.ev rfl) (hA101.ev rfl) (i := 0) rfl (vs := [(Value.int .i64 ((convF (b.tabs.getD i.toNat tab0) (r1, r2)).1)), (Value.int .i64 ((convF (b.tabs.getD i.toNat tab0) (r1, r2)).2))]) rfl rfl rfl (Nat.le_of_ble_eq_true rfl)) ?_
     intro _ w105 hS106 hA107; clear hA101
     have hS108 : Sep NoB w w105 [(blk b14 30 [(Value.int .i64 ((convF (b.tabs.getD i.toNat tab0) (r1, r2)).1)), (Value.int .i64 ((convF (b.tabs.getD i.toNat tab0) (r1, r2)).2))]), (blk b9 30 [(Value.int .i64 r1), (Value.int .i64 r2)]), (blk b4 37 [(Value.int .i64 b.scales), vt, vm]), (tabsR false vt lr lb b.tabs), (macsR false vm lk b.macs)] := hS106; clear hS106 hS104
     refine s1 hA107 (op_assign rfl (evc _ _)) fun a109 hA110 => ?_; clear hA107 a100
     refine n1 ?_
     refine c_ret ?_
     refine fin_run hA110 (.inl rfl) (run_results2 hA110 rfl (.cellA rfl ty_30 (hS108.bk 0 rfl) (l := [(Value.int .i64 ((convF (b.tabs.getD i.toNat tab0) (r1, r2)).1)), (Value.int .i64 ((convF (b.tabs.getD i.toNat tab0) (r1, r2)).2))]) rfl rfl) (.tmp rfl)) ?_
     have he_ := (convE_0 (i := i) (r := (r1, r2)) (by assumption) (by assumption) (by assumption) (by assumption))
     exact ⟨by rw [convR_y he_, he_], hS108.ext⟩
    ·skip
     rw [hb90] at hA89
     refine c_true hA89 rfl ?_
     refine c_seq ?_
     have hA111 := hA89.as [(6, (bptr b14 0))] rfl; clear hA89
     refine c_region ?_
     refine s1 hA111 (op_build rfl pv0 bd_30_) fun a112 hA113 => ?_; clear hA111 a88
     refine s7 hA113 (op_store hS87 rfl ty_30 (hA113.ev rfl) (hA113.ev rfl) (i := 0) rfl (vs := [(Value.int .i64 0), (Value.int .i64 0)]) rfl rfl rfl (Nat.le_of_ble_eq_true rfl)) ?_
     intro _ w114 hS115 hA116; clear hA113
     have hS117 : Sep NoB w w114 [(blk b14 30 [(Value.int .i64 0), (Value.int .i64 0)]), (blk b9 30 [(Value.int .i64 r1), (Value.int .i64 r2)]), (blk b4 37 [(Value.int .i64 b.scales), vt, vm]), (tabsR false vt lr lb b.tabs), (macsR false vm lk b.macs)] := hS115; clear hS115 hS87
     refine s1 hA116 (op_assign rfl (evc _ _)) fun a118 hA119 => ?_; clear hA116 a112
     refine n1 ?_
     refine c_ret ?_
     refine then_ret ?_
     refine fin_run hA119 (.inl rfl) (run_results2 hA119 rfl (.cellA rfl ty_30 (hS117.bk 0 rfl) (l := [(Value.int .i64 0), (Value.int .i64 0)]) rfl rfl) (.tmp rfl)) ?_
     have he_ := (convE_10 (i := i) (r := (r1, r2)) (by assumption) (by assumption) (by assumption) (by assumption))
     exact ⟨by rw [convR_n (by rw [he_]; first | assumption | decide), he_], hS117.ext⟩
   ·skip
    rw [hb62] at hA61
    refine c_true hA61 rfl ?_
    refine c_seq ?_
    have hA120 := hA61.as [(6, (bptr b14 0))] rfl; clear hA61
    refine c_region ?_
    refine s1 hA120 (op_build rfl pv0 bd_30_) fun a121 hA122 => ?_; clear hA120 a60
    refine s7 hA122 (op_store hS57 rfl ty_30 (hA122.ev rfl) (hA122.ev rfl) (i := 0) rfl (vs := [(Value.int .i64 0), (Value.int .i64 0)]) rfl rfl rfl (Nat.le_of_ble_eq_true rfl)) ?_
    intro _ w123 hS124 hA125; clear hA122
    have hS126 : Sep NoB w w123 [(blk b14 30 [(Value.int .i64 0), (Value.int .i64 0)]), (blk b9 30 [(Value.int .i64 r1), (Value.int .i64 r2)]), (blk b4 37 [(Value.int .i64 b.scales), vt, vm]), (tabsR false vt lr lb b.tabs), (macsR false vm lk b.macs)] := hS124; clear hS124 hS57
    refine s1 hA125 (op_assign rfl (evc _ _)) fun a127 hA128 => ?_; clear hA125 a121
    refine n1 ?_
    refine c_ret ?_
    refine then_ret ?_
    refine fin_run hA128 (.inl rfl) (run_results2 hA128 rfl (.cellA rfl ty_30 (hS126.bk 0 rfl) (l := [(Value.int .i64 0), (Value.int .i64 0)]) rfl rfl) (.tmp rfl)) ?_
    have he_ := (convE_2 (i := i) (r := (r1, r2)) (by assumption) (by first | exact .inl (by assumption) | exact .inr (by assumption)))
    exact ⟨by rw [convR_n (by rw [he_]; first | assumption | decide), he_], hS126.ext⟩
  ·skip
   rw [hb50] at hA49
   refine s3 hA49 fun a129 hA130 => ?_; clear hA49 a48
   refine s3 hA130 fun a131 hA132 => ?_; clear hA130 a129
   refine s3 hA132 fun a133 hA134 => ?_; clear hA132 a131
   refine s1 hA134 (op_pick_t rfl (hA134.ev rfl) (evc _ _)) fun a135 hA136 => ?_; clear hA134 a133
   refine n1 ?_
   refine c_true hA136 rfl ?_
   refine c_seq ?_
   have hA137 := hA136.as [(6, (bptr b14 0))] rfl; clear hA136
   refine c_region ?_
   refine s1 hA137 (op_build rfl pv0 bd_30_) fun a138 hA139 => ?_; clear hA137 a135
   refine s7 hA139 (op_store hS24 rfl ty_30 (hA139.ev rfl) (hA139.ev rfl) (i := 0) rfl (vs := [(Value.int .i64 0), (Value.int .i64 0)]) rfl rfl rfl (Nat.le_of_ble_eq_true rfl)) ?_
   intro _ w140 hS141 hA142; clear hA139
   have hS143 : Sep NoB w w140 [(blk b14 30 [(Value.int .i64 0), (Value.int .i64 0)]), (blk b9 30 [(Value.int .i64 r1), (Value.int .i64 r2)]), (blk b4 37 [(Value.int .i64 b.scales), vt, vm]), (tabsR false vt lr lb b.tabs), (macsR false vm lk b.macs)] := hS141; clear hS141 hS24
   refine s1 hA142 (op_assign rfl (evc _ _)) fun a144 hA145 => ?_; clear hA142 a138
   refine n1 ?_
   refine c_ret ?_
   refine then_ret ?_
   refine fin_run hA145 (.inl rfl) (run_results2 hA145 rfl (.cellA rfl ty_30 (hS143.bk 0 rfl) (l := [(Value.int .i64 0), (Value.int .i64 0)]) rfl rfl) (.tmp rfl)) ?_
   have he_ := (convE_2 (i := i) (r := (r1, r2)) (by assumption) (by first | exact .inl (by assumption) | exact .inr (by assumption)))
   exact ⟨by rw [convR_n (by rw [he_]; first | assumption | decide), he_], hS143.ext⟩
 ·skip
  rw [decide_eq_false hb31] at hA30
  refine c_true hA30 rfl ?_
  refine c_seq ?_
  have hA146 := hA30.as [(8, (Value.int .i64 (checkF b))), (6, (bptr b14 0))] rfl; clear hA30
  refine c_region ?_
  refine s1 hA146 (op_build rfl pv0 bd_30_) fun a147 hA148 => ?_; clear hA146 a29
  refine s1 hA148 (op_move rfl (hA148.ev rfl)) fun a149 hA150 => ?_; clear hA148 a147
  refine s7 hA150 (op_store hS24 rfl ty_30 (hA150.ev rfl) (hA150.ev rfl) (i := 0) rfl (vs := [(Value.int .i64 0), (Value.int .i64 0)]) rfl rfl rfl (Nat.le_of_ble_eq_true rfl)) ?_
  intro _ w151 hS152 hA153; clear hA150
  have hS154 : Sep NoB w w151 [(blk b14 30 [(Value.int .i64 0), (Value.int .i64 0)]), (blk b9 30 [(Value.int .i64 r1), (Value.int .i64 r2)]), (blk b4 37 [(Value.int .i64 b.scales), vt, vm]), (tabsR false vt lr lb b.tabs), (macsR false vm lk b.macs)] := hS152; clear hS152 hS24
  refine s1 hA153 (op_assign rfl (hA153.ev rfl)) fun a155 hA156 => ?_; clear hA153 a149
  refine n1 ?_
  refine c_ret ?_
  refine then_ret ?_
  refine fin_run hA156 (.inl rfl) (run_results2 hA156 rfl (.cellA rfl ty_30 (hS154.bk 0 rfl) (l := [(Value.int .i64 0), (Value.int .i64 0)]) rfl rfl) (.tmp rfl)) ?_
  have he_ := (convE_c (i := i) (r := (r1, r2)) (by assumption))
  exact ⟨by rw [convR_n (by rw [he_]; first | assumption | decide), he_], hS154.ext⟩
end Go.Proofs.Ytohgladndklciaa

namespace Go.Hard
open Go.RowKit Go.Eng
def selU (ts : List TabD) (k : Nat) (i j : Int) : List Nat := (List.range k).filter fun q => decide ((ts.getD q tab0).frm = i) && decide ((ts.getD q tab0).dst = j)
def selT (ts : List TabD) (l : List Nat) : List TabD := l.map fun q => ts.getD q tab0
def selV (v : Nat → Value) (l : List Nat) : Nat → Value := fun p => v (l.getD p 0)
def bN (ts : List TabD) (k : Nat) (i j : Int) : Nat := (selU ts k i j).length
def bC (lr lb : Nat → Value) (ts : List TabD) (k : Nat) (i j : Int) : List Value := tabsC (selV lr (selU ts k i j)) (selV lb (selU ts k i j)) (selT ts (selU ts k i j))
theorem selT_len (ts : List TabD) (l : List Nat) : (selT ts l).length = l.length := by simp [selT]
theorem selU_lt {ts : List TabD} {k q : Nat} {i j : Int} (h : q ∈ selU ts k i j) : q < k := by
  unfold selU at h
  rw [List.mem_filter, List.mem_range] at h; exact h.1
section
variable {lr lb : Nat → Value} {ts : List TabD} {k : Nat} {i j : Int}
theorem bC_zero (h : bN ts k i j = 0) : bC lr lb ts k i j = [] := by
  have : selU ts k i j = [] := List.eq_nil_of_length_eq_zero h
  unfold bC; rw [this]; rfl
theorem sel_no (h : ¬ (i = (ts.getD k tab0).frm ∧ j = (ts.getD k tab0).dst)) : selU ts (k + 1) i j = selU ts k i j := by
  unfold selU; rw [List.range_succ, List.filter_append]
  have : (decide ((ts.getD k tab0).frm = i) && decide ((ts.getD k tab0).dst = j)) = false := by
    rw [Bool.and_eq_false_iff]
    rcases Decidable.em ((ts.getD k tab0).frm = i) with h1 | h1
    · exact .inr (decide_eq_false fun h2 => h ⟨h1.symm, h2.symm⟩)
    · exact .inl (decide_eq_false h1)
  rw [List.filter_cons, if_neg (by rw [this]; decide), List.filter_nil, List.append_nil]
theorem sel_yes : selU ts (k + 1) (ts.getD k tab0).frm (ts.getD k tab0).dst = selU ts k (ts.getD k tab0).frm (ts.getD k tab0).dst ++ [k] := by
  unfold selU; rw [List.range_succ, List.filter_append]; simp
theorem b_other (lr lb : Nat → Value) : ∀ a b, ¬ (a = (ts.getD k tab0).frm ∧ b = (ts.getD k tab0).dst) → bN ts (k + 1) a b = bN ts k a b ∧ bC lr lb ts (k + 1) a b = bC lr lb ts k a b := fun a b h => by
  unfold bN bC; rw [sel_no h]; exact ⟨rfl, rfl⟩
theorem bN_next : bN ts (k + 1) (ts.getD k tab0).frm (ts.getD k tab0).dst = bN ts k (ts.getD k tab0).frm (ts.getD k tab0).dst + 1 := by
  unfold bN; rw [sel_yes, List.length_append]; rfl
theorem bC_next : bC lr lb ts (k + 1) (ts.getD k tab0).frm (ts.getD k tab0).dst = bC lr lb ts k (ts.getD k tab0).frm (ts.getD k tab0).dst ++ [.int .i64 (ts.getD k tab0).frm, .int .i64 (ts.getD k tab0).dst, lr k, lb k, .int .i64 (ts.getD k tab0).err] := by
  unfold bC
  rw [sel_yes]
  generalize selU ts k (ts.getD k tab0).frm (ts.getD k tab0).dst = l
  rw [tabs_snoc]
  have e : selT ts (l ++ [k]) = selT ts l ++ [ts.getD k tab0] := by simp [selT]
  rw [e]
  unfold tabsC
  refine flatI_congr fun p hp => ?_
  rw [List.length_append, List.length_singleton, selT_len] at hp
  unfold tabC selV
  rw [selT_len]
  rcases Nat.lt_or_ge p l.length with h | h
  · rw [putV_old _ _ h, putV_old _ _ h, getD_old h]
  · obtain rfl : p = l.length := by omega
    rw [putV_new, putV_new, getD_new]
theorem tabs_sel {w : World} {v u : Value} {l : List Nat} (h : TabsAt w v lr lb ts) (hl : ∀ q ∈ l, q < ts.length) (hs : SlAt w u 5 l.length (tabsC (selV lr l) (selV lb l) (selT ts l))) : TabsAt w u (selV lr l) (selV lb l) (selT ts l) := by
  have at' : ∀ p, p < (selT ts l).length → (selT ts l).getD p tab0 = ts.getD (l.getD p 0) tab0 ∧ l.getD p 0 < ts.length := fun p hp => by
    rw [selT_len] at hp
    refine ⟨?_, hl _ ?_⟩
    · simp [selT, List.getD, List.getElem?_map, List.getElem?_eq_getElem hp]
    · simp only [List.getD, List.getElem?_eq_getElem hp, Option.getD_some]; exact List.getElem_mem hp
  refine ⟨by rw [selT_len]; exact hs, fun p hp => ?_, fun p hp => ?_⟩
  · have := h.rows _ (at' p hp).2
    unfold rowsN rowsC at this ⊢
    rw [(at' p hp).1]; exact this
  · have := h.brks _ (at' p hp).2
    unfold brkN brkC at this ⊢
    rw [(at' p hp).1]; exact this
theorem sel_at {l : List Nat} {p : Nat} (hp : p < l.length) : (selT ts l).getD p tab0 = ts.getD (l.getD p 0) tab0 := by
  simp [selT, List.getD, List.getElem?_map, List.getElem?_eq_getElem hp]
theorem bN_le (ts : List TabD) (k : Nat) (i j : Int) : bN ts k i j ≤ k := by
  unfold bN selU
  have := List.length_filter_le (fun q => decide ((ts.getD q tab0).frm = i) && decide ((ts.getD q tab0).dst = j)) (List.range k)
  rw [List.length_range] at this; exact this
end
end Go.Hard

namespace Go.Proofs.Ytohgladndklciaa
open Go.RowKit Go.Shelf Go.Eng Go.Hard
theorem bd_146_0ivva_1m (x0_0 : Int) (x0_1 : Value) (x0_2 : Value) (x1_0 : Option Nat) (w : World) : (Instr.build 146 #[(0, .agg #[(.int .i64 x0_0), x0_1, x0_2]), (1, (.map x1_0))]).run Try.prog w = .ok (.agg #[(.int .i64 x0_0), x0_1, x0_2, (.map x1_0)]) w := by kernel_rfl
theorem ze_106 : (Try.prog.info? 106).bind (·.zero) = some (Value.agg #[(Value.int .i64 0), (Value.int .i64 0), (Value.slice none 0 0), (Value.slice none 0 0), (Value.int .i64 0)]) := by kernel_rfl
theorem bd_162_0i_1i (x0_0 : Int) (x1_0 : Int) (w : World) : (Instr.build 162 #[(0, (.int .i64 x0_0)), (1, (.int .i64 x1_0))]).run Try.prog w = .ok (.agg #[(.int .i64 x0_0), (.int .i64 x1_0)]) w := by kernel_rfl
theorem ze_162 : (Try.prog.info? 162).bind (·.zero) = some (Value.agg #[(Value.int .i64 0), (Value.int .i64 0)]) := by kernel_rfl
theorem ty_162 : tyK Try.prog 162 = some (true, 2) := by kernel_rfl
theorem fd_146_1 : fldK Try.prog 146 1 = some 3 := by kernel_rfl
theorem ty_144 : tyK Try.prog 144 = some (false, 1) := by kernel_rfl
theorem bs_106_1_0iivvia (x0_0 : Int) (x0_1 : Int) (x0_2 : Value) (x0_3 : Value) (x0_4 : Int) : Instr.fill (fun i => some (i * 5, 5)) ((Array.range (1 * 5)).map ((Value.agg #[(Value.int .i64 0), (Value.int .i64 0), (Value.slice none 0 0), (Value.slice none 0 0), (Value.int .i64 0)]).cells[· % (Value.agg #[(Value.int .i64 0), (Value.int .i64 0), (Value.slice none 0 0), (Value.slice none 0 0), (Value.int .i64 0)]).cells.size]!)) [(0, .agg #[(.int .i64 x0_0), (.int .i64 x0_1), x0_2, x0_3, (.int .i64 x0_4)])] = some (([(.int .i64 x0_0), (.int .i64 x0_1), x0_2, x0_3, (.int .i64 x0_4)] : List Value).toArray) := by kernel_rfl
theorem zs_34 : (Try.prog.info? 34).bind (·.zero) = some (.slice none 0 0) := by kernel_rfl
theorem pair_162 : twoInts Try.prog 162 = true := by kernel_rfl
theorem un_144 : Try.prog.underlying 144 = some (.map 162 34) := by kernel_rfl
theorem el_106 : elK Try.prog 106 = some ((Value.agg #[(Value.int .i64 0), (Value.int .i64 0), (Value.slice none 0 0), (Value.slice none 0 0), (Value.int .i64 0)]), 5, 72) := by kernel_rfl
theorem bench_ok (b : BookD) (vt vm : Value) (lr lb lk : Nat → Value) (w : World) (hT : TabsAt w vt lr lb b.tabs) (hM : MacsAt w vm lk b.macs) (hth : ThinB b) :
  Calls Try.prog 86 #[(Value.agg #[(Value.int .i64 b.scales), vt, vm])] w (Ret fun v w' => ∃ bx bm es ck, v = bptr bx 0 ∧ MapOk bm es ck (bN b.tabs b.tabs.length) ∧ Sep NoB w w' [blk bx 146 [.int .i64 b.scales, vt, vm, .map (some bm)], (mapX true bm es ck es.size 106 5 (bN b.tabs b.tabs.length) (bC lr lb b.tabs b.tabs.length))]) := by
 refine calls_enter Try.func86 rfl fun a0 hA0 => ?_
 replace hA0 : Fr 36 [] [(0, (Value.agg #[(Value.int .i64 b.scales), vt, vm]))] a0 := hA0
 have htl9 := hth.tl
 have hS0 : Sep NoB w w [(tabsR false vt lr lb b.tabs), (macsR false vm lk b.macs)] := sep_ro ⟨rfl, hT, rfl, hM, trivial⟩
 refine m2 ?_
 refine s2 hA0 (op_box hS0 rfl (hA0.ev rfl) (cs := [(Value.int .i64 b.scales), vt, vm]) rfl) ?_
 rintro a1 _ w3 ⟨b4, rfl, hS5⟩ hA2; clear hA0 hS0 a0
 refine s1 hA2 (op_assign rfl (evc _ _)) fun a6 hA7 => ?_; clear hA2 a1
 refine n4 ?_
 refine s1 hA7 (op_loadA rfl ty_37 (hA7.ev rfl) (hS5.bk 0 rfl) (l := [(Value.int .i64 b.scales), vt, vm]) rfl rfl) fun a8 hA9 => ?_; clear hA7 a6
 refine s2 hA9 (op_makeMapX (te := 106) (sz := 5) (n := bN b.tabs 0) (c := bC lr lb b.tabs 0) hS5 rfl) ?_
 rintro a10 _ w12 ⟨bm, rfl, hS13⟩ hA11; clear hA9 hS5 a8
 refine s1 hA11 (op_build rfl (pv2 (hA11.ev rfl) (hA11.ev rfl)) (bd_146_0ivva_1m _ _ _ _)) fun a14 hA15 => ?_; clear hA11 a10
 refine s2 hA15 (op_box hS13 rfl (hA15.ev rfl) (cs := [(Value.int .i64 b.scales), vt, vm, (Value.map (some bm))]) rfl) ?_
 rintro a16 _ w18 ⟨b19, rfl, hS20⟩ hA17; clear hA15 hS13 a14
 refine s1 hA17 (op_assign rfl (hA17.ev rfl)) fun a21 hA22 => ?_; clear hA17 a16
 refine n2 ?_
 refine c_seq ?_
 have hA23 := hA22.as [(3, (bptr b19 0)), (1, (bptr b4 0))] rfl; clear hA22
 refine c_region ?_
 refine s1 hA23 (op_field rfl fd_37_1 (hA23.ev rfl)) fun a24 hA25 => ?_; clear hA23 a21
 refine s1 hA25 (op_load1 rfl ty_34 (hA25.ev rfl) (hS20.bk 2 rfl) rfl) fun a26 hA27 => ?_; clear hA25 a24
 refine s1 hA27 (op_lenS rfl un_34 (hA27.ev rfl) (tabs_at (hS20.ok 3 _ rfl)).tabs) fun a28 hA29 => ?_; clear hA27 a26
 refine s1 hA29 (op_move rfl (evc _ _)) fun a30 hA31 => ?_; clear hA29 a28
 refine n1 ?_
 refine c_block ?_
 have hA32 := hA31.as [(14, (Value.int .i64 0)), (13, (Value.int .i64 (b.tabs.length : Int))), (12, vt), (3, (bptr b19 0))] rfl; clear hA31
 refine c_loop (G := Nat) (fun (k : Nat) a_ w_ => ∃ es_ : Array MapEntry, ∃ ck_ : Nat, Fr 36 [] [(14, (Value.int .i64 (k : Int))), (13, (Value.int .i64 (b.tabs.length : Int))), (12, vt), (3, (bptr b19 0))] a_ ∧ Sep NoB w w_ [(blk b19 146 [(Value.int .i64 b.scales), vt, vm, (Value.map (some bm))]), (mapX true bm es_ ck_ es_.size 106 5 (bN b.tabs k) (bC lr lb b.tabs k)), (blk b4 37 [(Value.int .i64 b.scales), vt, vm]), (tabsR false vt lr lb b.tabs), (macsR false vm lk b.macs)] ∧ (k ≤ b.tabs.length) ∧ (MapOk bm es_ ck_ (bN b.tabs k))) (fun k => b.tabs.length - k) 0 ⟨#[], 0, hA32.as _ rfl, hS20, by omega, (MapOk.none (fun _ _ => rfl))⟩ ?_
 clear hA32 hS20 a30
 rintro k a33 w35 ⟨es_, ck_, hA34, hS36, hk, hMO⟩
 refine m2 ?_
 refine s1 hA34 (op_lss rfl (hA34.ev rfl) (hA34.ev rfl)) fun a37 hA38 => ?_; clear hA34 a33
 refine n2 ?_
 by_cases hb39 : (k : Int) < (b.tabs.length : Int)
 ·skip
  rw [decide_eq_true hb39] at hA38
  refine c_true hA38 rfl ?_
  refine c_skip ?_
  refine then_n ?_
  refine c_seq ?_
  refine c_block ?_
  refine m2 ?_
  refine s1 hA38 (op_indexS rfl un_34 ty_106 (hA38.ev rfl) (i := k) (hA38.ev rfl) (tabs_at (hS36.ok 3 _ rfl)).tabs (by decide) (by omega)) fun a40 hA41 => ?_; clear hA38 a37
  refine s1 hA41 (op_loadAE rfl ty_106 (hA41.ev rfl) (tabs_at (hS36.ok 3 _ rfl)).tabs (tabs_all (by omega)) rfl (by decide)) fun a42 hA43 => ?_; clear hA41 a40
  refine s2 hA43 (op_alloc hS36 rfl ze_106 (cs := [(Value.int .i64 0), (Value.int .i64 0), (Value.slice none 0 0), (Value.slice none 0 0), (Value.int .i64 0)]) rfl) ?_
  rintro a44 _ w46 ⟨b47, rfl, hS48⟩ hA45; clear hA43 hS36 a42
  refine s7 hA45 (op_store hS48 rfl ty_106 (hA45.ev rfl) (hA45.ev rfl) (i := 0) rfl (vs := [(Value.int .i64 ((b.tabs.getD k tab0).frm)), (Value.int .i64 ((b.tabs.getD k tab0).dst)), (lr k), (lb k), (Value.int .i64 ((b.tabs.getD k tab0).err))]) rfl rfl (all_c rfl (all_c rfl (all_c (SlAt.one ((tabs_at (hS48.ok 4 _ rfl)).row (i := k) (by omega))) (all_c (SlAt.one ((tabs_at (hS48.ok 4 _ rfl)).brk (i := k) (by omega))) (all_c rfl all_n))))) (Nat.le_of_ble_eq_true rfl)) ?_
  intro _ w49 hS50 hA51; clear hA45
  have hS52 : Sep NoB w w49 [(blk b47 106 [(Value.int .i64 ((b.tabs.getD k tab0).frm)), (Value.int .i64 ((b.tabs.getD k tab0).dst)), (lr k), (lb k), (Value.int .i64 ((b.tabs.getD k tab0).err))]), (blk b19 146 [(Value.int .i64 b.scales), vt, vm, (Value.map (some bm))]), (mapX true bm es_ ck_ es_.size 106 5 (bN b.tabs k) (bC lr lb b.tabs k)), (blk b4 37 [(Value.int .i64 b.scales), vt, vm]), (tabsR false vt lr lb b.tabs), (macsR false vm lk b.macs)] := hS50; clear hS50 hS48
  refine n4 ?_
  refine s1 hA51 (op_field rfl fd_106_0 (hA51.ev rfl)) fun a53 hA54 => ?_; clear hA51 a44
  refine s1 hA54 (op_load1 rfl ty_3 (hA54.ev rfl) (hS52.bk 0 rfl) rfl) fun a55 hA56 => ?_; clear hA54 a53
  refine s1 hA56 (op_field rfl fd_106_1 (hA56.ev rfl)) fun a57 hA58 => ?_; clear hA56 a55
  refine s1 hA58 (op_load1 rfl ty_3 (hA58.ev rfl) (hS52.bk 0 rfl) rfl) fun a59 hA60 => ?_; clear hA58 a57
  refine s1 hA60 (op_build rfl (pv2 (hA60.ev rfl) (hA60.ev rfl)) (bd_162_0i_1i _ _)) fun a61 hA62 => ?_; clear hA60 a59
  refine s2 hA62 (op_alloc hS52 rfl ze_162 (cs := [(Value.int .i64 0), (Value.int .i64 0)]) rfl) ?_
  rintro a63 _ w65 ⟨b66, rfl, hS67⟩ hA64; clear hA62 hS52 a61
  refine s7 hA64 (op_store hS67 rfl ty_162 (hA64.ev rfl) (hA64.ev rfl) (i := 0) rfl (vs := [(Value.int .i64 ((b.tabs.getD k tab0).frm)), (Value.int .i64 ((b.tabs.getD k tab0).dst))]) rfl rfl rfl (Nat.le_of_ble_eq_true rfl)) ?_
  intro _ w68 hS69 hA70; clear hA64
  have hS71 : Sep NoB w w68 [(blk b66 162 [(Value.int .i64 ((b.tabs.getD k tab0).frm)), (Value.int .i64 ((b.tabs.getD k tab0).dst))]), (blk b47 106 [(Value.int .i64 ((b.tabs.getD k tab0).frm)), (Value.int .i64 ((b.tabs.getD k tab0).dst)), (lr k), (lb k), (Value.int .i64 ((b.tabs.getD k tab0).err))]), (blk b19 146 [(Value.int .i64 b.scales), vt, vm, (Value.map (some bm))]), (mapX true bm es_ ck_ es_.size 106 5 (bN b.tabs k) (bC lr lb b.tabs k)), (blk b4 37 [(Value.int .i64 b.scales), vt, vm]), (tabsR false vt lr lb b.tabs), (macsR false vm lk b.macs)] := hS69; clear hS69 hS67
  refine n1 ?_
  have hA72 := hA70.as [(6, (bptr b66 0)), (5, (bptr b47 0)), (14, (Value.int .i64 (k : Int))), (13, (Value.int .i64 (b.tabs.length : Int))), (12, vt), (3, (bptr b19 0))] rfl; clear hA70
  have hA73 := hA72.as [(6, (bptr b66 0)), (5, (bptr b47 0)), (14, (Value.int .i64 (k : Int))), (13, (Value.int .i64 (b.tabs.length : Int))), (12, vt), (3, (bptr b19 0))] rfl; clear hA72
  obtain ⟨es1, ck1, q, e, hMO1, hq1, hk1, hEn⟩ := map_entry ((b.tabs.getD k tab0).frm) ((b.tabs.getD k tab0).dst) hMO
  skip
  have hS74 : Sep NoB w w68 [(mapX true bm es_ ck_ es_.size 106 5 (bN b.tabs k) (bC lr lb b.tabs k)), (blk b66 162 [(Value.int .i64 ((b.tabs.getD k tab0).frm)), (Value.int .i64 ((b.tabs.getD k tab0).dst))]), (blk b47 106 [(Value.int .i64 ((b.tabs.getD k tab0).frm)), (Value.int .i64 ((b.tabs.getD k tab0).dst)), (lr k), (lb k), (Value.int .i64 ((b.tabs.getD k tab0).err))]), (blk b19 146 [(Value.int .i64 b.scales), vt, vm, (Value.map (some bm))]), (blk b4 37 [(Value.int .i64 b.scales), vt, vm]), (tabsR false vt lr lb b.tabs), (macsR false vm lk b.macs)] := hS71.keep [3, 0, 1, 2, 4, 5, 6] (by decide) _ rfl rfl; clear hS71
  refine c_drawCE mixed hA73 (mapX true bm es_ ck_ es_.size 106 5 (bN b.tabs k) (bC lr lb b.tabs k)) hS74 11 3 [(7, 3), (9, 7)] [[], [0], [1], [2], [], [], [5], [3, 4], [7], [6, 7, 8], [7]] [(fun (vs75 : Nat → Value) (v_ : Value) (rs_ : List Res) => v_ = (bptr b19 0) ∧ rs_ = []), (fun (vs75 : Nat → Value) (v_ : Value) (rs_ : List Res) => v_ = (bptr b19 0) ∧ rs_ = []), (fun (vs75 : Nat → Value) (v_ : Value) (rs_ : List Res) => v_ = (bptr b19 3) ∧ rs_ = []), (fun (vs75 : Nat → Value) (v_ : Value) (rs_ : List Res) => v_ = (Value.map (some bm)) ∧ rs_ = [(mapX true bm es_ ck_ es_.size 106 5 (bN b.tabs k) (bC lr lb b.tabs k))]), (fun (vs75 : Nat → Value) (v_ : Value) (rs_ : List Res) => v_ = (Value.agg #[(Value.int .i64 ((b.tabs.getD k tab0).frm)), (Value.int .i64 ((b.tabs.getD k tab0).dst))]) ∧ rs_ = []), (fun (vs75 : Nat → Value) (v_ : Value) (rs_ : List Res) => v_ = (Value.agg #[(Value.int .i64 ((b.tabs.getD k tab0).frm)), (Value.int .i64 ((b.tabs.getD k tab0).dst)), (lr k), (lb k), (Value.int .i64 ((b.tabs.getD k tab0).err))]) ∧ rs_ = []), (fun (vs75 : Nat → Value) (v_ : Value) (rs_ : List Res) => True ∧ rs_ = [(row v_ 106 5 1 [(Value.int .i64 ((b.tabs.getD k tab0).frm)), (Value.int .i64 ((b.tabs.getD k tab0).dst)), (lr k), (lb k), (Value.int .i64 ((b.tabs.getD k tab0).err))])]), (fun (vs75 : Nat → Value) (v_ : Value) (rs_ : List Res) => v_ = (Value.tuple #[e.val, .int .i64 (e.born : Int)]) ∧ rs_ = [(row e.val 106 5 (bN b.tabs k (b.tabs.getD k tab0).frm (b.tabs.getD k tab0).dst) (bC lr lb b.tabs k (b.tabs.getD k tab0).frm (b.tabs.getD k tab0).dst)), (mapX true bm es1 ck1 q 106 5 (bN b.tabs k) (bC lr lb b.tabs k))]), (fun (vs75 : Nat → Value) (v_ : Value) (rs_ : List Res) => v_ = e.val ∧ rs_ = []), (fun (vs75 : Nat → Value) (v_ : Value) (rs_ : List Res) => True ∧ rs_ = [(row v_ 106 5 (bN b.tabs k (b.tabs.getD k tab0).frm (b.tabs.getD k tab0).dst + 1) (bC lr lb b.tabs k (b.tabs.getD k tab0).frm (b.tabs.getD k tab0).dst ++ [.int .i64 (b.tabs.getD k tab0).frm, .int .i64 (b.tabs.getD k tab0).dst, lr k, lb k, .int .i64 (b.tabs.getD k tab0).err])), (mapX true bm es1 ck1 q 106 5 (bN b.tabs k) (bC lr lb b.tabs k))]), (fun (vs75 : Nat → Value) (v_ : Value) (rs_ : List Res) => v_ = (Value.int .i64 (e.born : Int)) ∧ rs_ = [])] (by decide +kernel) (by decide +kernel) (by decide +kernel) (by decide +kernel) (by decide +kernel) rfl rfl ⟨(fun _ _ _ _ _ h_ => h_), (fun _ _ _ _ _ h_ => h_), (fun _ _ _ _ _ h_ => h_), (fun _ _ _ _ _ h_ => h_), (fun _ _ _ _ _ h_ => h_), (fun _ _ _ _ _ h_ => h_), (fun _ _ _ _ _ h_ => h_), (fun _ _ _ _ _ h_ => h_), (fun _ _ _ _ _ h_ => h_), (fun _ _ _ _ _ h_ => h_), (fun _ _ _ _ _ h_ => h_), trivial⟩ ?_ ?_ ?_ ?_
  ·skip
   refine ⟨fun hj_ hj1_ a w vs75 hA hS hd => ?_, ?_⟩
   ·skip
    exact opG_of rfl (vv (op_move rfl (hA.ev rfl)) (And.intro rfl rfl))
   refine ⟨fun hj_ hj1_ a w vs75 hA hS hd => ?_, ?_⟩
   ·skip
    obtain ⟨e0, rs0, hy0, hp0⟩ := hd 0 (by decide)
    obtain ⟨hv0, hr0⟩ := hy0; subst hr0
    rw [hv0] at e0
    exact opG_of rfl (vv (op_nilCheck rfl (tmp_ev (slot_ev e0 rfl))) (And.intro rfl rfl))
   refine ⟨fun hj_ hj1_ a w vs75 hA hS hd => ?_, ?_⟩
   ·skip
    obtain ⟨e1, rs1, hy1, hp1⟩ := hd 1 (by decide)
    obtain ⟨hv1, hr1⟩ := hy1; subst hr1
    rw [hv1] at e1
    exact opG_of rfl (vv (op_field rfl fd_146_1 (tmp_ev (slot_ev e1 rfl))) (And.intro rfl rfl))
   refine ⟨fun _ hj_ => absurd rfl hj_, ?_⟩
   refine ⟨fun hj_ hj1_ a w vs75 hA hS hd => ?_, ?_⟩
   ·skip
    exact opG_of rfl (vv (op_loadA rfl ty_162 (hA.ev rfl) (hS.bk 0 rfl) (l := [(Value.int .i64 ((b.tabs.getD k tab0).frm)), (Value.int .i64 ((b.tabs.getD k tab0).dst))]) rfl rfl) (And.intro rfl rfl))
   refine ⟨fun hj_ hj1_ a w vs75 hA hS hd => ?_, ?_⟩
   ·skip
    exact opG_of rfl (vv (op_loadA rfl ty_106 (hA.ev rfl) (hS.bk 1 rfl) (l := [(Value.int .i64 ((b.tabs.getD k tab0).frm)), (Value.int .i64 ((b.tabs.getD k tab0).dst)), (lr k), (lb k), (Value.int .i64 ((b.tabs.getD k tab0).err))]) rfl rfl) (And.intro rfl rfl))
   refine ⟨fun hj_ hj1_ a w vs75 hA hS hd => ?_, ?_⟩
   ·skip
    obtain ⟨e5, rs5, hy5, hp5⟩ := hd 5 (by decide)
    obtain ⟨hv5, hr5⟩ := hy5; subst hr5
    rw [hv5] at e5
    exact opG_of rfl (vblt rfl (pv1 (tmp_ev (slot_ev e5 rfl))) un_34 ty_106 ze_106 (by decide) (cs := [(Value.int .i64 ((b.tabs.getD k tab0).frm)), (Value.int .i64 ((b.tabs.getD k tab0).dst)), (lr k), (lb k), (Value.int .i64 ((b.tabs.getD k tab0).err))]) (bs_106_1_0iivvia _ _ _ _ _) rfl (by decide) (fun _ => And.intro trivial rfl))
   refine ⟨fun hj_ => absurd hj_ (by decide), ?_⟩
   refine ⟨fun hj_ hj1_ a w vs75 hA hS hd => ?_, ?_⟩
   ·skip
    obtain ⟨e7, rs7, hy7, hp7⟩ := hd 7 (by decide)
    obtain ⟨hv7, hr7⟩ := hy7; subst hr7
    rw [hv7] at e7
    exact opG_of rfl (vv (op_extract rfl (tmp_ev (slot_ev e7 rfl)) rfl) (And.intro rfl rfl))
   refine ⟨fun hj_ => absurd hj_ (by decide), ?_⟩
   refine ⟨fun hj_ hj1_ a w vs75 hA hS hd => ?_, ?_⟩
   ·skip
    obtain ⟨e7, rs7, hy7, hp7⟩ := hd 7 (by decide)
    obtain ⟨hv7, hr7⟩ := hy7; subst hr7
    rw [hv7] at e7
    exact opG_of rfl (vv (op_extract rfl (tmp_ev (slot_ev e7 rfl)) rfl) (And.intro rfl rfl))
   trivial
  ·skip
   intro o_ ho_ a w vs75 Lr hA hd hL hS; obtain rfl := Option.some.inj ho_; clear ho_
   obtain ⟨e2, rs2, hy2, hp2⟩ := hd 2 (by decide)
   obtain ⟨hv2, hr2⟩ := hy2; subst hr2
   rw [hv2] at e2
   exact opG_of rfl (opY_mono (op_load1 rfl ty_144 (tmp_ev (slot_ev e2 rfl)) (hL.bk 2 rfl) rfl) (fun v_ w_ h_ => by obtain ⟨rfl, rfl⟩ := h_; exact ⟨⟨rfl, rfl⟩, hS⟩))
  ·skip
   refine ⟨fun o_ ho_ => ?_, ⟨fun o_ ho_ => ?_, trivial⟩⟩
   ·skip
    obtain rfl := Option.some.inj ho_; clear ho_
    intro a w vs75 rs0 Lr hA hs0 hy0 hd hL hS; obtain ⟨hv3, hr3⟩ := hy0; subst hr3; rw [hv3] at hs0
    obtain ⟨e4, rs4, hy4, hp4⟩ := hd 4 (by decide) (by decide)
    obtain ⟨hv4, hr4⟩ := hy4; subst hr4
    rw [hv4] at e4
    exact opG_of rfl (opY_mono (op_mapEntryF hS rfl un_144 pair_162 zs_34 (tmp_ev (slot_ev hs0 rfl)) (tmp_ev (slot_ev e4 rfl)) hMO (fun _ _ => bC_zero) hEn hq1 hk1) fun v_ w_ h_ => ⟨_, ⟨h_.1, rfl⟩, h_.2⟩)
   ·skip
    obtain rfl := Option.some.inj ho_; clear ho_
    intro a w vs75 rs0 Lr hA hs0 hy0 hd hL hS; obtain ⟨hv7, hr7⟩ := hy0; subst hr7; rw [hv7] at hs0
    obtain ⟨e6, rs6, hy6, hp6⟩ := hd 6 (by decide) (by decide)
    obtain ⟨hv6, hr6⟩ := hy6; subst hr6
    have hp6_0 := hp6 (by decide) _ (List.mem_of_getElem? (i := 0) rfl)
    obtain ⟨e8, rs8, hy8, hp8⟩ := hd 8 (by decide) (by decide)
    obtain ⟨hv8, hr8⟩ := hy8; subst hr8
    rw [hv8] at e8
    exact opG_of rfl (opY_mono (op_append hS rfl un_34 el_106 (tmp_ev (slot_ev e8 rfl)) (tmp_ev (slot_ev e6 rfl)) (i := 0) rfl (SlAt.of_row hp6_0) (all_c rfl (all_c rfl (all_c (((tabs_at (hL.ok 4 _ rfl)).row (i := k) (by omega)).one) (all_c (((tabs_at (hL.ok 4 _ rfl)).brk (i := k) (by omega)).one) (all_c rfl all_n))))) (by have := bN_le b.tabs k ((b.tabs.getD k tab0).frm) ((b.tabs.getD k tab0).dst); simp only [maxLen]; omega) (by have := bN_le b.tabs k ((b.tabs.getD k tab0).frm) ((b.tabs.getD k tab0).dst); omega)) fun v_ w_ h_ => ⟨_, And.intro trivial rfl, h_⟩)
  ·skip
   intro a76 w77 vs75 rsf hA78 hH hrq hS79; clear hA73 hS74
   have hrq_3 := hrq (7, 3) (by decide); have hrq_7 := hrq (9, 7) (by decide)
   obtain ⟨hs_0, rs_0, hy_0, hf_0⟩ := hH 0 (by decide); obtain ⟨hv_0, hr_0⟩ := hy_0; replace hf_0 := (hf_0 (by decide)).trans hr_0
   obtain ⟨hs_1, rs_1, hy_1, hf_1⟩ := hH 1 (by decide); obtain ⟨hv_1, hr_1⟩ := hy_1; replace hf_1 := (hf_1 (by decide)).trans hr_1
   obtain ⟨hs_2, rs_2, hy_2, hf_2⟩ := hH 2 (by decide); obtain ⟨hv_2, hr_2⟩ := hy_2; replace hf_2 := (hf_2 (by decide)).trans hr_2
   obtain ⟨hs_4, rs_4, hy_4, hf_4⟩ := hH 4 (by decide); obtain ⟨hv_4, hr_4⟩ := hy_4; replace hf_4 := (hf_4 (by decide)).trans hr_4
   obtain ⟨hs_5, rs_5, hy_5, hf_5⟩ := hH 5 (by decide); obtain ⟨hv_5, hr_5⟩ := hy_5; replace hf_5 := (hf_5 (by decide)).trans hr_5
   obtain ⟨hs_6, rs_6, hy_6, hf_6⟩ := hH 6 (by decide); obtain ⟨hv_6, hr_6⟩ := hy_6; replace hf_6 := (hf_6 (by decide)).trans hr_6
   obtain ⟨hs_8, rs_8, hy_8, hf_8⟩ := hH 8 (by decide); obtain ⟨hv_8, hr_8⟩ := hy_8; replace hf_8 := (hf_8 (by decide)).trans hr_8
   obtain ⟨hs_9, rs_9, hy_9, hf_9⟩ := hH 9 (by decide); obtain ⟨hv_9, hr_9⟩ := hy_9; replace hf_9 := (hf_9 (by decide)).trans hr_9
   obtain ⟨hs_10, rs_10, hy_10, hf_10⟩ := hH 10 (by decide); obtain ⟨hv_10, hr_10⟩ := hy_10; replace hf_10 := (hf_10 (by decide)).trans hr_10
   obtain ⟨hs_3, rs_3, hy_3, hf_3⟩ := hH 3 (by decide); obtain ⟨hv_3, hr_3⟩ := hy_3
   have hS80 : Sep NoB w w77 [(row (vs75 6) 106 5 1 [(Value.int .i64 ((b.tabs.getD k tab0).frm)), (Value.int .i64 ((b.tabs.getD k tab0).dst)), (lr k), (lb k), (Value.int .i64 ((b.tabs.getD k tab0).err))]), (row (vs75 9) 106 5 (bN b.tabs k (b.tabs.getD k tab0).frm (b.tabs.getD k tab0).dst + 1) (bC lr lb b.tabs k (b.tabs.getD k tab0).frm (b.tabs.getD k tab0).dst ++ [.int .i64 (b.tabs.getD k tab0).frm, .int .i64 (b.tabs.getD k tab0).dst, lr k, lb k, .int .i64 (b.tabs.getD k tab0).err])), (mapX true bm es1 ck1 q 106 5 (bN b.tabs k) (bC lr lb b.tabs k)), (blk b66 162 [(Value.int .i64 ((b.tabs.getD k tab0).frm)), (Value.int .i64 ((b.tabs.getD k tab0).dst))]), (blk b47 106 [(Value.int .i64 ((b.tabs.getD k tab0).frm)), (Value.int .i64 ((b.tabs.getD k tab0).dst)), (lr k), (lb k), (Value.int .i64 ((b.tabs.getD k tab0).err))]), (blk b19 146 [(Value.int .i64 b.scales), vt, vm, (Value.map (some bm))]), (blk b4 37 [(Value.int .i64 b.scales), vt, vm]), (tabsR false vt lr lb b.tabs), (macsR false vm lk b.macs)] := by rw [show catR rsf 0 11 = ([(row (vs75 6) 106 5 1 [(Value.int .i64 ((b.tabs.getD k tab0).frm)), (Value.int .i64 ((b.tabs.getD k tab0).dst)), (lr k), (lb k), (Value.int .i64 ((b.tabs.getD k tab0).err))]), (row (vs75 9) 106 5 (bN b.tabs k (b.tabs.getD k tab0).frm (b.tabs.getD k tab0).dst + 1) (bC lr lb b.tabs k (b.tabs.getD k tab0).frm (b.tabs.getD k tab0).dst ++ [.int .i64 (b.tabs.getD k tab0).frm, .int .i64 (b.tabs.getD k tab0).dst, lr k, lb k, .int .i64 (b.tabs.getD k tab0).err])), (mapX true bm es1 ck1 q 106 5 (bN b.tabs k) (bC lr lb b.tabs k))] : List Res) by (try simp only [catR, hf_0, hf_1, hf_2, hf_4, hf_5, hf_6, hf_8, hf_9, hf_10, hrq_3, hrq_7]); (try rfl)] at hS79; exact hS79
   rw [hv_3] at hs_3
   have hA81 : Fr 36 [] [(26, (Value.map (some bm))), (6, (bptr b66 0)), (5, (bptr b47 0)), (14, (Value.int .i64 (k : Int))), (13, (Value.int .i64 (b.tabs.length : Int))), (12, vt), (3, (bptr b19 0))] a76 := hA78.add (slot_ev hs_3 rfl); clear hA78
   rw [hv_10] at hs_10
   have hA82 : Fr 36 [] [(33, (Value.int .i64 (e.born : Int))), (26, (Value.map (some bm))), (6, (bptr b66 0)), (5, (bptr b47 0)), (14, (Value.int .i64 (k : Int))), (13, (Value.int .i64 (b.tabs.length : Int))), (12, vt), (3, (bptr b19 0))] a76 := hA81.add (slot_ev hs_10 rfl); clear hA81
   have hA83 : Fr 36 [] [(32, (vs75 9)), (33, (Value.int .i64 (e.born : Int))), (26, (Value.map (some bm))), (6, (bptr b66 0)), (5, (bptr b47 0)), (14, (Value.int .i64 (k : Int))), (13, (Value.int .i64 (b.tabs.length : Int))), (12, vt), (3, (bptr b19 0))] a76 := hA82.add (slot_ev hs_9 rfl); clear hA82
   clear hH hs_0 hs_1 hs_2 hs_4 hs_5 hs_6 hs_8 hs_9 hs_10 hs_3
   have hS84 : Sep NoB w w77 [(row (vs75 9) 106 5 (bN b.tabs k (b.tabs.getD k tab0).frm (b.tabs.getD k tab0).dst + 1) (bC lr lb b.tabs k (b.tabs.getD k tab0).frm (b.tabs.getD k tab0).dst ++ [.int .i64 (b.tabs.getD k tab0).frm, .int .i64 (b.tabs.getD k tab0).dst, lr k, lb k, .int .i64 (b.tabs.getD k tab0).err])), (mapX true bm es1 ck1 q 106 5 (bN b.tabs k) (bC lr lb b.tabs k)), (row (vs75 6) 106 5 1 [(Value.int .i64 ((b.tabs.getD k tab0).frm)), (Value.int .i64 ((b.tabs.getD k tab0).dst)), (lr k), (lb k), (Value.int .i64 ((b.tabs.getD k tab0).err))]), (blk b66 162 [(Value.int .i64 ((b.tabs.getD k tab0).frm)), (Value.int .i64 ((b.tabs.getD k tab0).dst))]), (blk b47 106 [(Value.int .i64 ((b.tabs.getD k tab0).frm)), (Value.int .i64 ((b.tabs.getD k tab0).dst)), (lr k), (lb k), (Value.int .i64 ((b.tabs.getD k tab0).err))]), (blk b19 146 [(Value.int .i64 b.scales), vt, vm, (Value.map (some bm))]), (blk b4 37 [(Value.int .i64 b.scales), vt, vm]), (tabsR false vt lr lb b.tabs), (macsR false vm lk b.macs)] := hS80.keep [1, 2, 0, 3, 4, 5, 6, 7, 8] (by decide) _ rfl rfl; clear hS80
   refine s7 hA83 (op_entryStore (n' := bN b.tabs (k + 1)) (c' := bC lr lb b.tabs (k + 1)) hS84 rfl (hA83.ev rfl) (hA83.ev rfl) (hA83.ev rfl) hMO1 hq1 hk1 bN_next bC_next (b_other lr lb)) ?_
   intro _ w85 hS87 hA86; clear hA83 hS84
   refine wl_nil ?_
   refine blk_n ?_
   refine then_n ?_
   refine c_region ?_
   refine s1 hA86 (op_add rfl (hA86.ev rfl) (evc _ _) (by omega) (by omega)) fun a88 hA89 => ?_; clear hA86 a76
   refine s1 hA89 (op_move rfl (hA89.ev rfl)) fun a90 hA91 => ?_; clear hA89 a88
   refine wl_nil ?_
   have hS92 : Sep NoB w w85 [(blk b19 146 [(Value.int .i64 b.scales), vt, vm, (Value.map (some bm))]), (mapX true bm (es1.modify q fun e => { e with val := (vs75 9) }) ck1 ((es1.modify q fun e => { e with val := (vs75 9) }).size) 106 5 (bN b.tabs (k + 1)) (bC lr lb b.tabs (k + 1))), (blk b4 37 [(Value.int .i64 b.scales), vt, vm]), (tabsR false vt lr lb b.tabs), (macsR false vm lk b.macs)] := hS87.keep [4, 0, 5, 6, 7] (by decide) _ rfl rfl; clear hS87
   exact then_n ⟨k + 1, ⟨(es1.modify q fun e => { e with val := (vs75 9) }), ck1, hA91.as _ rfl, hS92, by omega, (hMO1.store hq1 hk1 (fun a_ b_ h_ => (b_other lr lb a_ b_ h_).1))⟩, by omega⟩
 ·skip
  rw [decide_eq_false hb39] at hA38
  refine c_false hA38 rfl ?_
  refine c_exit ?_
  refine then_exit ?_
  refine then_exit ?_
  refine blk_hit ?_
  refine then_n ?_
  refine m2 ?_
  refine s1 hA38 (op_move rfl (hA38.ev rfl)) fun a93 hA94 => ?_; clear hA38 a37
  refine s1 hA94 (op_assign rfl (hA94.ev rfl)) fun a95 hA96 => ?_; clear hA94 a93
  refine n1 ?_
  refine c_ret ?_
  refine fin_run hA96 (.inl rfl) (run_results1 hA96 rfl (.tmp rfl)) ?_
  have hkk : k = b.tabs.length := by omega
  subst hkk
  exact ⟨_, bm, es_, ck_, rfl, hMO, hS36.keep [0, 1] (by decide) _ rfl rfl⟩
end Go.Proofs.Ytohgladndklciaa

namespace Go.Hard
open Go.RowKit Go.Eng
def fromTo (ts : List TabD) (i j : Int) : List TabD := ts.filter fun t => decide (t.frm = i) && decide (t.dst = j)
def toL (n : Nat) (ts : List TabD) (k : Nat) : List TabD := (List.range n).flatMap fun (f : Nat) => fromTo ts (f : Int) (k : Int)
def rest0 (n : Nat) (ts : List TabD) (k : Nat) : List TabD := ((List.range n).drop k).flatMap (toL n ts)
def rest1 (n : Nat) (ts : List TabD) (k k2 : Nat) : List TabD := ((List.range n).drop k2).flatMap fun (f : Nat) => fromTo ts (f : Int) (k : Int)
theorem drop_range {n k : Nat} (h : k < n) : (List.range n).drop k = k :: (List.range n).drop (k + 1) := by
  rw [List.drop_eq_getElem_cons (by simpa using h), List.getElem_range]
theorem rest0_next {n k : Nat} {ts : List TabD} (h : k < n) : rest0 n ts k = toL n ts k ++ rest0 n ts (k + 1) := by
  unfold rest0; rw [drop_range h, List.flatMap_cons]
theorem rest0_end {n k : Nat} {ts : List TabD} (h : n ≤ k) : rest0 n ts k = [] := by
  unfold rest0; rw [List.drop_eq_nil_of_le (by simpa using h)]; rfl
theorem rest1_zero (n k : Nat) (ts : List TabD) : rest1 n ts k 0 = toL n ts k := rfl
theorem rest1_next {n k k2 : Nat} {ts : List TabD} (h : k2 < n) : rest1 n ts k k2 = fromTo ts (k2 : Int) (k : Int) ++ rest1 n ts k (k2 + 1) := by
  unfold rest1; rw [drop_range h, List.flatMap_cons]
theorem rest1_end {n k k2 : Nat} {ts : List TabD} (h : n ≤ k2) : rest1 n ts k k2 = [] := by
  unfold rest1; rw [List.drop_eq_nil_of_le (by simpa using h)]; rfl
theorem getD_range_map (ts : List TabD) : (List.range ts.length).map (fun q => ts.getD q tab0) = ts := by
  refine List.ext_getElem (by simp) fun i h1 h2 => ?_
  simp [List.getD, List.getElem?_eq_getElem h2]
theorem sel_is (ts : List TabD) (i j : Int) : selT ts (selU ts ts.length i j) = fromTo ts i j := by
  unfold selT selU fromTo
  have h := getD_range_map ts
  conv => rhs; rw [← h]
  rw [List.filter_map]; rfl
theorem sel_scales {ts : List TabD} {i j : Int} {p : Nat} (hp : p < bN ts ts.length i j) : ((selT ts (selU ts ts.length i j)).getD p tab0).frm = i ∧ ((selT ts (selU ts ts.length i j)).getD p tab0).dst = j ∧ (selT ts (selU ts ts.length i j)).getD p tab0 ∈ ts := by
  have hl : p < (selT ts (selU ts ts.length i j)).length := by rw [selT_len]; exact hp
  have hm : (selT ts (selU ts ts.length i j)).getD p tab0 ∈ fromTo ts i j := by
    rw [← sel_is]; simp only [List.getD, List.getElem?_eq_getElem hl, Option.getD_some]; exact List.getElem_mem hl
  unfold fromTo at hm
  rw [List.mem_filter, Bool.and_eq_true, decide_eq_true_eq, decide_eq_true_eq] at hm
  exact ⟨hm.2.1, hm.2.2, hm.1⟩
theorem sel_rl {b : BookD} (h : ThinB b) (l : List Nat) (p : Nat) : ((selT b.tabs l).getD p tab0).rows.length ≤ 1000000 ∧ ((selT b.tabs l).getD p tab0).brk.length ≤ 1000000 := by
  rcases Nat.lt_or_ge p l.length with hp | hp
  · rw [sel_at hp]; exact ⟨h.rl _, h.bl _⟩
  · rw [getD_out (by rw [selT_len]; exact hp)]; exact ⟨by decide, by decide⟩
def Cut0 (n : Nat) (ts : List TabD) (s : Spans) (k : Nat) (x : Spans) : Prop := (rest0 n ts k).foldl goS (x, false) = passF (orderF n ts) s
def Cut1 (n : Nat) (ts : List TabD) (s : Spans) (k k2 : Nat) (x : Spans) : Prop := (rest1 n ts k k2 ++ rest0 n ts (k + 1)).foldl goS (x, false) = passF (orderF n ts) s
def Cut2 (n : Nat) (ts : List TabD) (s : Spans) (k k2 k3 : Nat) (x : Spans) : Prop := ((fromTo ts (k2 : Int) (k : Int)).drop k3 ++ (rest1 n ts k (k2 + 1) ++ rest0 n ts (k + 1))).foldl goS (x, false) = passF (orderF n ts) s
section
variable {n : Nat} {ts : List TabD} {s x : Spans} {k k2 k3 : Nat}
theorem cut_00 : Cut0 n ts s 0 s := rfl
theorem cut_01 (hk : k < n) (h : Cut0 n ts s k x) : Cut1 n ts s k 0 x := by
  unfold Cut1; rw [rest1_zero, ← rest0_next hk]; exact h
theorem cut_12 (hk : k2 < n) (h : Cut1 n ts s k k2 x) : Cut2 n ts s k k2 0 x := by
  unfold Cut2; rw [List.drop_zero, ← List.append_assoc, ← rest1_next hk]; exact h
theorem cut_21 (hk : bN ts ts.length (k2 : Int) (k : Int) ≤ k3) (h : Cut2 n ts s k k2 k3 x) : Cut1 n ts s k (k2 + 1) x := by
  unfold Cut2 at h
  rw [List.drop_eq_nil_of_le (by rw [← sel_is, selT_len]; exact hk), List.nil_append] at h; exact h
theorem cut_10 (hk : n ≤ k2) (h : Cut1 n ts s k k2 x) : Cut0 n ts s (k + 1) x := by
  unfold Cut1 at h; rw [rest1_end hk, List.nil_append] at h; exact h
theorem cut_end (hk : n ≤ k) (h : Cut0 n ts s k x) : passF (orderF n ts) s = (x, false) := by
  unfold Cut0 at h; rw [rest0_end hk] at h; exact h.symm
theorem cut_go (hk : k3 < bN ts ts.length (k2 : Int) (k : Int)) (h : Cut2 n ts s k k2 k3 x) : ((fromTo ts (k2 : Int) (k : Int)).drop (k3 + 1) ++ (rest1 n ts k (k2 + 1) ++ rest0 n ts (k + 1))).foldl goS (goS (x, false) ((selT ts (selU ts ts.length (k2 : Int) (k : Int))).getD k3 tab0)) = passF (orderF n ts) s := by
  unfold Cut2 at h
  have hl : k3 < (fromTo ts (k2 : Int) (k : Int)).length := by rw [← sel_is, selT_len]; exact hk
  rw [List.drop_eq_getElem_cons hl, List.cons_append, List.foldl_cons] at h
  rw [sel_is, show (fromTo ts (k2 : Int) (k : Int)).getD k3 tab0 = (fromTo ts (k2 : Int) (k : Int))[k3] by simp [List.getD, List.getElem?_eq_getElem hl]]
  exact h
theorem cut_brk (hk : k3 < bN ts ts.length (k2 : Int) (k : Int)) (h : Cut2 n ts s k k2 k3 x) (he : (at' x k).2 < (at' x k).1) : passF (orderF n ts) s = (x, true) := by
  have h1 := cut_go hk h
  have hd := (sel_scales hk).2.1
  have : goS (x, false) ((selT ts (selU ts ts.length (k2 : Int) (k : Int))).getD k3 tab0) = (x, true) := by
    unfold goS; rw [hd, Int.toNat_natCast, if_neg (show ¬ false = true by decide), if_pos he]
  rw [this, go_stop] at h1
  exact h1.symm
theorem cut_y (hk : k3 < bN ts ts.length (k2 : Int) (k : Int)) (h : Cut2 n ts s k k2 k3 x) (he : ¬ (at' x k).2 < (at' x k).1) (hc : convB ((selT ts (selU ts ts.length (k2 : Int) (k : Int))).getD k3 tab0) (at' x k2) = true) :
    Cut2 n ts s k k2 (k3 + 1) (x.set k (cutR (at' x k) (convF ((selT ts (selU ts ts.length (k2 : Int) (k : Int))).getD k3 tab0) (at' x k2)))) := by
  have h1 := cut_go hk h
  have hd := sel_scales hk
  unfold Cut2
  rw [← h1]
  congr 1
  unfold goS stepF
  rw [hd.2.1, hd.1, Int.toNat_natCast, Int.toNat_natCast, if_neg (show ¬ false = true by decide), if_neg he, if_pos hc]
theorem cut_n (hk : k3 < bN ts ts.length (k2 : Int) (k : Int)) (h : Cut2 n ts s k k2 k3 x) (he : ¬ (at' x k).2 < (at' x k).1) (hc : convB ((selT ts (selU ts ts.length (k2 : Int) (k : Int))).getD k3 tab0) (at' x k2) = false) :
    Cut2 n ts s k k2 (k3 + 1) x := by
  have h1 := cut_go hk h
  have hd := sel_scales hk
  unfold Cut2
  rw [← h1]
  congr 1
  unfold goS stepF
  rw [hd.2.1, hd.1, Int.toNat_natCast, Int.toNat_natCast, if_neg (show ¬ false = true by decide), if_neg he, if_neg (by rw [hc]; decide)]
end
theorem full_any {n : Nat} {s : Spans} (h : n ≤ s.length) : (!(List.range (s.take n).length).any fun i => decide (((s.take n).getD i (0, 0)).2 < ((s.take n).getD i (0, 0)).1)) = fullB n s := by
  rw [List.length_take, Nat.min_eq_left h, Bool.eq_iff_iff, Bool.not_eq_true', List.any_eq_false, full_iff]
  have at'' : ∀ i, i < n → (s.take n).getD i (0, 0) = at' s i := fun i hi => by
    unfold at'; simp [List.getD, List.getElem?_take, hi]
  constructor
  · intro h1 i hi
    have := h1 i (List.mem_range.2 hi)
    rw [at'' i hi, decide_eq_true_eq] at this
    omega
  · intro h1 i hi
    have hi := List.mem_range.1 hi
    have := h1 i hi
    rw [at'' i hi, decide_eq_true_eq]
    omega
end Go.Hard

namespace Go.Proofs.Ytohgladndklciaa
open Go.RowKit Go.Shelf Go.Eng Go.Hard
theorem fd_98_0 : fldK Try.prog 98 0 = some 0 := by kernel_rfl
theorem fd_98_1 : fldK Try.prog 98 1 = some 1 := by kernel_rfl
theorem en_83 : ∀ args w, (callFunc 83 args).run Try.prog w = .ok (.enter 83 args) w := enters_of Try.func83 (by kernel_rfl) rfl
theorem en_84 : ∀ args w, (callFunc 84 args).run Try.prog w = .ok (.enter 84 args) w := enters_of Try.func84 (by kernel_rfl) rfl
theorem en_85 : ∀ args w, (callFunc 85 args).run Try.prog w = .ok (.enter 85 args) w := enters_of Try.func85 (by kernel_rfl) rfl
theorem en_86 : ∀ args w, (callFunc 86 args).run Try.prog w = .ok (.enter 86 args) w := enters_of Try.func86 (by kernel_rfl) rfl
theorem right_ok (b : BookD) (vt vm : Value) (lr lb lk : Nat → Value) (w : World) (hT : TabsAt w vt lr lb b.tabs) (hM : MacsAt w vm lk b.macs) (hth : ThinB b) (x1 x2 : Int) (b2 : Nat) (g2 : (blk b2 37 [.int .i64 b.scales, vt, vm]).p w) :
  Calls Try.prog 83 #[(Value.agg #[(Value.int .i64 x1), (Value.int .i64 x2)]), (bptr b2 0)] w (Ret fun v w' => v = .bool (readB b (x1, x2)) ∧ Ext NoB w w') := by
 refine calls_enter Try.func83 rfl fun a0 hA0 => ?_
 replace hA0 : Fr 16 [] [(0, (Value.agg #[(Value.int .i64 x1), (Value.int .i64 x2)])), (1, (bptr b2 0))] a0 := hA0
 have hml9 := hth.ml
 have hS0 : Sep NoB w w [(rob b2 37 [(Value.int .i64 b.scales), vt, vm]), (tabsR false vt lr lb b.tabs), (macsR false vm lk b.macs)] := sep_ro ⟨rfl, g2, rfl, hT, rfl, hM, trivial⟩
 refine m2 ?_
 refine s2 hA0 (op_box hS0 rfl (hA0.ev rfl) (cs := [(Value.int .i64 x1), (Value.int .i64 x2)]) rfl) ?_
 rintro a1 _ w3 ⟨b4, rfl, hS5⟩ hA2; clear hA0 hS0 a0
 refine s1 hA2 (op_assign rfl (evc _ _)) fun a6 hA7 => ?_; clear hA2 a1
 refine n4 ?_
 refine s1 hA7 (op_field rfl fd_98_0 (hA7.ev rfl)) fun a8 hA9 => ?_; clear hA7 a6
 refine s1 hA9 (op_load1 rfl ty_3 (hA9.ev rfl) (hS5.bk 0 rfl) rfl) fun a10 hA11 => ?_; clear hA9 a8
 refine s1 hA11 (op_field rfl fd_37_2 (hA11.ev rfl)) fun a12 hA13 => ?_; clear hA11 a10
 refine s1 hA13 (op_load1 rfl ty_35 (hA13.ev rfl) (hS5.rk 1 rfl) rfl) fun a14 hA15 => ?_; clear hA13 a12
 refine s1 hA15 (op_lenS rfl un_35 (hA15.ev rfl) (macs_at (hS5.ok 3 _ rfl)).macs) fun a16 hA17 => ?_; clear hA15 a14
 refine s1 hA17 (op_sub rfl (hA17.ev rfl) (evc _ _) (by omega) (by omega)) fun a18 hA19 => ?_; clear hA17 a16
 refine s2 hA19 (op_call rfl en_47 (ev3 (hA19.ev rfl) (evc _ _) (hA19.ev rfl)) (within_ok _ _ _ _)) ?_
 rintro a20 _ W_ ⟨rfl, hW_⟩ hA21; have hW2_ := hW_.symm; subst hW2_; clear hW_ hA19 a18
 refine s1 hA21 (op_move rfl (hA21.ev rfl)) fun a23 hA24 => ?_; clear hA21 a20
 rcases Bool.eq_false_or_eq_true ((inB x1 0 ((b.macs.length : Int) - 1))) with hb25 | hb25
 ·skip
  rw [hb25] at hA24
  refine s5 hA24 (op_field rfl fd_98_1 (hA24.ev rfl)) fun a26 hA27 => ?_; clear hA24 a23
  refine s5 hA27 (op_load1 rfl ty_3 (hA27.ev rfl) (hS5.bk 0 rfl) rfl) fun a28 hA29 => ?_; clear hA27 a26
  refine s6 hA29 (op_call rfl en_70 (ev1 (hA29.ev rfl)) (value_ok _ _)) ?_
  rintro a30 _ w32 ⟨rfl, hE33⟩ hA31; have hS34 := hS5.step hE33; clear hE33 hA29 hS5 a28
  refine s1 hA31 (op_pick_t rfl (hA31.ev rfl) (hA31.ev rfl)) fun a35 hA36 => ?_; clear hA31 a30
  refine s1 hA36 (op_assign rfl (hA36.ev rfl)) fun a37 hA38 => ?_; clear hA36 a35
  refine n1 ?_
  refine c_ret ?_
  refine fin_run hA38 (.inl rfl) (run_results1 hA38 rfl (.tmp rfl)) ?_
  exact ⟨congrArg Value.bool (by unfold readB; simp [*]), hS34.ext⟩
 ·skip
  rw [hb25] at hA24
  refine s3 hA24 fun a39 hA40 => ?_; clear hA24 a23
  refine s3 hA40 fun a41 hA42 => ?_; clear hA40 a39
  refine s3 hA42 fun a43 hA44 => ?_; clear hA42 a41
  refine s1 hA44 (op_pick_f rfl (hA44.ev rfl) (evc _ _)) fun a45 hA46 => ?_; clear hA44 a43
  refine s1 hA46 (op_assign rfl (hA46.ev rfl)) fun a47 hA48 => ?_; clear hA46 a45
  refine n1 ?_
  refine c_ret ?_
  refine fin_run hA48 (.inl rfl) (run_results1 hA48 rfl (.tmp rfl)) ?_
  exact ⟨congrArg Value.bool (by unfold readB; simp [*]), hS5.ext⟩
theorem notoff_ok (b : BookD) (vt vm : Value) (lr lb lk : Nat → Value) (w : World) (hT : TabsAt w vt lr lb b.tabs) (hM : MacsAt w vm lk b.macs) (hth : ThinB b) (x1 x2 : Int) (b2 : Nat) (g2 : (blk b2 37 [.int .i64 b.scales, vt, vm]).p w) (hb : BookV b) (hx : 0 ≤ x1 ∧ x1 ≤ (b.macs.length : Int) - 1) :
  Calls Try.prog 85 #[(Value.agg #[(Value.int .i64 x1), (Value.int .i64 x2)]), (bptr b2 0)] w (Ret fun v w' => v = .bool (!offB (b.macs.getD x1.toNat mac0)) ∧ Ext NoB w w') := by
 refine calls_enter Try.func85 rfl fun a0 hA0 => ?_
 replace hA0 : Fr 13 [] [(0, (Value.agg #[(Value.int .i64 x1), (Value.int .i64 x2)])), (1, (bptr b2 0))] a0 := hA0
 have hml9 := hth.ml
 have hS0 : Sep NoB w w [(rob b2 37 [(Value.int .i64 b.scales), vt, vm]), (tabsR false vt lr lb b.tabs), (macsR false vm lk b.macs)] := sep_ro ⟨rfl, g2, rfl, hT, rfl, hM, trivial⟩
 refine m2 ?_
 refine s2 hA0 (op_box hS0 rfl (hA0.ev rfl) (cs := [(Value.int .i64 x1), (Value.int .i64 x2)]) rfl) ?_
 rintro a1 _ w3 ⟨b4, rfl, hS5⟩ hA2; clear hA0 hS0 a0
 refine s1 hA2 (op_assign rfl (evc _ _)) fun a6 hA7 => ?_; clear hA2 a1
 refine n4 ?_
 refine s1 hA7 (op_field rfl fd_37_2 (hA7.ev rfl)) fun a8 hA9 => ?_; clear hA7 a6
 refine s1 hA9 (op_load1 rfl ty_35 (hA9.ev rfl) (hS5.rk 1 rfl) rfl) fun a10 hA11 => ?_; clear hA9 a8
 refine s1 hA11 (op_field rfl fd_98_0 (hA11.ev rfl)) fun a12 hA13 => ?_; clear hA11 a10
 refine s1 hA13 (op_load1 rfl ty_3 (hA13.ev rfl) (hS5.bk 0 rfl) rfl) fun a14 hA15 => ?_; clear hA13 a12
 refine s1 hA15 (op_indexS rfl un_35 ty_103 (hA15.ev rfl) (i := x1.toNat) ((hA15.ev rfl).trans (int_nat (by omega))) (macs_at (hS5.ok 3 _ rfl)).macs (by decide) (by omega)) fun a16 hA17 => ?_; clear hA15 a14
 refine s1 hA17 (op_loadAE rfl ty_103 (hA17.ev rfl) (macs_at (hS5.ok 3 _ rfl)).macs (macs_all (by omega)) rfl (by decide)) fun a18 hA19 => ?_; clear hA17 a16
 refine s2 hA19 (op_call rfl en_67 (ev1 (hA19.ev rfl)) (bias_ok _ (b.macs.getD x1.toNat mac0) _ _ ((macs_at (hS5.ok 3 _ rfl)).blk (i := x1.toNat) (by omega)) (hb.mac (by omega)) (hth.kl _))) ?_
 rintro a20 _ w22 ⟨rfl, hE23⟩ hA21; have hS24 := hS5.step hE23; clear hE23 hA19 hS5 a18
 refine s2 hA21 (op_call rfl en_68 (ev1 (hA21.ev rfl)) (empty_ok _ _ _)) ?_
 rintro a25 _ w27 ⟨rfl, hE28⟩ hA26; have hS29 := hS24.step hE28; clear hE28 hA21 hS24 a20
 refine s1 hA26 (op_not rfl (hA26.ev rfl)) fun a30 hA31 => ?_; clear hA26 a25
 refine s1 hA31 (op_assign rfl (hA31.ev rfl)) fun a32 hA33 => ?_; clear hA31 a30
 refine n1 ?_
 refine c_ret ?_
 refine fin_run hA33 (.inl rfl) (run_results1 hA33 rfl (.tmp rfl)) ?_
 exact ⟨rfl, hS29.ext⟩
theorem read_yes (b : BookD) (vt vm : Value) (lr lb lk : Nat → Value) (w : World) (hT : TabsAt w vt lr lb b.tabs) (hM : MacsAt w vm lk b.macs) (hth : ThinB b) (l : List (Int × Int)) (xl : Value) (hxl : SlAt w xl 2 l.length (pairs l)) (hlb : l.length ≤ 1000000) (he : checkF b = 0) (hr : readF b l = 0) :
  Calls Try.prog 56 #[(Value.agg #[(Value.int .i64 b.scales), vt, vm]), xl] w (Ret fun v w' => ∃ bx bm es ck, v = .tuple #[bptr bx 0, .int .i64 0] ∧ MapOk bm es ck (bN b.tabs b.tabs.length) ∧ Sep NoB w w' [blk bx 146 [.int .i64 b.scales, vt, vm, .map (some bm)], (mapX true bm es ck es.size 106 5 (bN b.tabs b.tabs.length) (bC lr lb b.tabs b.tabs.length))]) := by
 refine calls_enter Try.func56 rfl fun a0 hA0 => ?_
 replace hA0 : Fr 30 [] [(0, (Value.agg #[(Value.int .i64 b.scales), vt, vm])), (1, xl)] a0 := hA0
 have hS0 : Sep NoB w w [(tabsR false vt lr lb b.tabs), (macsR false vm lk b.macs), (sl xl 2 l.length (pairs l))] := sep_ro ⟨rfl, hT, rfl, hM, rfl, hxl, trivial⟩
 refine m2 ?_
 refine s2 hA0 (op_box hS0 rfl (hA0.ev rfl) (cs := [(Value.int .i64 b.scales), vt, vm]) rfl) ?_
 rintro a1 _ w3 ⟨b4, rfl, hS5⟩ hA2; clear hA0 hS0 a0
 refine s1 hA2 (op_assign rfl (evc _ _)) fun a6 hA7 => ?_; clear hA2 a1
 refine s1 hA7 (op_assign rfl (evc _ _)) fun a8 hA9 => ?_; clear hA7 a6
 refine n2 ?_
 refine m2 ?_
 refine s1 hA9 (op_loadA rfl ty_37 (hA9.ev rfl) (hS5.bk 0 rfl) (l := [(Value.int .i64 b.scales), vt, vm]) rfl rfl) fun a10 hA11 => ?_; clear hA9 a8
 refine s2 hA11 (op_call rfl en_32 (ev1 (hA11.ev rfl)) (check_book b vt vm lr lb lk _ (tabs_at (hS5.ok 1 _ rfl)) (macs_at (hS5.ok 2 _ rfl)) hth)) ?_
 rintro a12 _ w14 ⟨rfl, hE15⟩ hA13; have hS16 := hS5.step hE15; clear hE15 hA11 hS5 a10
 refine s1 hA13 (op_assign rfl (hA13.ev rfl)) fun a17 hA18 => ?_; clear hA13 a12
 refine n4 ?_
 refine s1 hA18 (op_move rfl (hA18.ev rfl)) fun a19 hA20 => ?_; clear hA18 a17
 refine s1 hA20 (op_neq rfl (hA20.ev rfl) (evc _ _)) fun a21 hA22 => ?_; clear hA20 a19
 have hd23 : (checkF b) = 0 := he
 rw [decide_eq_true hd23] at hA22
 refine n1 ?_
 refine c_false hA22 rfl ?_
 refine c_skip ?_
 refine then_n ?_
 refine c_seq ?_
 have hA24 := hA22.as [(2, (bptr b4 0)), (1, xl)] rfl; clear hA22
 refine c_region ?_
 refine s1 hA24 (op_makeFunc rfl ev0 (ev1 (hA24.ev rfl))) fun a25 hA26 => ?_; clear hA24 a21
 refine s1 hA26 (op_assign rfl (hA26.ev rfl)) fun a27 hA28 => ?_; clear hA26 a25
 refine n2 ?_
 refine c_block ?_
 refine m2 ?_
 refine s1 hA28 (op_move rfl (hA28.ev rfl)) fun a29 hA30 => ?_; clear hA28 a27
 refine s1 hA30 (op_lenS rfl un_53 (hA30.ev rfl) (hS16.sk 3 rfl)) fun a31 hA32 => ?_; clear hA30 a29
 refine s1 hA32 (op_gtr rfl (hA32.ev rfl) (evc _ _)) fun a33 hA34 => ?_; clear hA32 a31
 refine s1 hA34 (op_assign rfl (hA34.ev rfl)) fun a35 hA36 => ?_; clear hA34 a33
 refine n1 ?_
 by_cases hb37 : 8 < (l.length : Int)
 ·skip
  rw [decide_eq_true hb37] at hA36
  refine c_true hA36 rfl ?_
  refine c_seq ?_
  have hA38 := hA36.as [] rfl; clear hA36
  refine c_region ?_
  refine s1 hA38 (op_assign rfl (evc _ _)) fun a39 hA40 => ?_; clear hA38 a35
  refine s1 hA40 (op_assign rfl (evc _ _)) fun a41 hA42 => ?_; clear hA40 a39
  refine n1 ?_
  refine c_ret ?_
  refine blk_ret ?_
  refine then_ret ?_
  refine fin_run hA42 (.inl rfl) (run_results2 hA42 rfl (.tmp rfl) (.tmp rfl)) ?_
  exact absurd (hr.symm.trans (read_3 he (by omega))) (by decide)
 ·skip
  rw [decide_eq_false hb37] at hA36
  refine c_false hA36 rfl ?_
  refine m2 ?_
  refine s1 hA36 (op_move rfl (hA36.ev rfl)) fun a43 hA44 => ?_; clear hA36 a35
  refine s1 hA44 (op_move rfl (hA44.ev rfl)) fun a45 hA46 => ?_; clear hA44 a43
  refine s2 hA46 (op_call rfl en_84 (ev2 (hA46.ev rfl) (hA46.ev rfl)) (all_read l _ 83 #[] #[(bptr b4 0)] (fun i => readB b (l.getD i (0, 0))) _ (hS16.sk 3 rfl) (by omega) ⟨en_83, fun i hi W hW => right_ok b vt vm lr lb lk W (tabs_at ((hS16.step hW).ok 1 _ rfl)) (macs_at ((hS16.step hW).ok 2 _ rfl)) hth _ _ b4 ((hS16.step hW).bk 0 rfl)⟩)) ?_
  rintro a47 _ w49 ⟨rfl, hE50⟩ hA48; have hS51 := hS16.step hE50; clear hE50 hA46 hS16 a45
  refine s1 hA48 (op_not rfl (hA48.ev rfl)) fun a52 hA53 => ?_; clear hA48 a47
  refine s1 hA53 (op_assign rfl (hA53.ev rfl)) fun a54 hA55 => ?_; clear hA53 a52
  refine n1 ?_
  rcases Bool.eq_false_or_eq_true (((List.range l.length).all (fun i => readB b (l.getD i (0, 0))))) with hb56 | hb56
  ·skip
   rw [hb56] at hA55
   refine c_false hA55 rfl ?_
   refine c_seq ?_
   have hA57 := hA55.as [(2, (bptr b4 0)), (1, xl)] rfl; clear hA55
   refine c_region ?_
   refine s1 hA57 (op_move rfl (hA57.ev rfl)) fun a58 hA59 => ?_; clear hA57 a54
   refine s1 hA59 (op_makeFunc rfl ev0 (ev1 (hA59.ev rfl))) fun a60 hA61 => ?_; clear hA59 a58
   refine s2 hA61 (op_call rfl en_84 (ev2 (hA61.ev rfl) (hA61.ev rfl)) (all_read l _ 85 #[] #[(bptr b4 0)] (fun i => !offB (b.macs.getD (l.getD i (0, 0)).1.toNat mac0)) _ (hS51.sk 3 rfl) (by omega) ⟨en_85, fun i hi W hW => notoff_ok b vt vm lr lb lk W (tabs_at ((hS51.step hW).ok 1 _ rfl)) (macs_at ((hS51.step hW).ok 2 _ rfl)) hth _ _ b4 ((hS51.step hW).bk 0 rfl) (check_ok he) (readB_is (allI_iff.1 (show allI l.length (fun i => readB b (l.getD i (0, 0))) = true from (by assumption)) i hi)).1⟩)) ?_
   rintro a62 _ w64 ⟨rfl, hE65⟩ hA63; have hS66 := hS51.step hE65; clear hE65 hA61 hS51 a60
   refine s1 hA63 (op_not rfl (hA63.ev rfl)) fun a67 hA68 => ?_; clear hA63 a62
   refine s1 hA68 (op_assign rfl (hA68.ev rfl)) fun a69 hA70 => ?_; clear hA68 a67
   refine n1 ?_
   rcases Bool.eq_false_or_eq_true (((List.range l.length).all (fun i => !offB (b.macs.getD (l.getD i (0, 0)).1.toNat mac0)))) with hb71 | hb71
   ·skip
    rw [hb71] at hA70
    refine c_false hA70 rfl ?_
    refine c_skip ?_
    refine blk_n ?_
    refine then_n ?_
    refine c_seq ?_
    have hA72 := hA70.as [(2, (bptr b4 0))] rfl; clear hA70
    refine c_region ?_
    refine s1 hA72 (op_loadA rfl ty_37 (hA72.ev rfl) (hS66.bk 0 rfl) (l := [(Value.int .i64 b.scales), vt, vm]) rfl rfl) fun a73 hA74 => ?_; clear hA72 a69
    refine s2 hA74 (op_call rfl en_86 (ev1 (hA74.ev rfl)) (bench_ok b vt vm lr lb lk _ (tabs_at (hS66.ok 1 _ rfl)) (macs_at (hS66.ok 2 _ rfl)) hth)) ?_
    rintro a75 _ w77 ⟨bx80, bm81, es82, ck83, rfl, hMO84, hT78⟩ hA76; have hS79 := hS66.callS hT78 rfl; clear hT78 hA74 hS66 a73
    refine s1 hA76 (op_assign rfl (hA76.ev rfl)) fun a85 hA86 => ?_; clear hA76 a75
    refine s1 hA86 (op_assign rfl (evc _ _)) fun a87 hA88 => ?_; clear hA86 a85
    refine n1 ?_
    refine c_ret ?_
    refine fin_run hA88 (.inl rfl) (run_results2 hA88 rfl (.tmp rfl) (.tmp rfl)) ?_
    exact ⟨_, bm81, es82, ck83, rfl, hMO84, hS79.keep [0, 1] (by decide) _ rfl rfl⟩
   ·skip
    rw [hb71] at hA70
    refine c_true hA70 rfl ?_
    refine c_seq ?_
    have hA89 := hA70.as [] rfl; clear hA70
    refine c_region ?_
    refine s1 hA89 (op_assign rfl (evc _ _)) fun a90 hA91 => ?_; clear hA89 a69
    refine s1 hA91 (op_assign rfl (evc _ _)) fun a92 hA93 => ?_; clear hA91 a90
    refine n1 ?_
    refine c_ret ?_
    refine blk_ret ?_
    refine then_ret ?_
    refine fin_run hA93 (.inl rfl) (run_results2 hA93 rfl (.tmp rfl) (.tmp rfl)) ?_
    exact absurd (hr.symm.trans (read_11' he (by omega) (by assumption) (by assumption))) (by decide)
  ·skip
   rw [hb56] at hA55
   refine c_true hA55 rfl ?_
   refine c_seq ?_
   have hA94 := hA55.as [] rfl; clear hA55
   refine c_region ?_
   refine s1 hA94 (op_assign rfl (evc _ _)) fun a95 hA96 => ?_; clear hA94 a54
   refine s1 hA96 (op_assign rfl (evc _ _)) fun a97 hA98 => ?_; clear hA96 a95
   refine n1 ?_
   refine c_ret ?_
   refine blk_ret ?_
   refine then_ret ?_
   refine fin_run hA98 (.inl rfl) (run_results2 hA98 rfl (.tmp rfl) (.tmp rfl)) ?_
   exact absurd (hr.symm.trans (read_2' he (by omega) (by assumption))) (by decide)
end Go.Proofs.Ytohgladndklciaa

namespace Go.Proofs.Ytohgladndklciaa
open Go.RowKit Go.Shelf Go.Eng Go.Hard
theorem ze_120 : (Try.prog.info? 120).bind (·.zero) = some (Value.agg #[(Value.int .i64 0), (Value.int .i64 0), (Value.int .i64 0), (Value.int .i64 0), (Value.int .i64 0), (Value.int .i64 0), (Value.int .i64 0), (Value.int .i64 0)]) := by kernel_rfl
theorem fd_146_0 : fldK Try.prog 146 0 = some 0 := by kernel_rfl
theorem un_120 : Try.prog.underlying 120 = some (.array 4 30) := by kernel_rfl
theorem ty_120 : tyK Try.prog 120 = some (true, 8) := by kernel_rfl
theorem en_108 : ∀ args w, (callFunc 108 args).run Try.prog w = .ok (.enter 108 args) w := enters_of Try.func108 (by kernel_rfl) rfl
set_option maxHeartbeats 4000000 in
theorem cutb_ok (b : BookD) (vt vm : Value) (lr lb lk : Nat → Value) (w : World) (hT : TabsAt w vt lr lb b.tabs) (hM : MacsAt w vm lk b.macs) (hth : ThinB b) (bx bm : Nat) (es : Array MapEntry) (ck : Nat) (hMO : MapOk bm es ck (bN b.tabs b.tabs.length)) (hbx : (blk bx 146 [.int .i64 b.scales, vt, vm, .map (some bm)]).p w) (hmx : (mapX false bm es ck es.size 106 5 (bN b.tabs b.tabs.length) (bC lr lb b.tabs b.tabs.length)).p w) (hb : BookV b) (s : List (Int × Int)) (hs : s.length = 4) :
  Calls Try.prog 88 #[(bptr bx 0), (Value.agg (pairs s).toArray)] w (Ret fun v w' => v = .tuple #[.agg (pairs (passF (orderF b.scales.toNat b.tabs) s).1).toArray, .bool (fullB b.scales.toNat (passF (orderF b.scales.toNat b.tabs) s).1)] ∧ Ext NoB w w') := by
 refine calls_enter Try.func88 rfl fun a0 hA0 => ?_
 replace hA0 : Fr 71 [] [(0, (bptr bx 0)), (1, (Value.agg (pairs s).toArray))] a0 := hA0
 have hsc := hb.scales; have htl9 := hth.tl
 have hS0 : Sep NoB w w [(rob bx 146 [(Value.int .i64 b.scales), vt, vm, (Value.map (some bm))]), (mapX false bm es ck es.size 106 5 (bN b.tabs b.tabs.length) (bC lr lb b.tabs b.tabs.length)), (tabsR false vt lr lb b.tabs), (macsR false vm lk b.macs)] := sep_ro ⟨rfl, hbx, rfl, hmx, rfl, hT, rfl, hM, trivial⟩
 refine m2 ?_
 refine s2 hA0 (op_box hS0 rfl (hA0.ev rfl) (cs := (pairs s)) rfl) ?_
 rintro a1 _ w3 ⟨b4, rfl, hS5⟩ hA2; clear hA0 hS0 a0
 refine s2 hA2 (op_alloc hS5 rfl ze_120 (cs := (pairs ([(0, 0), (0, 0), (0, 0), (0, 0)]))) rfl) ?_
 rintro a6 _ w8 ⟨b9, rfl, hS10⟩ hA7; clear hA2 hS5 a1
 refine s1 hA7 (op_assign rfl (evc _ _)) fun a11 hA12 => ?_; clear hA7 a6
 refine n1 ?_
 refine c_scope ?_
 refine c_seq ?_
 refine c_label ?_
 refine then_n ?_
 refine c_seq ?_
 refine m2 ?_
 refine s1 hA12 (op_move rfl (hA12.ev rfl)) fun a13 hA14 => ?_; clear hA12 a11
 refine s1 hA14 (op_nilCheck rfl (hA14.ev rfl)) fun a15 hA16 => ?_; clear hA14 a13
 refine s1 hA16 (op_field rfl fd_146_0 (hA16.ev rfl)) fun a17 hA18 => ?_; clear hA16 a15
 refine s1 hA18 (op_field rfl fd_37_0 (hA18.ev rfl)) fun a19 hA20 => ?_; clear hA18 a17
 refine s1 hA20 (op_load1 rfl ty_3 (hA20.ev rfl) (hS10.rk 2 rfl) rfl) fun a21 hA22 => ?_; clear hA20 a19
 refine s1 hA22 (op_move rfl (evc _ _)) fun a23 hA24 => ?_; clear hA22 a21
 refine n1 ?_
 refine c_block ?_
 have hA25 := hA24.as [(15, (Value.int .i64 0)), (14, (Value.int .i64 b.scales)), (4, (bptr b9 0)), (3, (bptr b4 0)), (0, (bptr bx 0))] rfl; clear hA24
 refine c_loop (G := Nat) (fun (k : Nat) a_ w_ => ∃ x0 : List (Int × Int), Fr 71 [] [(15, (Value.int .i64 (k : Int))), (14, (Value.int .i64 b.scales)), (4, (bptr b9 0)), (3, (bptr b4 0)), (0, (bptr bx 0))] a_ ∧ Sep NoB w w_ [(blk b9 120 (pairs ([(0, 0), (0, 0), (0, 0), (0, 0)]))), (blk b4 120 (pairs x0)), (rob bx 146 [(Value.int .i64 b.scales), vt, vm, (Value.map (some bm))]), (mapX false bm es ck es.size 106 5 (bN b.tabs b.tabs.length) (bC lr lb b.tabs b.tabs.length)), (tabsR false vt lr lb b.tabs), (macsR false vm lk b.macs)] ∧ (k ≤ b.scales.toNat) ∧ (x0.length = 4) ∧ (Cut0 b.scales.toNat b.tabs s k x0)) (fun k => b.scales.toNat - k) 0 ⟨s, hA25.as _ rfl, hS10, by omega, hs, cut_00⟩ ?_
 clear hA25 hS10 a23
 rintro k a26 w28 ⟨x0, hA27, hS29, hk, hl0, hc0⟩
 refine m2 ?_
 refine s1 hA27 (op_lss rfl (hA27.ev rfl) (hA27.ev rfl)) fun a30 hA31 => ?_; clear hA27 a26
 refine n2 ?_
 by_cases hb32 : (k : Int) < b.scales
 ·skip
  rw [decide_eq_true hb32] at hA31
  refine c_true hA31 rfl ?_
  refine c_skip ?_
  refine then_n ?_
  refine c_seq ?_
  refine c_block ?_
  refine m2 ?_
  refine s1 hA31 (op_move rfl (hA31.ev rfl)) fun a33 hA34 => ?_; clear hA31 a30
  refine s1 hA34 (op_assign rfl (hA34.ev rfl)) fun a35 hA36 => ?_; clear hA34 a33
  refine n4 ?_
  refine s1 hA36 (op_move rfl (hA36.ev rfl)) fun a37 hA38 => ?_; clear hA36 a35
  refine s1 hA38 (op_nilCheck rfl (hA38.ev rfl)) fun a39 hA40 => ?_; clear hA38 a37
  refine s1 hA40 (op_field rfl fd_146_0 (hA40.ev rfl)) fun a41 hA42 => ?_; clear hA40 a39
  refine s1 hA42 (op_field rfl fd_37_0 (hA42.ev rfl)) fun a43 hA44 => ?_; clear hA42 a41
  refine s1 hA44 (op_load1 rfl ty_3 (hA44.ev rfl) (hS29.rk 2 rfl) rfl) fun a45 hA46 => ?_; clear hA44 a43
  refine s1 hA46 (op_move rfl (evc _ _)) fun a47 hA48 => ?_; clear hA46 a45
  refine n1 ?_
  refine c_block ?_
  have hA49 := hA48.as [(23, (Value.int .i64 0)), (22, (Value.int .i64 b.scales)), (6, (Value.int .i64 (k : Int))), (15, (Value.int .i64 (k : Int))), (14, (Value.int .i64 b.scales)), (4, (bptr b9 0)), (3, (bptr b4 0)), (0, (bptr bx 0))] rfl; clear hA48
  refine c_loop (G := Nat) (fun (k2 : Nat) a_ w_ => ∃ x1 : List (Int × Int), Fr 71 [] [(23, (Value.int .i64 (k2 : Int))), (22, (Value.int .i64 b.scales)), (6, (Value.int .i64 (k : Int))), (15, (Value.int .i64 (k : Int))), (14, (Value.int .i64 b.scales)), (4, (bptr b9 0)), (3, (bptr b4 0)), (0, (bptr bx 0))] a_ ∧ Sep NoB w w_ [(blk b9 120 (pairs ([(0, 0), (0, 0), (0, 0), (0, 0)]))), (blk b4 120 (pairs x1)), (rob bx 146 [(Value.int .i64 b.scales), vt, vm, (Value.map (some bm))]), (mapX false bm es ck es.size 106 5 (bN b.tabs b.tabs.length) (bC lr lb b.tabs b.tabs.length)), (tabsR false vt lr lb b.tabs), (macsR false vm lk b.macs)] ∧ (k2 ≤ b.scales.toNat) ∧ (x1.length = 4) ∧ (Cut1 b.scales.toNat b.tabs s k k2 x1)) (fun k2 => b.scales.toNat - k2) 0 ⟨x0, hA49.as _ rfl, hS29, by omega, hl0, (cut_01 (by omega) hc0)⟩ ?_
  clear hA49 hS29 a47
  rintro k2 a50 w52 ⟨x1, hA51, hS53, hk2, hl1, hc1⟩
  refine m2 ?_
  refine s1 hA51 (op_lss rfl (hA51.ev rfl) (hA51.ev rfl)) fun a54 hA55 => ?_; clear hA51 a50
  refine n2 ?_
  by_cases hb56 : (k2 : Int) < b.scales
  ·skip
   rw [decide_eq_true hb56] at hA55
   refine c_true hA55 rfl ?_
   refine c_skip ?_
   refine then_n ?_
   refine c_seq ?_
   refine c_block ?_
   refine m2 ?_
   refine s1 hA55 (op_move rfl (hA55.ev rfl)) fun a57 hA58 => ?_; clear hA55 a54
   refine s1 hA58 (op_assign rfl (hA58.ev rfl)) fun a59 hA60 => ?_; clear hA58 a57
   refine n4 ?_
   refine s1 hA60 (op_move rfl (hA60.ev rfl)) fun a61 hA62 => ?_; clear hA60 a59
   refine s1 hA62 (op_nilCheck rfl (hA62.ev rfl)) fun a63 hA64 => ?_; clear hA62 a61
   refine s1 hA64 (op_field rfl fd_146_1 (hA64.ev rfl)) fun a65 hA66 => ?_; clear hA64 a63
   refine s1 hA66 (op_load1 rfl ty_144 (hA66.ev rfl) (hS53.rk 2 rfl) rfl) fun a67 hA68 => ?_; clear hA66 a65
   refine s1 hA68 (op_move rfl (hA68.ev rfl)) fun a69 hA70 => ?_; clear hA68 a67
   refine s1 hA70 (op_move rfl (hA70.ev rfl)) fun a71 hA72 => ?_; clear hA70 a69
   refine s1 hA72 (op_build rfl (pv2 (hA72.ev rfl) (hA72.ev rfl)) (bd_162_0i_1i _ _)) fun a73 hA74 => ?_; clear hA72 a71
   refine s2 hA74 (op_lookupF hS53 rfl un_144 pair_162 zs_34 (hA74.ev rfl) (hA74.ev rfl) (ix := 3) rfl hMO (fun _ _ => bC_zero)) ?_
   rintro a75 u W_ ⟨hW_, hu⟩ hA76; have hW2_ := hW_.symm; subst hW2_; clear hW_ hA74 a73
   have hsl : (selT b.tabs (selU b.tabs b.tabs.length (k2 : Int) (k : Int))).length = bN b.tabs b.tabs.length (k2 : Int) (k : Int) := selT_len _ _; have hbn := bN_le b.tabs b.tabs.length (k2 : Int) (k : Int)
   refine s1 hA76 (op_lenS rfl un_34 (hA76.ev rfl) (tabs_sel (tabs_at (hS53.ok 4 _ rfl)) (fun q_ h_ => selU_lt h_) (hu _ (hS53.ok 3 _ rfl))).tabs) fun a77 hA78 => ?_; clear hA76 a75
   refine s1 hA78 (op_move rfl (evc _ _)) fun a79 hA80 => ?_; clear hA78 a77
   refine n1 ?_
   refine c_block ?_
   have hA81 := hA80.as [(35, (Value.int .i64 0)), (34, (Value.int .i64 ((selT b.tabs (selU b.tabs b.tabs.length (k2 : Int) (k : Int))).length : Int))), (33, u), (7, (Value.int .i64 (k2 : Int))), (23, (Value.int .i64 (k2 : Int))), (22, (Value.int .i64 b.scales)), (6, (Value.int .i64 (k : Int))), (15, (Value.int .i64 (k : Int))), (14, (Value.int .i64 b.scales)), (4, (bptr b9 0)), (3, (bptr b4 0)), (0, (bptr bx 0))] rfl; clear hA80
   refine c_loop (G := Nat) (fun (k3 : Nat) a_ w_ => ∃ x2 : List (Int × Int), Fr 71 [] [(35, (Value.int .i64 (k3 : Int))), (34, (Value.int .i64 ((selT b.tabs (selU b.tabs b.tabs.length (k2 : Int) (k : Int))).length : Int))), (33, u), (7, (Value.int .i64 (k2 : Int))), (23, (Value.int .i64 (k2 : Int))), (22, (Value.int .i64 b.scales)), (6, (Value.int .i64 (k : Int))), (15, (Value.int .i64 (k : Int))), (14, (Value.int .i64 b.scales)), (4, (bptr b9 0)), (3, (bptr b4 0)), (0, (bptr bx 0))] a_ ∧ Sep NoB w w_ [(blk b9 120 (pairs ([(0, 0), (0, 0), (0, 0), (0, 0)]))), (blk b4 120 (pairs x2)), (rob bx 146 [(Value.int .i64 b.scales), vt, vm, (Value.map (some bm))]), (mapX false bm es ck es.size 106 5 (bN b.tabs b.tabs.length) (bC lr lb b.tabs b.tabs.length)), (tabsR false vt lr lb b.tabs), (macsR false vm lk b.macs)] ∧ (k3 ≤ (selT b.tabs (selU b.tabs b.tabs.length (k2 : Int) (k : Int))).length) ∧ (x2.length = 4) ∧ (Cut2 b.scales.toNat b.tabs s k k2 k3 x2)) (fun k3 => (selT b.tabs (selU b.tabs b.tabs.length (k2 : Int) (k : Int))).length - k3) 0 ⟨x1, hA81.as _ rfl, hS53, by omega, hl1, (cut_12 (by omega) hc1)⟩ ?_
   clear hA81 hS53 a79
   rintro k3 a82 w84 ⟨x2, hA83, hS85, hk3, hl2, hc2⟩
   refine m2 ?_
   refine s1 hA83 (op_lss rfl (hA83.ev rfl) (hA83.ev rfl)) fun a86 hA87 => ?_; clear hA83 a82
   refine n2 ?_
   by_cases hb88 : (k3 : Int) < ((selT b.tabs (selU b.tabs b.tabs.length (k2 : Int) (k : Int))).length : Int)
   ·skip
    rw [decide_eq_true hb88] at hA87
    refine c_true hA87 rfl ?_
    refine c_skip ?_
    refine then_n ?_
    refine c_seq ?_
    refine c_block ?_
    refine m2 ?_
    refine s1 hA87 (op_indexS rfl un_34 ty_106 (hA87.ev rfl) (i := k3) (hA87.ev rfl) (tabs_sel (tabs_at (hS85.ok 4 _ rfl)) (fun q_ h_ => selU_lt h_) (hu _ (hS85.ok 3 _ rfl))).tabs (by decide) (by omega)) fun a89 hA90 => ?_; clear hA87 a86
    refine s1 hA90 (op_loadAE rfl ty_106 (hA90.ev rfl) (tabs_sel (tabs_at (hS85.ok 4 _ rfl)) (fun q_ h_ => selU_lt h_) (hu _ (hS85.ok 3 _ rfl))).tabs (tabs_all (by omega)) rfl (by decide)) fun a91 hA92 => ?_; clear hA90 a89
    refine s2 hA92 (op_alloc hS85 rfl ze_106 (cs := [(Value.int .i64 0), (Value.int .i64 0), (Value.slice none 0 0), (Value.slice none 0 0), (Value.int .i64 0)]) rfl) ?_
    rintro a93 _ w95 ⟨b96, rfl, hS97⟩ hA94; clear hA92 hS85 a91
    refine s7 hA94 (op_store hS97 rfl ty_106 (hA94.ev rfl) (hA94.ev rfl) (i := 0) rfl (vs := [(Value.int .i64 (((selT b.tabs (selU b.tabs b.tabs.length (k2 : Int) (k : Int))).getD k3 tab0).frm)), (Value.int .i64 (((selT b.tabs (selU b.tabs b.tabs.length (k2 : Int) (k : Int))).getD k3 tab0).dst)), ((selV lr (selU b.tabs b.tabs.length (k2 : Int) (k : Int))) k3), ((selV lb (selU b.tabs b.tabs.length (k2 : Int) (k : Int))) k3), (Value.int .i64 (((selT b.tabs (selU b.tabs b.tabs.length (k2 : Int) (k : Int))).getD k3 tab0).err))]) rfl rfl (all_c rfl (all_c rfl (all_c (SlAt.one ((tabs_sel (tabs_at (hS97.ok 5 _ rfl)) (fun q_ h_ => selU_lt h_) (hu _ (hS97.ok 4 _ rfl))).row (i := k3) (by omega))) (all_c (SlAt.one ((tabs_sel (tabs_at (hS97.ok 5 _ rfl)) (fun q_ h_ => selU_lt h_) (hu _ (hS97.ok 4 _ rfl))).brk (i := k3) (by omega))) (all_c rfl all_n))))) (Nat.le_of_ble_eq_true rfl)) ?_
    intro _ w98 hS99 hA100; clear hA94
    have hS101 : Sep NoB w w98 [(blk b96 106 [(Value.int .i64 (((selT b.tabs (selU b.tabs b.tabs.length (k2 : Int) (k : Int))).getD k3 tab0).frm)), (Value.int .i64 (((selT b.tabs (selU b.tabs b.tabs.length (k2 : Int) (k : Int))).getD k3 tab0).dst)), ((selV lr (selU b.tabs b.tabs.length (k2 : Int) (k : Int))) k3), ((selV lb (selU b.tabs b.tabs.length (k2 : Int) (k : Int))) k3), (Value.int .i64 (((selT b.tabs (selU b.tabs b.tabs.length (k2 : Int) (k : Int))).getD k3 tab0).err))]), (blk b9 120 (pairs ([(0, 0), (0, 0), (0, 0), (0, 0)]))), (blk b4 120 (pairs x2)), (rob bx 146 [(Value.int .i64 b.scales), vt, vm, (Value.map (some bm))]), (mapX false bm es ck es.size 106 5 (bN b.tabs b.tabs.length) (bC lr lb b.tabs b.tabs.length)), (tabsR false vt lr lb b.tabs), (macsR false vm lk b.macs)] := hS99; clear hS99 hS97
    refine n2 ?_
    refine m2 ?_
    refine s1 hA100 (op_move rfl (hA100.ev rfl)) fun a102 hA103 => ?_; clear hA100 a93
    refine s1 hA103 (op_indexA rfl un_120 ty_30 (hA103.ev rfl) (i := k) (hA103.ev rfl) (by omega)) fun a104 hA105 => ?_; clear hA103 a102
    refine s1 hA105 (op_loadA rfl ty_30 (hA105.ev rfl) (hS101.bk 2 rfl) (l := [(Value.int .i64 ((x2.getD k (0, 0)).1)), (Value.int .i64 ((x2.getD k (0, 0)).2))]) (pairs_all0 (xs := x2) (i := k) (by omega)) rfl) fun a106 hA107 => ?_; clear hA105 a104
    refine s2 hA107 (op_call rfl en_68 (ev1 (hA107.ev rfl)) (empty_ok _ _ _)) ?_
    rintro a108 _ w110 ⟨rfl, hE111⟩ hA109; have hS112 := hS101.step hE111; clear hE111 hA107 hS101 a106
    refine n1 ?_
    by_cases hb113 : ((x2.getD k (0, 0)).2) < ((x2.getD k (0, 0)).1)
    ·skip
     rw [decide_eq_true hb113] at hA109
     refine c_true hA109 rfl ?_
     refine c_exit ?_
     refine then_exit ?_
     refine blk_miss (by decide) ?_
     refine then_exit ?_
     refine then_exit ?_
     refine blk_miss (by decide) ?_
     refine blk_miss (by decide) ?_
     refine then_exit ?_
     refine then_exit ?_
     refine blk_miss (by decide) ?_
     refine blk_miss (by decide) ?_
     refine then_exit ?_
     refine then_exit ?_
     refine blk_hit ?_
     refine then_n ?_
     refine c_seq ?_
     have hA114 := hA109.as [(4, (bptr b9 0)), (3, (bptr b4 0)), (0, (bptr bx 0))] rfl; clear hA109
     have hA115 := hA114.as [(4, (bptr b9 0)), (3, (bptr b4 0)), (0, (bptr bx 0))] rfl; clear hA114
     refine c_drawF mixed hA115 hS112 9 8 rfl rfl [[], [], [1], [2], [3], [4], [5], [6], [7]] [(fun (vs116 : Nat → Value) (v_ : Value) (rs_ : List Res) => v_ = (Value.agg (pairs x2).toArray) ∧ rs_ = []), (fun (vs116 : Nat → Value) (v_ : Value) (rs_ : List Res) => v_ = (bptr bx 0) ∧ rs_ = []), (fun (vs116 : Nat → Value) (v_ : Value) (rs_ : List Res) => v_ = (bptr bx 0) ∧ rs_ = []), (fun (vs116 : Nat → Value) (v_ : Value) (rs_ : List Res) => v_ = (bptr bx 0) ∧ rs_ = []), (fun (vs116 : Nat → Value) (v_ : Value) (rs_ : List Res) => v_ = (bptr bx 0) ∧ rs_ = []), (fun (vs116 : Nat → Value) (v_ : Value) (rs_ : List Res) => v_ = (Value.int .i64 b.scales) ∧ rs_ = []), (fun (vs116 : Nat → Value) (v_ : Value) (rs_ : List Res) => v_ = (Value.slice (some ⟨b4, 0, none⟩) b.scales.toNat 4) ∧ rs_ = []), (fun (vs116 : Nat → Value) (v_ : Value) (rs_ : List Res) => v_ = (Value.bool ((List.range (x2.take b.scales.toNat).length).any fun i => decide (((x2.take b.scales.toNat).getD i (0, 0)).2 < ((x2.take b.scales.toNat).getD i (0, 0)).1))) ∧ rs_ = []), (fun (vs116 : Nat → Value) (v_ : Value) (rs_ : List Res) => v_ = (Value.bool (!((List.range (x2.take b.scales.toNat).length).any fun i => decide (((x2.take b.scales.toNat).getD i (0, 0)).2 < ((x2.take b.scales.toNat).getD i (0, 0)).1)))) ∧ rs_ = [])] (by decide +kernel) (by decide +kernel) (by decide +kernel) rfl rfl ⟨(fun _ _ _ _ _ h_ => h_), (fun _ _ _ _ _ h_ => h_), (fun _ _ _ _ _ h_ => h_), (fun _ _ _ _ _ h_ => h_), (fun _ _ _ _ _ h_ => h_), (fun _ _ _ _ _ h_ => h_), (fun _ _ _ _ _ h_ => h_), (fun _ _ _ _ _ h_ => h_), (fun _ _ _ _ _ h_ => h_), trivial⟩ ?_ ?_ ?_
     ·skip
      refine ⟨fun a w vs116 hA hS hd => ?_, ?_⟩
      ·skip
       exact opG_of rfl (vv (op_loadA rfl ty_120 (hA.ev rfl) (hS.bk 2 rfl) (l := (pairs x2)) (drop_take_all _ _ (show (pairs x2).length = 8 from by simp only [pairs_length, List.length_set]; omega)) (show (pairs x2).length = 8 from by simp only [pairs_length, List.length_set]; omega)) (And.intro rfl rfl))
      refine ⟨fun a w vs116 hA hS hd => ?_, ?_⟩
      ·skip
       exact opG_of rfl (vv (op_move rfl (hA.ev rfl)) (And.intro rfl rfl))
      refine ⟨fun a w vs116 hA hS hd => ?_, ?_⟩
      ·skip
       obtain ⟨e1, rs1, hy1, hp1⟩ := hd 1 (by decide)
       obtain ⟨hv1, hr1⟩ := hy1; subst hr1
       rw [hv1] at e1
       exact opG_of rfl (vv (op_nilCheck rfl (tmp_ev (slot_ev e1 rfl))) (And.intro rfl rfl))
      refine ⟨fun a w vs116 hA hS hd => ?_, ?_⟩
      ·skip
       obtain ⟨e2, rs2, hy2, hp2⟩ := hd 2 (by decide)
       obtain ⟨hv2, hr2⟩ := hy2; subst hr2
       rw [hv2] at e2
       exact opG_of rfl (vv (op_field rfl fd_146_0 (tmp_ev (slot_ev e2 rfl))) (And.intro rfl rfl))
      refine ⟨fun a w vs116 hA hS hd => ?_, ?_⟩
      ·skip
       obtain ⟨e3, rs3, hy3, hp3⟩ := hd 3 (by decide)
       obtain ⟨hv3, hr3⟩ := hy3; subst hr3
       rw [hv3] at e3
       exact opG_of rfl (vv (op_field rfl fd_37_0 (tmp_ev (slot_ev e3 rfl))) (And.intro rfl rfl))
      refine ⟨fun a w vs116 hA hS hd => ?_, ?_⟩
      ·skip
       obtain ⟨e4, rs4, hy4, hp4⟩ := hd 4 (by decide)
       obtain ⟨hv4, hr4⟩ := hy4; subst hr4
       rw [hv4] at e4
       exact opG_of rfl (vv (op_load1 rfl ty_3 (tmp_ev (slot_ev e4 rfl)) (hS.rk 3 rfl) rfl) (And.intro rfl rfl))
      refine ⟨fun a w vs116 hA hS hd => ?_, ?_⟩
      ·skip
       obtain ⟨e5, rs5, hy5, hp5⟩ := hd 5 (by decide)
       obtain ⟨hv5, hr5⟩ := hy5; subst hr5
       rw [hv5] at e5
       exact opG_of rfl (vv (op_sliceArr rfl un_120 ty_30 (hA.ev rfl) (h := b.scales.toNat) ((tmp_ev (slot_ev e5 rfl)).trans (int_nat (by omega))) (by omega)) (And.intro rfl rfl))
      refine ⟨fun a w vs116 hA hS hd => ?_, ?_⟩
      ·skip
       obtain ⟨e6, rs6, hy6, hp6⟩ := hd 6 (by decide)
       obtain ⟨hv6, hr6⟩ := hy6; subst hr6
       rw [hv6] at e6
       exact opG_of rfl (vx (op_call rfl en_108 (ev2 (tmp_ev (slot_ev e6 rfl)) (evf _ _)) (contf_rng (x2.take b.scales.toNat) _ 68 #[] #[] (fun i => decide (((x2.take b.scales.toNat).getD i (0, 0)).2 < ((x2.take b.scales.toNat).getD i (0, 0)).1)) _ ((SlAt.of_blkCut (hS.bk 2 rfl) (by rw [pairs_length]; omega) (by omega) (by decide)).say (by rw [List.length_take]; omega) (pairs_takeH _ _)) (by rw [List.length_take]; omega) ⟨en_68, fun i hi W hW => empty_ok _ _ W⟩)) (And.intro rfl rfl))
      refine ⟨fun a w vs116 hA hS hd => ?_, ?_⟩
      ·skip
       obtain ⟨e7, rs7, hy7, hp7⟩ := hd 7 (by decide)
       obtain ⟨hv7, hr7⟩ := hy7; subst hr7
       rw [hv7] at e7
       exact opG_of rfl (vv (op_not rfl (tmp_ev (slot_ev e7 rfl))) (And.intro rfl rfl))
      trivial
     ·skip
      intro a117 w118 vs116 rsf122 hA119 hH121 hS120; clear hA115 hS112
      obtain ⟨hs_0, hy_0⟩ := hH121 0 (by decide)
      obtain ⟨hv_0, hr_0⟩ := hy_0
      obtain ⟨hs_1, hy_1⟩ := hH121 1 (by decide)
      obtain ⟨hv_1, hr_1⟩ := hy_1
      obtain ⟨hs_2, hy_2⟩ := hH121 2 (by decide)
      obtain ⟨hv_2, hr_2⟩ := hy_2
      obtain ⟨hs_3, hy_3⟩ := hH121 3 (by decide)
      obtain ⟨hv_3, hr_3⟩ := hy_3
      obtain ⟨hs_4, hy_4⟩ := hH121 4 (by decide)
      obtain ⟨hv_4, hr_4⟩ := hy_4
      obtain ⟨hs_5, hy_5⟩ := hH121 5 (by decide)
      obtain ⟨hv_5, hr_5⟩ := hy_5
      obtain ⟨hs_6, hy_6⟩ := hH121 6 (by decide)
      obtain ⟨hv_6, hr_6⟩ := hy_6
      obtain ⟨hs_7, hy_7⟩ := hH121 7 (by decide)
      obtain ⟨hv_7, hr_7⟩ := hy_7
      obtain ⟨hs_8, hy_8⟩ := hH121 8 (by decide)
      obtain ⟨hv_8, hr_8⟩ := hy_8
      have hS123 : Sep NoB w w118 [(blk b96 106 [(Value.int .i64 (((selT b.tabs (selU b.tabs b.tabs.length (k2 : Int) (k : Int))).getD k3 tab0).frm)), (Value.int .i64 (((selT b.tabs (selU b.tabs b.tabs.length (k2 : Int) (k : Int))).getD k3 tab0).dst)), ((selV lr (selU b.tabs b.tabs.length (k2 : Int) (k : Int))) k3), ((selV lb (selU b.tabs b.tabs.length (k2 : Int) (k : Int))) k3), (Value.int .i64 (((selT b.tabs (selU b.tabs b.tabs.length (k2 : Int) (k : Int))).getD k3 tab0).err))]), (blk b9 120 (pairs ([(0, 0), (0, 0), (0, 0), (0, 0)]))), (blk b4 120 (pairs x2)), (rob bx 146 [(Value.int .i64 b.scales), vt, vm, (Value.map (some bm))]), (mapX false bm es ck es.size 106 5 (bN b.tabs b.tabs.length) (bC lr lb b.tabs b.tabs.length)), (tabsR false vt lr lb b.tabs), (macsR false vm lk b.macs)] := by rw [show catR rsf122 0 9 = ([] : List Res) by (try simp only [catR, hr_0, hr_1, hr_2, hr_3, hr_4, hr_5, hr_6, hr_7, hr_8]); (try rfl)] at hS120; exact hS120
      rw [hv_0] at hs_0
      have hA124 : Fr 71 [] [(62, (Value.agg (pairs x2).toArray)), (4, (bptr b9 0)), (3, (bptr b4 0)), (0, (bptr bx 0))] a117 := hA119.add (slot_ev hs_0 rfl); clear hA119
      rw [hv_8] at hs_8
      have hA125 : Fr 71 [] [(70, (Value.bool (!((List.range (x2.take b.scales.toNat).length).any fun i => decide (((x2.take b.scales.toNat).getD i (0, 0)).2 < ((x2.take b.scales.toNat).getD i (0, 0)).1))))), (62, (Value.agg (pairs x2).toArray)), (4, (bptr b9 0)), (3, (bptr b4 0)), (0, (bptr bx 0))] a117 := hA124.add (slot_ev hs_8 rfl); clear hA124
      clear hH121 hS120 hs_0 hs_1 hs_2 hs_3 hs_4 hs_5 hs_6 hs_7 hs_8
      clear hr_0
      clear hv_0
      clear hr_1
      clear hv_1
      clear hr_2
      clear hv_2
      clear hr_3
      clear hv_3
      clear hr_4
      clear hv_4
      clear hr_5
      clear hv_5
      clear hr_6
      clear hv_6
      clear hr_7
      clear hv_7
      clear hr_8
      clear hv_8
      refine s7 hA125 (op_store hS123 rfl ty_120 (hA125.ev rfl) (hA125.ev rfl) (i := 1) rfl (vs := (pairs x2)) rfl (show (pairs x2).length = 8 from by simp only [pairs_length, List.length_set]; omega) (pairs_one _) (by simp only [pairs_length, List.length_set, List.length_cons, List.length_nil]; omega)) ?_
      intro _ w126 hS127 hA129; have hS128 := hS127.blk_say (i := 1) rfl (cs' := (pairs x2)) (setFrom_all _ _ (by first | (simp only [pairs_length, List.length_set, List.length_cons, List.length_nil]; done) | (simp only [pairs_length, List.length_set, List.length_cons, List.length_nil]; omega))); clear hS127 hA125 hS123
      refine s1 hA129 (op_assign rfl (hA129.ev rfl)) fun a130 hA131 => ?_; clear hA129 a117
      refine n1 ?_
      refine c_ret ?_
      refine ng_ret ?_
      refine fin_run hA131 (.inl rfl) (run_results2 hA131 rfl (.cellA rfl ty_120 (hS128.bk 1 rfl) (l := (pairs x2)) (drop_take_all _ _ (show (pairs x2).length = 8 from by simp only [pairs_length, List.length_set]; omega)) (show (pairs x2).length = 8 from by simp only [pairs_length, List.length_set]; omega)) (.tmp rfl)) ?_
      have hz : passF (orderF b.scales.toNat b.tabs) s = (x2, true) := cut_brk (by omega) hc2 (by assumption)
      exact ⟨by rw [hz, ← full_any (s := x2) (by omega)], hS128.ext⟩
     ·skip
      intro a132 w133 vs116 rsf137 hA134 hH136 hrq hS135; clear hA115 hS112
      obtain ⟨hs_0, hy_0⟩ := hH136 0 (by decide) (by decide)
      obtain ⟨hv_0, hr_0⟩ := hy_0
      obtain ⟨hs_1, hy_1⟩ := hH136 1 (by decide) (by decide)
      obtain ⟨hv_1, hr_1⟩ := hy_1
      obtain ⟨hs_2, hy_2⟩ := hH136 2 (by decide) (by decide)
      obtain ⟨hv_2, hr_2⟩ := hy_2
      obtain ⟨hs_3, hy_3⟩ := hH136 3 (by decide) (by decide)
      obtain ⟨hv_3, hr_3⟩ := hy_3
      obtain ⟨hs_4, hy_4⟩ := hH136 4 (by decide) (by decide)
      obtain ⟨hv_4, hr_4⟩ := hy_4
      obtain ⟨hs_5, hy_5⟩ := hH136 5 (by decide) (by decide)
      obtain ⟨hv_5, hr_5⟩ := hy_5
      obtain ⟨hs_6, hy_6⟩ := hH136 6 (by decide) (by decide)
      obtain ⟨hv_6, hr_6⟩ := hy_6
      obtain ⟨hs_7, hy_7⟩ := hH136 7 (by decide) (by decide)
      obtain ⟨hv_7, hr_7⟩ := hy_7
      have hS138 : Sep NoB w w133 [(blk b96 106 [(Value.int .i64 (((selT b.tabs (selU b.tabs b.tabs.length (k2 : Int) (k : Int))).getD k3 tab0).frm)), (Value.int .i64 (((selT b.tabs (selU b.tabs b.tabs.length (k2 : Int) (k : Int))).getD k3 tab0).dst)), ((selV lr (selU b.tabs b.tabs.length (k2 : Int) (k : Int))) k3), ((selV lb (selU b.tabs b.tabs.length (k2 : Int) (k : Int))) k3), (Value.int .i64 (((selT b.tabs (selU b.tabs b.tabs.length (k2 : Int) (k : Int))).getD k3 tab0).err))]), (blk b9 120 (pairs ([(0, 0), (0, 0), (0, 0), (0, 0)]))), (blk b4 120 (pairs x2)), (rob bx 146 [(Value.int .i64 b.scales), vt, vm, (Value.map (some bm))]), (mapX false bm es ck es.size 106 5 (bN b.tabs b.tabs.length) (bC lr lb b.tabs b.tabs.length)), (tabsR false vt lr lb b.tabs), (macsR false vm lk b.macs)] := by rw [show catR rsf137 0 9 = ([] : List Res) by (try simp only [catR, hr_0, hr_1, hr_2, hr_3, hr_4, hr_5, hr_6, hr_7, hrq]); (try rfl)] at hS135; exact hS135
      rw [hv_0] at hs_0
      have hA139 : Fr 71 [] [(62, (Value.agg (pairs x2).toArray)), (4, (bptr b9 0)), (3, (bptr b4 0)), (0, (bptr bx 0))] a132 := hA134.add (slot_ev hs_0 rfl); clear hA134
      rw [hv_7] at hs_7
      have hA140 : Fr 71 [] [(69, (Value.bool ((List.range (x2.take b.scales.toNat).length).any fun i => decide (((x2.take b.scales.toNat).getD i (0, 0)).2 < ((x2.take b.scales.toNat).getD i (0, 0)).1)))), (62, (Value.agg (pairs x2).toArray)), (4, (bptr b9 0)), (3, (bptr b4 0)), (0, (bptr bx 0))] a132 := hA139.add (slot_ev hs_7 rfl); clear hA139
      clear hH136 hS135 hs_0 hs_1 hs_2 hs_3 hs_4 hs_5 hs_6 hs_7 hrq
      clear hr_0
      clear hv_0
      clear hr_1
      clear hv_1
      clear hr_2
      clear hv_2
      clear hr_3
      clear hv_3
      clear hr_4
      clear hv_4
      clear hr_5
      clear hv_5
      clear hr_6
      clear hv_6
      clear hr_7
      clear hv_7
      refine s7 hA140 (op_store hS138 rfl ty_120 (hA140.ev rfl) (hA140.ev rfl) (i := 1) rfl (vs := (pairs x2)) rfl (show (pairs x2).length = 8 from by simp only [pairs_length, List.length_set]; omega) (pairs_one _) (by simp only [pairs_length, List.length_set, List.length_cons, List.length_nil]; omega)) ?_
      intro _ w141 hS142 hA144; have hS143 := hS142.blk_say (i := 1) rfl (cs' := (pairs x2)) (setFrom_all _ _ (by first | (simp only [pairs_length, List.length_set, List.length_cons, List.length_nil]; done) | (simp only [pairs_length, List.length_set, List.length_cons, List.length_nil]; omega))); clear hS142 hA140 hS138
      refine s1 hA144 (op_not rfl (hA144.ev rfl)) fun a145 hA146 => ?_; clear hA144 a132
      refine s1 hA146 (op_assign rfl (hA146.ev rfl)) fun a147 hA148 => ?_; clear hA146 a145
      refine n1 ?_
      refine c_ret ?_
      refine ng_ret ?_
      refine fin_run hA148 (.inl rfl) (run_results2 hA148 rfl (.cellA rfl ty_120 (hS143.bk 1 rfl) (l := (pairs x2)) (drop_take_all _ _ (show (pairs x2).length = 8 from by simp only [pairs_length, List.length_set]; omega)) (show (pairs x2).length = 8 from by simp only [pairs_length, List.length_set]; omega)) (.tmp rfl)) ?_
      have hz : passF (orderF b.scales.toNat b.tabs) s = (x2, true) := cut_brk (by omega) hc2 (by assumption)
      exact ⟨by rw [hz, ← full_any (s := x2) (by omega)], hS143.ext⟩
    ·skip
     rw [decide_eq_false hb113] at hA109
     refine c_false hA109 rfl ?_
     refine c_skip ?_
     refine then_n ?_
     refine c_seq ?_
     have hA149 := hA109.as [(9, (bptr b96 0)), (35, (Value.int .i64 (k3 : Int))), (34, (Value.int .i64 ((selT b.tabs (selU b.tabs b.tabs.length (k2 : Int) (k : Int))).length : Int))), (33, u), (7, (Value.int .i64 (k2 : Int))), (23, (Value.int .i64 (k2 : Int))), (22, (Value.int .i64 b.scales)), (6, (Value.int .i64 (k : Int))), (15, (Value.int .i64 (k : Int))), (14, (Value.int .i64 b.scales)), (4, (bptr b9 0)), (3, (bptr b4 0)), (0, (bptr bx 0))] rfl; clear hA109
     have hA150 := hA149.as [(9, (bptr b96 0)), (35, (Value.int .i64 (k3 : Int))), (34, (Value.int .i64 ((selT b.tabs (selU b.tabs b.tabs.length (k2 : Int) (k : Int))).length : Int))), (33, u), (7, (Value.int .i64 (k2 : Int))), (23, (Value.int .i64 (k2 : Int))), (22, (Value.int .i64 b.scales)), (6, (Value.int .i64 (k : Int))), (15, (Value.int .i64 (k : Int))), (14, (Value.int .i64 b.scales)), (4, (bptr b9 0)), (3, (bptr b4 0)), (0, (bptr bx 0))] rfl; clear hA149
     refine c_drawn mixed hA150 hS112 4 [[], [], [1], [2]] [(Yd.val (Value.agg #[(Value.int .i64 (((selT b.tabs (selU b.tabs b.tabs.length (k2 : Int) (k : Int))).getD k3 tab0).frm)), (Value.int .i64 (((selT b.tabs (selU b.tabs b.tabs.length (k2 : Int) (k : Int))).getD k3 tab0).dst)), ((selV lr (selU b.tabs b.tabs.length (k2 : Int) (k : Int))) k3), ((selV lb (selU b.tabs b.tabs.length (k2 : Int) (k : Int))) k3), (Value.int .i64 (((selT b.tabs (selU b.tabs b.tabs.length (k2 : Int) (k : Int))).getD k3 tab0).err))])), (Yd.val (Value.int .i64 (k2 : Int))), (Yd.val (bptr b4 (0 + k2 * 2))), (Yd.val (Value.agg #[(Value.int .i64 ((x2.getD k2 (0, 0)).1)), (Value.int .i64 ((x2.getD k2 (0, 0)).2))]))] (by decide +kernel) rfl rfl ?_ ?_
     ·skip
      refine dq (fun a w hA hS hd => op_loadA rfl ty_106 (hA.ev rfl) (hS.bk 0 rfl) (l := [(Value.int .i64 (((selT b.tabs (selU b.tabs b.tabs.length (k2 : Int) (k : Int))).getD k3 tab0).frm)), (Value.int .i64 (((selT b.tabs (selU b.tabs b.tabs.length (k2 : Int) (k : Int))).getD k3 tab0).dst)), ((selV lr (selU b.tabs b.tabs.length (k2 : Int) (k : Int))) k3), ((selV lb (selU b.tabs b.tabs.length (k2 : Int) (k : Int))) k3), (Value.int .i64 (((selT b.tabs (selU b.tabs b.tabs.length (k2 : Int) (k : Int))).getD k3 tab0).err))]) rfl rfl) ?_
      refine dq (fun a w hA hS hd => op_move rfl (hA.ev rfl)) ?_
      refine dq (fun a w hA hS hd => op_indexA rfl un_120 ty_30 (hA.ev rfl) (i := k2) (hq hd 1) (by omega)) ?_
      refine dq (fun a w hA hS hd => op_loadA rfl ty_30 (hq hd 2) (hS.bk 2 rfl) (l := [(Value.int .i64 ((x2.getD k2 (0, 0)).1)), (Value.int .i64 ((x2.getD k2 (0, 0)).2))]) (pairs_all0 (xs := x2) (i := k2) (by omega)) rfl) ?_
      trivial
     intro a152 w153 hA154 hS155 hH156; clear hA150 hS112
     have hA157 := hA154.add (hz hH156 0); clear hA154
     have hA158 := hA157.add (hz hH156 3); clear hA157
     clear hH156
     refine s2 hA158 (op_call rfl en_49 (ev2 (hA158.ev rfl) (hA158.ev rfl)) (converts_ok ((x2.getD k2 (0, 0)).1) ((x2.getD k2 (0, 0)).2) ((selT b.tabs (selU b.tabs b.tabs.length (k2 : Int) (k : Int))).getD k3 tab0) _ _ _ ((tabs_sel (tabs_at (hS155.ok 5 _ rfl)) (fun q_ h_ => selU_lt h_) (hu _ (hS155.ok 4 _ rfl))).row (i := k3) (by omega)) ((tabs_sel (tabs_at (hS155.ok 5 _ rfl)) (fun q_ h_ => selU_lt h_) (hu _ (hS155.ok 4 _ rfl))).brk (i := k3) (by omega)) (sel_rl hth _ _).1 (sel_rl hth _ _).2 _ (hb.tabs _ (sel_scales (by omega)).2.2))) ?_
     rintro a159 _ w161 ⟨rfl, hE162⟩ hA160; have hS163 := hS155.step hE162; clear hE162 hA158 hS155 a152
     refine n1 ?_
     rcases Bool.eq_false_or_eq_true ((convB ((selT b.tabs (selU b.tabs b.tabs.length (k2 : Int) (k : Int))).getD k3 tab0) ((x2.getD k2 (0, 0)).1, (x2.getD k2 (0, 0)).2))) with hb164 | hb164
     ·skip
      rw [hb164] at hA160
      refine c_true hA160 rfl ?_
      have hA165 := hA160.as [(9, (bptr b96 0)), (35, (Value.int .i64 (k3 : Int))), (34, (Value.int .i64 ((selT b.tabs (selU b.tabs b.tabs.length (k2 : Int) (k : Int))).length : Int))), (33, u), (7, (Value.int .i64 (k2 : Int))), (23, (Value.int .i64 (k2 : Int))), (22, (Value.int .i64 b.scales)), (6, (Value.int .i64 (k : Int))), (15, (Value.int .i64 (k : Int))), (14, (Value.int .i64 b.scales)), (4, (bptr b9 0)), (3, (bptr b4 0)), (0, (bptr bx 0))] rfl; clear hA160
      refine c_drawn mixed hA165 hS163 10 [[], [], [1], [2], [], [], [5], [6], [4, 7], [3, 8]] [(Yd.val (Value.int .i64 (k : Int))), (Yd.val (Value.int .i64 (k : Int))), (Yd.val (bptr b4 (0 + k * 2))), (Yd.val (Value.agg #[(Value.int .i64 ((x2.getD k (0, 0)).1)), (Value.int .i64 ((x2.getD k (0, 0)).2))])), (Yd.val (Value.agg #[(Value.int .i64 (((selT b.tabs (selU b.tabs b.tabs.length (k2 : Int) (k : Int))).getD k3 tab0).frm)), (Value.int .i64 (((selT b.tabs (selU b.tabs b.tabs.length (k2 : Int) (k : Int))).getD k3 tab0).dst)), ((selV lr (selU b.tabs b.tabs.length (k2 : Int) (k : Int))) k3), ((selV lb (selU b.tabs b.tabs.length (k2 : Int) (k : Int))) k3), (Value.int .i64 (((selT b.tabs (selU b.tabs b.tabs.length (k2 : Int) (k : Int))).getD k3 tab0).err))])), (Yd.val (Value.int .i64 (k2 : Int))), (Yd.val (bptr b4 (0 + k2 * 2))), (Yd.val (Value.agg #[(Value.int .i64 ((x2.getD k2 (0, 0)).1)), (Value.int .i64 ((x2.getD k2 (0, 0)).2))])), (Yd.val (Value.agg #[(Value.int .i64 ((convF ((selT b.tabs (selU b.tabs b.tabs.length (k2 : Int) (k : Int))).getD k3 tab0) ((x2.getD k2 (0, 0)).1, (x2.getD k2 (0, 0)).2)).1)), (Value.int .i64 ((convF ((selT b.tabs (selU b.tabs b.tabs.length (k2 : Int) (k : Int))).getD k3 tab0) ((x2.getD k2 (0, 0)).1, (x2.getD k2 (0, 0)).2)).2))])), (Yd.val (Value.agg #[(Value.int .i64 ((cutR ((x2.getD k (0, 0)).1, (x2.getD k (0, 0)).2) ((convF ((selT b.tabs (selU b.tabs b.tabs.length (k2 : Int) (k : Int))).getD k3 tab0) ((x2.getD k2 (0, 0)).1, (x2.getD k2 (0, 0)).2)).1, (convF ((selT b.tabs (selU b.tabs b.tabs.length (k2 : Int) (k : Int))).getD k3 tab0) ((x2.getD k2 (0, 0)).1, (x2.getD k2 (0, 0)).2)).2)).1)), (Value.int .i64 ((cutR ((x2.getD k (0, 0)).1, (x2.getD k (0, 0)).2) ((convF ((selT b.tabs (selU b.tabs b.tabs.length (k2 : Int) (k : Int))).getD k3 tab0) ((x2.getD k2 (0, 0)).1, (x2.getD k2 (0, 0)).2)).1, (convF ((selT b.tabs (selU b.tabs b.tabs.length (k2 : Int) (k : Int))).getD k3 tab0) ((x2.getD k2 (0, 0)).1, (x2.getD k2 (0, 0)).2)).2)).2))]))] (by decide +kernel) rfl rfl ?_ ?_
      ·skip
       refine dq (fun a w hA hS hd => op_move rfl (hA.ev rfl)) ?_
       refine dq (fun a w hA hS hd => op_move rfl (hA.ev rfl)) ?_
       refine dq (fun a w hA hS hd => op_indexA rfl un_120 ty_30 (hA.ev rfl) (i := k) (hq hd 1) (by omega)) ?_
       refine dq (fun a w hA hS hd => op_loadA rfl ty_30 (hq hd 2) (hS.bk 2 rfl) (l := [(Value.int .i64 ((x2.getD k (0, 0)).1)), (Value.int .i64 ((x2.getD k (0, 0)).2))]) (pairs_all0 (xs := x2) (i := k) (by omega)) rfl) ?_
       refine dq (fun a w hA hS hd => op_loadA rfl ty_106 (hA.ev rfl) (hS.bk 0 rfl) (l := [(Value.int .i64 (((selT b.tabs (selU b.tabs b.tabs.length (k2 : Int) (k : Int))).getD k3 tab0).frm)), (Value.int .i64 (((selT b.tabs (selU b.tabs b.tabs.length (k2 : Int) (k : Int))).getD k3 tab0).dst)), ((selV lr (selU b.tabs b.tabs.length (k2 : Int) (k : Int))) k3), ((selV lb (selU b.tabs b.tabs.length (k2 : Int) (k : Int))) k3), (Value.int .i64 (((selT b.tabs (selU b.tabs b.tabs.length (k2 : Int) (k : Int))).getD k3 tab0).err))]) rfl rfl) ?_
       refine dq (fun a w hA hS hd => op_move rfl (hA.ev rfl)) ?_
       refine dq (fun a w hA hS hd => op_indexA rfl un_120 ty_30 (hA.ev rfl) (i := k2) (hq hd 5) (by omega)) ?_
       refine dq (fun a w hA hS hd => op_loadA rfl ty_30 (hq hd 6) (hS.bk 2 rfl) (l := [(Value.int .i64 ((x2.getD k2 (0, 0)).1)), (Value.int .i64 ((x2.getD k2 (0, 0)).2))]) (pairs_all0 (xs := x2) (i := k2) (by omega)) rfl) ?_
       refine ⟨fun a w hA hS hd => by have e4 := hx hd 4; have e7 := hx hd 7; exact opG_of rfl (dx (op_call rfl en_50 (ev2 (tmp_ev e4) (tmp_ev e7)) (convert_ok ((x2.getD k2 (0, 0)).1) ((x2.getD k2 (0, 0)).2) ((selT b.tabs (selU b.tabs b.tabs.length (k2 : Int) (k : Int))).getD k3 tab0) _ _ _ ((tabs_sel (tabs_at (hS.ok 5 _ rfl)) (fun q_ h_ => selU_lt h_) (hu _ (hS.ok 4 _ rfl))).row (i := k3) (by omega)) ((tabs_sel (tabs_at (hS.ok 5 _ rfl)) (fun q_ h_ => selU_lt h_) (hu _ (hS.ok 4 _ rfl))).brk (i := k3) (by omega)) (sel_rl hth _ _).1 (sel_rl hth _ _).2 _ (hb.tabs _ (sel_scales (by omega)).2.2))) hS (fun _ => rfl)), ?_⟩
       refine ⟨fun a w hA hS hd => by have e3 := hx hd 3; have e8 := hx hd 8; exact opG_of rfl (dx (op_call rfl en_87 (ev2 (tmp_ev e3) (tmp_ev e8)) (cut_ok _ _ _ _ _)) hS (fun _ => rfl)), ?_⟩
       trivial
      intro a167 w168 hA169 hS170 hH171; clear hA165 hS163
      have hA172 := hA169.add (hz hH171 0); clear hA169
      have hA173 := hA172.add (hz hH171 9); clear hA172
      clear hH171
      refine s1 hA173 (op_indexA rfl un_120 ty_30 (hA173.ev rfl) (i := k) (hA173.ev rfl) (by omega)) fun a174 hA175 => ?_; clear hA173 a167
      refine s7 hA175 (op_store hS170 rfl ty_30 (hA175.ev rfl) (hA175.ev rfl) (i := 2) rfl (vs := [(Value.int .i64 ((cutR ((x2.getD k (0, 0)).1, (x2.getD k (0, 0)).2) ((convF ((selT b.tabs (selU b.tabs b.tabs.length (k2 : Int) (k : Int))).getD k3 tab0) ((x2.getD k2 (0, 0)).1, (x2.getD k2 (0, 0)).2)).1, (convF ((selT b.tabs (selU b.tabs b.tabs.length (k2 : Int) (k : Int))).getD k3 tab0) ((x2.getD k2 (0, 0)).1, (x2.getD k2 (0, 0)).2)).2)).1)), (Value.int .i64 ((cutR ((x2.getD k (0, 0)).1, (x2.getD k (0, 0)).2) ((convF ((selT b.tabs (selU b.tabs b.tabs.length (k2 : Int) (k : Int))).getD k3 tab0) ((x2.getD k2 (0, 0)).1, (x2.getD k2 (0, 0)).2)).1, (convF ((selT b.tabs (selU b.tabs b.tabs.length (k2 : Int) (k : Int))).getD k3 tab0) ((x2.getD k2 (0, 0)).1, (x2.getD k2 (0, 0)).2)).2)).2))]) rfl rfl rfl (by simp only [pairs_length, List.length_set, List.length_cons, List.length_nil]; omega)) ?_
      intro _ w176 hS177 hA179; have hS178 := hS177.blk_say (i := 2) rfl (cs' := (pairs (x2.set k ((cutR ((x2.getD k (0, 0)).1, (x2.getD k (0, 0)).2) ((convF ((selT b.tabs (selU b.tabs b.tabs.length (k2 : Int) (k : Int))).getD k3 tab0) ((x2.getD k2 (0, 0)).1, (x2.getD k2 (0, 0)).2)).1, (convF ((selT b.tabs (selU b.tabs b.tabs.length (k2 : Int) (k : Int))).getD k3 tab0) ((x2.getD k2 (0, 0)).1, (x2.getD k2 (0, 0)).2)).2)).1, (cutR ((x2.getD k (0, 0)).1, (x2.getD k (0, 0)).2) ((convF ((selT b.tabs (selU b.tabs b.tabs.length (k2 : Int) (k : Int))).getD k3 tab0) ((x2.getD k2 (0, 0)).1, (x2.getD k2 (0, 0)).2)).1, (convF ((selT b.tabs (selU b.tabs b.tabs.length (k2 : Int) (k : Int))).getD k3 tab0) ((x2.getD k2 (0, 0)).1, (x2.getD k2 (0, 0)).2)).2)).2)))) (pairs_setZ _ _ _ _); clear hS177 hA175 hS170
      refine wl_nil ?_
      refine blk_n ?_
      refine then_n ?_
      refine c_region ?_
      refine s1 hA179 (op_add rfl (hA179.ev rfl) (evc _ _) (by omega) (by omega)) fun a180 hA181 => ?_; clear hA179 a174
      refine s1 hA181 (op_move rfl (hA181.ev rfl)) fun a182 hA183 => ?_; clear hA181 a180
      refine wl_nil ?_
      have hS184 : Sep NoB w w176 [(blk b9 120 (pairs ([(0, 0), (0, 0), (0, 0), (0, 0)]))), (blk b4 120 (pairs (x2.set k ((cutR ((x2.getD k (0, 0)).1, (x2.getD k (0, 0)).2) ((convF ((selT b.tabs (selU b.tabs b.tabs.length (k2 : Int) (k : Int))).getD k3 tab0) ((x2.getD k2 (0, 0)).1, (x2.getD k2 (0, 0)).2)).1, (convF ((selT b.tabs (selU b.tabs b.tabs.length (k2 : Int) (k : Int))).getD k3 tab0) ((x2.getD k2 (0, 0)).1, (x2.getD k2 (0, 0)).2)).2)).1, (cutR ((x2.getD k (0, 0)).1, (x2.getD k (0, 0)).2) ((convF ((selT b.tabs (selU b.tabs b.tabs.length (k2 : Int) (k : Int))).getD k3 tab0) ((x2.getD k2 (0, 0)).1, (x2.getD k2 (0, 0)).2)).1, (convF ((selT b.tabs (selU b.tabs b.tabs.length (k2 : Int) (k : Int))).getD k3 tab0) ((x2.getD k2 (0, 0)).1, (x2.getD k2 (0, 0)).2)).2)).2)))), (rob bx 146 [(Value.int .i64 b.scales), vt, vm, (Value.map (some bm))]), (mapX false bm es ck es.size 106 5 (bN b.tabs b.tabs.length) (bC lr lb b.tabs b.tabs.length)), (tabsR false vt lr lb b.tabs), (macsR false vm lk b.macs)] := hS178.keep [1, 2, 3, 4, 5, 6] (by decide) _ rfl rfl; clear hS178
      exact then_n ⟨k3 + 1, ⟨(x2.set k ((cutR ((x2.getD k (0, 0)).1, (x2.getD k (0, 0)).2) ((convF ((selT b.tabs (selU b.tabs b.tabs.length (k2 : Int) (k : Int))).getD k3 tab0) ((x2.getD k2 (0, 0)).1, (x2.getD k2 (0, 0)).2)).1, (convF ((selT b.tabs (selU b.tabs b.tabs.length (k2 : Int) (k : Int))).getD k3 tab0) ((x2.getD k2 (0, 0)).1, (x2.getD k2 (0, 0)).2)).2)).1, (cutR ((x2.getD k (0, 0)).1, (x2.getD k (0, 0)).2) ((convF ((selT b.tabs (selU b.tabs b.tabs.length (k2 : Int) (k : Int))).getD k3 tab0) ((x2.getD k2 (0, 0)).1, (x2.getD k2 (0, 0)).2)).1, (convF ((selT b.tabs (selU b.tabs b.tabs.length (k2 : Int) (k : Int))).getD k3 tab0) ((x2.getD k2 (0, 0)).1, (x2.getD k2 (0, 0)).2)).2)).2)), hA183.as _ rfl, hS184, by omega, (by first | exact hl2 | (rw [List.length_set]; exact hl2)), (by first | exact cut_n (by omega) hc2 (by assumption) (by assumption) | exact cut_y (by omega) hc2 (by assumption) (by assumption))⟩, by omega⟩
     ·skip
      rw [hb164] at hA160
      refine c_false hA160 rfl ?_
      refine c_skip ?_
      refine blk_n ?_
      refine then_n ?_
      refine c_region ?_
      refine s1 hA160 (op_add rfl (hA160.ev rfl) (evc _ _) (by omega) (by omega)) fun a185 hA186 => ?_; clear hA160 a159
      refine s1 hA186 (op_move rfl (hA186.ev rfl)) fun a187 hA188 => ?_; clear hA186 a185
      refine wl_nil ?_
      have hS189 : Sep NoB w w161 [(blk b9 120 (pairs ([(0, 0), (0, 0), (0, 0), (0, 0)]))), (blk b4 120 (pairs x2)), (rob bx 146 [(Value.int .i64 b.scales), vt, vm, (Value.map (some bm))]), (mapX false bm es ck es.size 106 5 (bN b.tabs b.tabs.length) (bC lr lb b.tabs b.tabs.length)), (tabsR false vt lr lb b.tabs), (macsR false vm lk b.macs)] := hS163.keep [1, 2, 3, 4, 5, 6] (by decide) _ rfl rfl; clear hS163
      exact then_n ⟨k3 + 1, ⟨x2, hA188.as _ rfl, hS189, by omega, (by first | exact hl2 | (rw [List.length_set]; exact hl2)), (by first | exact cut_n (by omega) hc2 (by assumption) (by assumption) | exact cut_y (by omega) hc2 (by assumption) (by assumption))⟩, by omega⟩
   ·skip
    rw [decide_eq_false hb88] at hA87
    refine c_false hA87 rfl ?_
    refine c_exit ?_
    refine then_exit ?_
    refine then_exit ?_
    refine blk_hit ?_
    refine blk_n ?_
    refine then_n ?_
    refine c_region ?_
    refine s1 hA87 (op_add rfl (hA87.ev rfl) (evc _ _) (by omega) (by omega)) fun a190 hA191 => ?_; clear hA87 a86
    refine s1 hA191 (op_move rfl (hA191.ev rfl)) fun a192 hA193 => ?_; clear hA191 a190
    refine wl_nil ?_
    exact then_n ⟨k2 + 1, ⟨x2, hA193.as _ rfl, hS85, by omega, hl2, (cut_21 (by omega) hc2)⟩, by omega⟩
  ·skip
   rw [decide_eq_false hb56] at hA55
   refine c_false hA55 rfl ?_
   refine c_exit ?_
   refine then_exit ?_
   refine then_exit ?_
   refine blk_hit ?_
   refine blk_n ?_
   refine then_n ?_
   refine c_region ?_
   refine s1 hA55 (op_add rfl (hA55.ev rfl) (evc _ _) (by omega) (by omega)) fun a194 hA195 => ?_; clear hA55 a54
   refine s1 hA195 (op_move rfl (hA195.ev rfl)) fun a196 hA197 => ?_; clear hA195 a194
   refine wl_nil ?_
   exact then_n ⟨k + 1, ⟨x1, hA197.as _ rfl, hS53, by omega, hl1, (cut_10 (by omega) hc1)⟩, by omega⟩
 ·skip
  rw [decide_eq_false hb32] at hA31
  refine c_false hA31 rfl ?_
  refine c_exit ?_
  refine then_exit ?_
  refine then_exit ?_
  refine blk_hit ?_
  refine then_n ?_
  refine c_seq ?_
  have hA198 := hA31.as [(4, (bptr b9 0)), (3, (bptr b4 0)), (0, (bptr bx 0))] rfl; clear hA31
  refine c_drawF mixed hA198 hS29 9 8 rfl rfl [[], [], [1], [2], [3], [4], [5], [6], [7]] [(fun (vs199 : Nat → Value) (v_ : Value) (rs_ : List Res) => v_ = (Value.agg (pairs x0).toArray) ∧ rs_ = []), (fun (vs199 : Nat → Value) (v_ : Value) (rs_ : List Res) => v_ = (bptr bx 0) ∧ rs_ = []), (fun (vs199 : Nat → Value) (v_ : Value) (rs_ : List Res) => v_ = (bptr bx 0) ∧ rs_ = []), (fun (vs199 : Nat → Value) (v_ : Value) (rs_ : List Res) => v_ = (bptr bx 0) ∧ rs_ = []), (fun (vs199 : Nat → Value) (v_ : Value) (rs_ : List Res) => v_ = (bptr bx 0) ∧ rs_ = []), (fun (vs199 : Nat → Value) (v_ : Value) (rs_ : List Res) => v_ = (Value.int .i64 b.scales) ∧ rs_ = []), (fun (vs199 : Nat → Value) (v_ : Value) (rs_ : List Res) => v_ = (Value.slice (some ⟨b4, 0, none⟩) b.scales.toNat 4) ∧ rs_ = []), (fun (vs199 : Nat → Value) (v_ : Value) (rs_ : List Res) => v_ = (Value.bool ((List.range (x0.take b.scales.toNat).length).any fun i => decide (((x0.take b.scales.toNat).getD i (0, 0)).2 < ((x0.take b.scales.toNat).getD i (0, 0)).1))) ∧ rs_ = []), (fun (vs199 : Nat → Value) (v_ : Value) (rs_ : List Res) => v_ = (Value.bool (!((List.range (x0.take b.scales.toNat).length).any fun i => decide (((x0.take b.scales.toNat).getD i (0, 0)).2 < ((x0.take b.scales.toNat).getD i (0, 0)).1)))) ∧ rs_ = [])] (by decide +kernel) (by decide +kernel) (by decide +kernel) rfl rfl ⟨(fun _ _ _ _ _ h_ => h_), (fun _ _ _ _ _ h_ => h_), (fun _ _ _ _ _ h_ => h_), (fun _ _ _ _ _ h_ => h_), (fun _ _ _ _ _ h_ => h_), (fun _ _ _ _ _ h_ => h_), (fun _ _ _ _ _ h_ => h_), (fun _ _ _ _ _ h_ => h_), (fun _ _ _ _ _ h_ => h_), trivial⟩ ?_ ?_ ?_
  ·skip
   refine ⟨fun a w vs199 hA hS hd => ?_, ?_⟩
   ·skip
    exact opG_of rfl (vv (op_loadA rfl ty_120 (hA.ev rfl) (hS.bk 1 rfl) (l := (pairs x0)) (drop_take_all _ _ (show (pairs x0).length = 8 from by simp only [pairs_length, List.length_set]; omega)) (show (pairs x0).length = 8 from by simp only [pairs_length, List.length_set]; omega)) (And.intro rfl rfl))
   refine ⟨fun a w vs199 hA hS hd => ?_, ?_⟩
   ·skip
    exact opG_of rfl (vv (op_move rfl (hA.ev rfl)) (And.intro rfl rfl))
   refine ⟨fun a w vs199 hA hS hd => ?_, ?_⟩
   ·skip
    obtain ⟨e1, rs1, hy1, hp1⟩ := hd 1 (by decide)
    obtain ⟨hv1, hr1⟩ := hy1; subst hr1
    rw [hv1] at e1
    exact opG_of rfl (vv (op_nilCheck rfl (tmp_ev (slot_ev e1 rfl))) (And.intro rfl rfl))
   refine ⟨fun a w vs199 hA hS hd => ?_, ?_⟩
   ·skip
    obtain ⟨e2, rs2, hy2, hp2⟩ := hd 2 (by decide)
    obtain ⟨hv2, hr2⟩ := hy2; subst hr2
    rw [hv2] at e2
    exact opG_of rfl (vv (op_field rfl fd_146_0 (tmp_ev (slot_ev e2 rfl))) (And.intro rfl rfl))
   refine ⟨fun a w vs199 hA hS hd => ?_, ?_⟩
   ·skip
    obtain ⟨e3, rs3, hy3, hp3⟩ := hd 3 (by decide)
    obtain ⟨hv3, hr3⟩ := hy3; subst hr3
    rw [hv3] at e3
    exact opG_of rfl (vv (op_field rfl fd_37_0 (tmp_ev (slot_ev e3 rfl))) (And.intro rfl rfl))
   refine ⟨fun a w vs199 hA hS hd => ?_, ?_⟩
   ·skip
    obtain ⟨e4, rs4, hy4, hp4⟩ := hd 4 (by decide)
    obtain ⟨hv4, hr4⟩ := hy4; subst hr4
    rw [hv4] at e4
    exact opG_of rfl (vv (op_load1 rfl ty_3 (tmp_ev (slot_ev e4 rfl)) (hS.rk 2 rfl) rfl) (And.intro rfl rfl))
   refine ⟨fun a w vs199 hA hS hd => ?_, ?_⟩
   ·skip
    obtain ⟨e5, rs5, hy5, hp5⟩ := hd 5 (by decide)
    obtain ⟨hv5, hr5⟩ := hy5; subst hr5
    rw [hv5] at e5
    exact opG_of rfl (vv (op_sliceArr rfl un_120 ty_30 (hA.ev rfl) (h := b.scales.toNat) ((tmp_ev (slot_ev e5 rfl)).trans (int_nat (by omega))) (by omega)) (And.intro rfl rfl))
   refine ⟨fun a w vs199 hA hS hd => ?_, ?_⟩
   ·skip
    obtain ⟨e6, rs6, hy6, hp6⟩ := hd 6 (by decide)
    obtain ⟨hv6, hr6⟩ := hy6; subst hr6
    rw [hv6] at e6
    exact opG_of rfl (vx (op_call rfl en_108 (ev2 (tmp_ev (slot_ev e6 rfl)) (evf _ _)) (contf_rng (x0.take b.scales.toNat) _ 68 #[] #[] (fun i => decide (((x0.take b.scales.toNat).getD i (0, 0)).2 < ((x0.take b.scales.toNat).getD i (0, 0)).1)) _ ((SlAt.of_blkCut (hS.bk 1 rfl) (by rw [pairs_length]; omega) (by omega) (by decide)).say (by rw [List.length_take]; omega) (pairs_takeH _ _)) (by rw [List.length_take]; omega) ⟨en_68, fun i hi W hW => empty_ok _ _ W⟩)) (And.intro rfl rfl))
   refine ⟨fun a w vs199 hA hS hd => ?_, ?_⟩
   ·skip
    obtain ⟨e7, rs7, hy7, hp7⟩ := hd 7 (by decide)
    obtain ⟨hv7, hr7⟩ := hy7; subst hr7
    rw [hv7] at e7
    exact opG_of rfl (vv (op_not rfl (tmp_ev (slot_ev e7 rfl))) (And.intro rfl rfl))
   trivial
  ·skip
   intro a200 w201 vs199 rsf205 hA202 hH204 hS203; clear hA198 hS29
   obtain ⟨hs_0, hy_0⟩ := hH204 0 (by decide)
   obtain ⟨hv_0, hr_0⟩ := hy_0
   obtain ⟨hs_1, hy_1⟩ := hH204 1 (by decide)
   obtain ⟨hv_1, hr_1⟩ := hy_1
   obtain ⟨hs_2, hy_2⟩ := hH204 2 (by decide)
   obtain ⟨hv_2, hr_2⟩ := hy_2
   obtain ⟨hs_3, hy_3⟩ := hH204 3 (by decide)
   obtain ⟨hv_3, hr_3⟩ := hy_3
   obtain ⟨hs_4, hy_4⟩ := hH204 4 (by decide)
   obtain ⟨hv_4, hr_4⟩ := hy_4
   obtain ⟨hs_5, hy_5⟩ := hH204 5 (by decide)
   obtain ⟨hv_5, hr_5⟩ := hy_5
   obtain ⟨hs_6, hy_6⟩ := hH204 6 (by decide)
   obtain ⟨hv_6, hr_6⟩ := hy_6
   obtain ⟨hs_7, hy_7⟩ := hH204 7 (by decide)
   obtain ⟨hv_7, hr_7⟩ := hy_7
   obtain ⟨hs_8, hy_8⟩ := hH204 8 (by decide)
   obtain ⟨hv_8, hr_8⟩ := hy_8
   have hS206 : Sep NoB w w201 [(blk b9 120 (pairs ([(0, 0), (0, 0), (0, 0), (0, 0)]))), (blk b4 120 (pairs x0)), (rob bx 146 [(Value.int .i64 b.scales), vt, vm, (Value.map (some bm))]), (mapX false bm es ck es.size 106 5 (bN b.tabs b.tabs.length) (bC lr lb b.tabs b.tabs.length)), (tabsR false vt lr lb b.tabs), (macsR false vm lk b.macs)] := by rw [show catR rsf205 0 9 = ([] : List Res) by (try simp only [catR, hr_0, hr_1, hr_2, hr_3, hr_4, hr_5, hr_6, hr_7, hr_8]); (try rfl)] at hS203; exact hS203
   rw [hv_0] at hs_0
   have hA207 : Fr 71 [] [(62, (Value.agg (pairs x0).toArray)), (4, (bptr b9 0)), (3, (bptr b4 0)), (0, (bptr bx 0))] a200 := hA202.add (slot_ev hs_0 rfl); clear hA202
   rw [hv_8] at hs_8
   have hA208 : Fr 71 [] [(70, (Value.bool (!((List.range (x0.take b.scales.toNat).length).any fun i => decide (((x0.take b.scales.toNat).getD i (0, 0)).2 < ((x0.take b.scales.toNat).getD i (0, 0)).1))))), (62, (Value.agg (pairs x0).toArray)), (4, (bptr b9 0)), (3, (bptr b4 0)), (0, (bptr bx 0))] a200 := hA207.add (slot_ev hs_8 rfl); clear hA207
   clear hH204 hS203 hs_0 hs_1 hs_2 hs_3 hs_4 hs_5 hs_6 hs_7 hs_8
   clear hr_0
   clear hv_0
   clear hr_1
   clear hv_1
   clear hr_2
   clear hv_2
   clear hr_3
   clear hv_3
   clear hr_4
   clear hv_4
   clear hr_5
   clear hv_5
   clear hr_6
   clear hv_6
   clear hr_7
   clear hv_7
   clear hr_8
   clear hv_8
   refine s7 hA208 (op_store hS206 rfl ty_120 (hA208.ev rfl) (hA208.ev rfl) (i := 0) rfl (vs := (pairs x0)) rfl (show (pairs x0).length = 8 from by simp only [pairs_length, List.length_set]; omega) (pairs_one _) (by simp only [pairs_length, List.length_set, List.length_cons, List.length_nil]; omega)) ?_
   intro _ w209 hS210 hA212; have hS211 := hS210.blk_say (i := 0) rfl (cs' := (pairs x0)) (setFrom_all _ _ (by first | (simp only [pairs_length, List.length_set, List.length_cons, List.length_nil]; done) | (simp only [pairs_length, List.length_set, List.length_cons, List.length_nil]; omega))); clear hS210 hA208 hS206
   refine s1 hA212 (op_assign rfl (hA212.ev rfl)) fun a213 hA214 => ?_; clear hA212 a200
   refine n1 ?_
   refine c_ret ?_
   refine ng_ret ?_
   refine fin_run hA214 (.inl rfl) (run_results2 hA214 rfl (.cellA rfl ty_120 (hS211.bk 0 rfl) (l := (pairs x0)) (drop_take_all _ _ (show (pairs x0).length = 8 from by simp only [pairs_length, List.length_set]; omega)) (show (pairs x0).length = 8 from by simp only [pairs_length, List.length_set]; omega)) (.tmp rfl)) ?_
   have hz : passF (orderF b.scales.toNat b.tabs) s = (x0, false) := cut_end (by omega) hc0
   exact ⟨by rw [hz, ← full_any (s := x0) (by omega)], hS211.ext⟩
  ·skip
   intro a215 w216 vs199 rsf220 hA217 hH219 hrq hS218; clear hA198 hS29
   obtain ⟨hs_0, hy_0⟩ := hH219 0 (by decide) (by decide)
   obtain ⟨hv_0, hr_0⟩ := hy_0
   obtain ⟨hs_1, hy_1⟩ := hH219 1 (by decide) (by decide)
   obtain ⟨hv_1, hr_1⟩ := hy_1
   obtain ⟨hs_2, hy_2⟩ := hH219 2 (by decide) (by decide)
   obtain ⟨hv_2, hr_2⟩ := hy_2
   obtain ⟨hs_3, hy_3⟩ := hH219 3 (by decide) (by decide)
   obtain ⟨hv_3, hr_3⟩ := hy_3
   obtain ⟨hs_4, hy_4⟩ := hH219 4 (by decide) (by decide)
   obtain ⟨hv_4, hr_4⟩ := hy_4
   obtain ⟨hs_5, hy_5⟩ := hH219 5 (by decide) (by decide)
   obtain ⟨hv_5, hr_5⟩ := hy_5
   obtain ⟨hs_6, hy_6⟩ := hH219 6 (by decide) (by decide)
   obtain ⟨hv_6, hr_6⟩ := hy_6
   obtain ⟨hs_7, hy_7⟩ := hH219 7 (by decide) (by decide)
   obtain ⟨hv_7, hr_7⟩ := hy_7
   have hS221 : Sep NoB w w216 [(blk b9 120 (pairs ([(0, 0), (0, 0), (0, 0), (0, 0)]))), (blk b4 120 (pairs x0)), (rob bx 146 [(Value.int .i64 b.scales), vt, vm, (Value.map (some bm))]), (mapX false bm es ck es.size 106 5 (bN b.tabs b.tabs.length) (bC lr lb b.tabs b.tabs.length)), (tabsR false vt lr lb b.tabs), (macsR false vm lk b.macs)] := by rw [show catR rsf220 0 9 = ([] : List Res) by (try simp only [catR, hr_0, hr_1, hr_2, hr_3, hr_4, hr_5, hr_6, hr_7, hrq]); (try rfl)] at hS218; exact hS218
   rw [hv_0] at hs_0
   have hA222 : Fr 71 [] [(62, (Value.agg (pairs x0).toArray)), (4, (bptr b9 0)), (3, (bptr b4 0)), (0, (bptr bx 0))] a215 := hA217.add (slot_ev hs_0 rfl); clear hA217
   rw [hv_7] at hs_7
   have hA223 : Fr 71 [] [(69, (Value.bool ((List.range (x0.take b.scales.toNat).length).any fun i => decide (((x0.take b.scales.toNat).getD i (0, 0)).2 < ((x0.take b.scales.toNat).getD i (0, 0)).1)))), (62, (Value.agg (pairs x0).toArray)), (4, (bptr b9 0)), (3, (bptr b4 0)), (0, (bptr bx 0))] a215 := hA222.add (slot_ev hs_7 rfl); clear hA222
   clear hH219 hS218 hs_0 hs_1 hs_2 hs_3 hs_4 hs_5 hs_6 hs_7 hrq
   clear hr_0
   clear hv_0
   clear hr_1
   clear hv_1
   clear hr_2
   clear hv_2
   clear hr_3
   clear hv_3
   clear hr_4
   clear hv_4
   clear hr_5
   clear hv_5
   clear hr_6
   clear hv_6
   clear hr_7
   clear hv_7
   refine s7 hA223 (op_store hS221 rfl ty_120 (hA223.ev rfl) (hA223.ev rfl) (i := 0) rfl (vs := (pairs x0)) rfl (show (pairs x0).length = 8 from by simp only [pairs_length, List.length_set]; omega) (pairs_one _) (by simp only [pairs_length, List.length_set, List.length_cons, List.length_nil]; omega)) ?_
   intro _ w224 hS225 hA227; have hS226 := hS225.blk_say (i := 0) rfl (cs' := (pairs x0)) (setFrom_all _ _ (by first | (simp only [pairs_length, List.length_set, List.length_cons, List.length_nil]; done) | (simp only [pairs_length, List.length_set, List.length_cons, List.length_nil]; omega))); clear hS225 hA223 hS221
   refine s1 hA227 (op_not rfl (hA227.ev rfl)) fun a228 hA229 => ?_; clear hA227 a215
   refine s1 hA229 (op_assign rfl (hA229.ev rfl)) fun a230 hA231 => ?_; clear hA229 a228
   refine n1 ?_
   refine c_ret ?_
   refine ng_ret ?_
   refine fin_run hA231 (.inl rfl) (run_results2 hA231 rfl (.cellA rfl ty_120 (hS226.bk 0 rfl) (l := (pairs x0)) (drop_take_all _ _ (show (pairs x0).length = 8 from by simp only [pairs_length, List.length_set]; omega)) (show (pairs x0).length = 8 from by simp only [pairs_length, List.length_set]; omega)) (.tmp rfl)) ?_
   have hz : passF (orderF b.scales.toNat b.tabs) s = (x0, false) := cut_end (by omega) hc0
   exact ⟨by rw [hz, ← full_any (s := x0) (by omega)], hS226.ext⟩
end Go.Proofs.Ytohgladndklciaa

namespace Go.Hard
open Go.RowKit Go.Eng
theorem biasU_bd {n : Int} {m : MacD} (h : MacV n m) : ∀ k, k ≤ m.blocks.length → (-100000 ≤ (biasU m.blocks k).1 ∧ (biasU m.blocks k).1 ≤ 100000) ∧ -100000 ≤ (biasU m.blocks k).2 ∧ (biasU m.blocks k).2 ≤ 100000
  | 0, _ => by unfold biasU; exact ⟨⟨by decide, by decide⟩, by decide, by decide⟩
  | k + 1, hk => by
    have ih := biasU_bd h k (by omega)
    have hb := h.blocks k (by omega)
    rw [biasU]; dsimp only [cutR]; omega
theorem biasF_bd {n : Int} {m : MacD} (h : MacV n m) : (-100000 ≤ (biasF m).1 ∧ (biasF m).1 ≤ 100000) ∧ -100000 ≤ (biasF m).2 ∧ (biasF m).2 ≤ 100000 := biasU_bd h _ (Nat.le_refl _)
def zero4 : Spans := [(0, 0), (0, 0), (0, 0), (0, 0)]
def fillU : Nat → Spans
  | 0 => zero4
  | k + 1 => (fillU k).set k rng0
theorem fillU_len : ∀ k, (fillU k).length = 4
  | 0 => rfl
  | k + 1 => by rw [fillU, List.length_set]; exact fillU_len k
theorem fill4 : fillU 4 = free4 := by decide
theorem full_free {n : Nat} (hn : n ≤ 4) : Full n free4 := fun i hi => by
  match i, hi with
  | 0, _ => decide
  | 1, _ => decide
  | 2, _ => decide
  | 3, _ => decide
  | i + 4, hi => omega
section
variable {b : BookD} {l : List (Int × Int)} {k : Nat}
theorem start_mono (hb : BookV b) (hl : ReadV b l) {s : Spans} (hs : b.scales.toNat ≤ s.length) {k m : Nat} (h : k ≤ m) (hm : m ≤ l.length) : Sub b.scales.toNat (startU b l s m) (startU b l s k) := by
  have h1 := (start_iff hb hl rfl hs (s' := startU b l s m) m hm).1 (Sub.refl _ _)
  exact (start_iff hb hl rfl hs (s' := startU b l s m) k (by omega)).2 ⟨h1.1, fun j hj => h1.2 j (by omega)⟩
theorem spans_none (h : ¬ Full b.scales.toNat (startF b l)) : spansF b l = none := by
  unfold spansF; rw [if_neg]; rw [full_iff]; exact h
theorem spans_go (h : Full b.scales.toNat (startF b l)) : spansF b l = spansK b.scales.toNat (orderF b.scales.toNat b.tabs) 400001 (startF b l) := by
  unfold spansF; rw [if_pos (full_iff.2 h)]
theorem start_empty (hb : BookV b) (hl : ReadV b l) (hk : k < l.length) (he : (at' (startU b l free4 (k + 1)) (scaleOf b l k)).2 < (at' (startU b l free4 (k + 1)) (scaleOf b l k)).1) : spansF b l = none := by
  refine spans_none fun hf => ?_
  have hsc := scale_lt hb hl hk
  have h1 := start_mono hb hl (s := free4) hb.four (show k + 1 ≤ l.length by omega) (Nat.le_refl _) _ hsc
  have h2 := hf _ hsc
  unfold startF at h2
  omega
theorem start_next (hb : BookV b) (hl : ReadV b l) (hk : k < l.length) (hf : Full b.scales.toNat (startU b l free4 k)) (he : ¬ (at' (startU b l free4 (k + 1)) (scaleOf b l k)).2 < (at' (startU b l free4 (k + 1)) (scaleOf b l k)).1) : Full b.scales.toNat (startU b l free4 (k + 1)) := fun i hi => by
  have hsc := scale_lt hb hl hk
  have hlen := start_len b l free4 k
  have h4 : free4.length = 4 := rfl
  have hn := hb.four
  by_cases e : scaleOf b l k = i
  · subst e; omega
  · rw [startU_succ, at_set (by omega), if_neg e]; exact hf i hi
variable {n : Nat} {ts : List TabD} {s : Spans} {g : Nat}
theorem k_fail (h : fullB n (passF ts s).1 = false) : spansK n ts g s = none := by
  cases g with
  | zero => rfl
  | succ g => rw [spansK, if_neg (by rw [h]; decide)]
theorem k_done (hg : 0 < g) (h : fullB n (passF ts s).1 = true) (he : (passF ts s).1 = s) : spansK n ts g s = some (s.take n) := by
  obtain ⟨g, rfl⟩ : ∃ g', g = g' + 1 := ⟨g - 1, by omega⟩
  rw [spansK, if_pos h, if_pos he]
theorem k_next (hg : 0 < g) (h : fullB n (passF ts s).1 = true) (he : ¬ (passF ts s).1 = s) : spansK n ts g s = spansK n ts (g - 1) (passF ts s).1 := by
  obtain ⟨g, rfl⟩ : ∃ g', g = g' + 1 := ⟨g - 1, by omega⟩
  rw [spansK, if_pos h, if_neg he]; rfl
end
end Go.Hard

namespace Go.Proofs.Ytohgladndklciaa
open Go.RowKit Go.Shelf Go.Eng Go.Hard
theorem ze_98 : (Try.prog.info? 98).bind (·.zero) = some (Value.agg #[(Value.int .i64 0), (Value.int .i64 0)]) := by kernel_rfl
theorem en_88 : ∀ args w, (callFunc 88 args).run Try.prog w = .ok (.enter 88 args) w := enters_of Try.func88 (by kernel_rfl) rfl
theorem ar_120 : Try.prog.underlying 120 = some (.array 4 30) := by kernel_rfl
theorem tw_30 : twoInts Try.prog 30 = true := by kernel_rfl
theorem gt_120 : Try.prog.eqGuardType Try.prog.depth 120 = false := by kernel_rfl
set_option maxHeartbeats 4000000 in
theorem spansb_ok (b : BookD) (vt vm : Value) (lr lb lk : Nat → Value) (w : World) (hT : TabsAt w vt lr lb b.tabs) (hM : MacsAt w vm lk b.macs) (hth : ThinB b) (bx bm : Nat) (es : Array MapEntry) (ck : Nat) (hMO : MapOk bm es ck (bN b.tabs b.tabs.length)) (hbx : (blk bx 146 [.int .i64 b.scales, vt, vm, .map (some bm)]).p w) (hmx : (mapX false bm es ck es.size 106 5 (bN b.tabs b.tabs.length) (bC lr lb b.tabs b.tabs.length)).p w) (hb : BookV b) (l : List (Int × Int)) (xl : Value) (hxl : SlAt w xl 2 l.length (pairs l)) (hl : ReadV b l) :
  Calls Try.prog 57 #[(bptr bx 0), xl] w (Ret fun v w' => ∃ x, x.length = 4 ∧ v = .tuple #[.agg (pairs x).toArray, .bool (spansF b l).isSome] ∧ (∀ t, spansF b l = some t → x.take b.scales.toNat = t) ∧ Ext NoB w w') := by
 refine calls_enter Try.func57 rfl fun a0 hA0 => ?_
 replace hA0 : Fr 79 [] [(0, (bptr bx 0)), (1, xl)] a0 := hA0
 have hsc := hb.scales; have htl9 := hth.tl; have hml9 := hth.ml; have hll := hl.len
 have hS0 : Sep NoB w w [(rob bx 146 [(Value.int .i64 b.scales), vt, vm, (Value.map (some bm))]), (mapX false bm es ck es.size 106 5 (bN b.tabs b.tabs.length) (bC lr lb b.tabs b.tabs.length)), (tabsR false vt lr lb b.tabs), (macsR false vm lk b.macs), (sl xl 2 l.length (pairs l))] := sep_ro ⟨rfl, hbx, rfl, hmx, rfl, hT, rfl, hM, rfl, hxl, trivial⟩
 refine m2 ?_
 refine s2 hA0 (op_alloc hS0 rfl ze_120 (cs := (pairs zero4)) rfl) ?_
 rintro a1 _ w3 ⟨b4, rfl, hS5⟩ hA2; clear hA0 hS0 a0
 refine s1 hA2 (op_assign rfl (evc _ _)) fun a6 hA7 => ?_; clear hA2 a1
 refine n2 ?_
 refine m2 ?_
 refine s1 hA7 (op_move rfl (evc _ _)) fun a8 hA9 => ?_; clear hA7 a6
 refine n1 ?_
 refine c_block ?_
 have hA10 := hA9.as [(13, (Value.int .i64 0)), (4, (bptr b4 0)), (0, (bptr bx 0)), (1, xl)] rfl; clear hA9
 refine c_loop (G := Nat) (fun (k : Nat) a_ w_ => Fr 79 [] [(13, (Value.int .i64 (k : Int))), (4, (bptr b4 0)), (0, (bptr bx 0)), (1, xl)] a_ ∧ Sep NoB w w_ [(blk b4 120 (pairs (fillU k))), (rob bx 146 [(Value.int .i64 b.scales), vt, vm, (Value.map (some bm))]), (mapX false bm es ck es.size 106 5 (bN b.tabs b.tabs.length) (bC lr lb b.tabs b.tabs.length)), (tabsR false vt lr lb b.tabs), (macsR false vm lk b.macs), (sl xl 2 l.length (pairs l))] ∧ (k ≤ 4)) (fun k => 4 - k) 0 ⟨hA10.as _ rfl, hS5, by omega⟩ ?_
 clear hA10 hS5 a8
 rintro k a11 w13 ⟨hA12, hS14, hk⟩
 have hfl := fillU_len k
 refine m2 ?_
 refine s1 hA12 (op_lss rfl (hA12.ev rfl) (evc _ _)) fun a15 hA16 => ?_; clear hA12 a11
 refine n2 ?_
 by_cases hb17 : (k : Int) < 4
 ·skip
  rw [decide_eq_true hb17] at hA16
  refine c_true hA16 rfl ?_
  refine c_skip ?_
  refine then_n ?_
  refine c_seq ?_
  refine c_block ?_
  refine m2 ?_
  refine s1 hA16 (op_move rfl (hA16.ev rfl)) fun a18 hA19 => ?_; clear hA16 a15
  refine s1 hA19 (op_assign rfl (hA19.ev rfl)) fun a20 hA21 => ?_; clear hA19 a18
  refine n3 ?_
  refine s1 hA21 (op_move rfl (hA21.ev rfl)) fun a22 hA23 => ?_; clear hA21 a20
  refine s1 hA23 (op_build rfl (pv2 (evc _ _) (evc _ _)) (bd_30_0i_1i _ _)) fun a24 hA25 => ?_; clear hA23 a22
  refine s1 hA25 (op_indexA rfl un_120 ty_30 (hA25.ev rfl) (i := k) (hA25.ev rfl) (by omega)) fun a26 hA27 => ?_; clear hA25 a24
  refine s7 hA27 (op_store hS14 rfl ty_30 (hA27.ev rfl) (hA27.ev rfl) (i := 0) rfl (vs := [(Value.int .i64 0), (Value.int .i64 100000)]) rfl rfl rfl (by simp only [pairs_length, List.length_set, List.length_cons, List.length_nil]; omega)) ?_
  intro _ w28 hS29 hA31; have hS30 := hS29.blk_say (i := 0) rfl (cs' := (pairs ((fillU k).set k (0, 100000)))) (pairs_setZ _ _ _ _); clear hS29 hA27 hS14
  refine wl_nil ?_
  refine blk_n ?_
  refine then_n ?_
  have hA32 := hA31.as [(13, (Value.int .i64 (k : Int))), (4, (bptr b4 0)), (0, (bptr bx 0)), (1, xl)] rfl; clear hA31
  refine c_region ?_
  refine s1 hA32 (op_add rfl (hA32.ev rfl) (evc _ _) (by omega) (by omega)) fun a33 hA34 => ?_; clear hA32 a26
  refine s1 hA34 (op_move rfl (hA34.ev rfl)) fun a35 hA36 => ?_; clear hA34 a33
  refine wl_nil ?_
  exact then_n ⟨k + 1, ⟨hA36.as _ rfl, hS30, by omega⟩, by omega⟩
 ·skip
  rw [decide_eq_false hb17] at hA16
  refine c_false hA16 rfl ?_
  refine c_exit ?_
  refine then_exit ?_
  refine then_exit ?_
  refine blk_hit ?_
  refine then_n ?_
  refine c_seq ?_
  refine m2 ?_
  refine s1 hA16 (op_move rfl (hA16.ev rfl)) fun a37 hA38 => ?_; clear hA16 a15
  refine s1 hA38 (op_lenS rfl un_53 (hA38.ev rfl) (hS14.sk 5 rfl)) fun a39 hA40 => ?_; clear hA38 a37
  refine s1 hA40 (op_move rfl (evc _ _)) fun a41 hA42 => ?_; clear hA40 a39
  refine n1 ?_
  refine c_block ?_
  have hA43 := hA42.as [(22, (Value.int .i64 0)), (21, (Value.int .i64 (l.length : Int))), (20, xl), (4, (bptr b4 0)), (0, (bptr bx 0))] rfl; clear hA42
  refine c_loop (G := Nat) (fun (k : Nat) a_ w_ => Fr 79 [] [(22, (Value.int .i64 (k : Int))), (21, (Value.int .i64 (l.length : Int))), (20, xl), (4, (bptr b4 0)), (0, (bptr bx 0))] a_ ∧ Sep NoB w w_ [(blk b4 120 (pairs (startU b l free4 k))), (rob bx 146 [(Value.int .i64 b.scales), vt, vm, (Value.map (some bm))]), (mapX false bm es ck es.size 106 5 (bN b.tabs b.tabs.length) (bC lr lb b.tabs b.tabs.length)), (tabsR false vt lr lb b.tabs), (macsR false vm lk b.macs), (sl xl 2 l.length (pairs l))] ∧ (k ≤ l.length) ∧ (Full b.scales.toNat (startU b l free4 k))) (fun k => l.length - k) 0 ⟨hA43.as _ rfl, (hS14.blk_say (i := 0) rfl (by rw [show k = 4 by omega, fill4]; rfl)), Nat.zero_le _, full_free hb.four⟩ ?_
  clear hA43 hS14 a41
  rintro k a44 w46 ⟨hA45, hS47, hk, hfu⟩
  have hsl := start_len b l free4 k; have hf4 : free4.length = 4 := rfl
  refine m2 ?_
  refine s1 hA45 (op_lss rfl (hA45.ev rfl) (hA45.ev rfl)) fun a48 hA49 => ?_; clear hA45 a44
  refine n2 ?_
  by_cases hb50 : (k : Int) < (l.length : Int)
  ·skip
   rw [decide_eq_true hb50] at hA49
   have hscl := scale_lt hb hl (k := k) (by omega); unfold scaleOf at hscl; have hmv := hl.macV hb (k := k) (by omega); have hsv := hmv.scale; have hbb := biasF_bd hmv; have hlm := hl.mac k (by omega); have hlr := hl.read k (by omega); have hsl1 := start_len b l free4 (k + 1); have hb4_ := hb.four
   refine c_true hA49 rfl ?_
   refine c_skip ?_
   refine then_n ?_
   refine c_seq ?_
   refine c_block ?_
   refine m2 ?_
   refine s1 hA49 (op_indexS rfl un_53 ty_98 (hA49.ev rfl) (i := k) (hA49.ev rfl) (hS47.sk 5 rfl) (by decide) (by omega)) fun a51 hA52 => ?_; clear hA49 a48
   refine s1 hA52 (op_loadAE rfl ty_98 (hA52.ev rfl) (hS47.sk 5 rfl) (pairs_all (by omega)) rfl (by decide)) fun a53 hA54 => ?_; clear hA52 a51
   refine s2 hA54 (op_alloc hS47 rfl ze_98 (cs := [(Value.int .i64 0), (Value.int .i64 0)]) rfl) ?_
   rintro a55 _ w57 ⟨b58, rfl, hS59⟩ hA56; clear hA54 hS47 a53
   refine s7 hA56 (op_store hS59 rfl ty_98 (hA56.ev rfl) (hA56.ev rfl) (i := 0) rfl (vs := [(Value.int .i64 ((l.getD k (0, 0)).1)), (Value.int .i64 ((l.getD k (0, 0)).2))]) rfl rfl rfl (Nat.le_of_ble_eq_true rfl)) ?_
   intro _ w60 hS61 hA62; clear hA56
   have hS63 : Sep NoB w w60 [(blk b58 98 [(Value.int .i64 ((l.getD k (0, 0)).1)), (Value.int .i64 ((l.getD k (0, 0)).2))]), (blk b4 120 (pairs (startU b l free4 k))), (rob bx 146 [(Value.int .i64 b.scales), vt, vm, (Value.map (some bm))]), (mapX false bm es ck es.size 106 5 (bN b.tabs b.tabs.length) (bC lr lb b.tabs b.tabs.length)), (tabsR false vt lr lb b.tabs), (macsR false vm lk b.macs), (sl xl 2 l.length (pairs l))] := hS61; clear hS61 hS59
   refine n2 ?_
   have hA64 := hA62.as [(8, (bptr b58 0)), (22, (Value.int .i64 (k : Int))), (21, (Value.int .i64 (l.length : Int))), (20, xl), (4, (bptr b4 0)), (0, (bptr bx 0))] rfl; clear hA62
   refine c_drawV mixed hA64 hS63 10 [[], [0], [1], [2], [3], [], [5], [4, 6], [7], []] [(fun (vs65 : Nat → Value) (v_ : Value) (rs_ : List Res) => v_ = (bptr bx 0) ∧ rs_ = []), (fun (vs65 : Nat → Value) (v_ : Value) (rs_ : List Res) => v_ = (bptr bx 0) ∧ rs_ = []), (fun (vs65 : Nat → Value) (v_ : Value) (rs_ : List Res) => v_ = (bptr bx 0) ∧ rs_ = []), (fun (vs65 : Nat → Value) (v_ : Value) (rs_ : List Res) => v_ = (bptr bx 2) ∧ rs_ = []), (fun (vs65 : Nat → Value) (v_ : Value) (rs_ : List Res) => v_ = vm ∧ rs_ = []), (fun (vs65 : Nat → Value) (v_ : Value) (rs_ : List Res) => v_ = (bptr b58 0) ∧ rs_ = []), (fun (vs65 : Nat → Value) (v_ : Value) (rs_ : List Res) => v_ = (Value.int .i64 ((l.getD k (0, 0)).1)) ∧ rs_ = []), (fun (vs65 : Nat → Value) (v_ : Value) (rs_ : List Res) => v_ = (eptr vm (((l.getD k (0, 0)).1).toNat * 2)) ∧ rs_ = []), (fun (vs65 : Nat → Value) (v_ : Value) (rs_ : List Res) => v_ = (Value.agg #[(Value.int .i64 ((b.macs.getD (((l.getD k (0, 0)).1).toNat) mac0).scale)), (lk (((l.getD k (0, 0)).1).toNat))]) ∧ rs_ = []), (fun (vs65 : Nat → Value) (v_ : Value) (rs_ : List Res) => ∃ (b9_ : Nat), v_ = (bptr b9_ 0) ∧ rs_ = [(blk b9_ 103 [(Value.int .i64 0), (Value.slice none 0 0)])])] (by decide +kernel) (by decide +kernel) rfl rfl ⟨(fun _ _ _ _ _ h_ => h_), (fun _ _ _ _ _ h_ => h_), (fun _ _ _ _ _ h_ => h_), (fun _ _ _ _ _ h_ => h_), (fun _ _ _ _ _ h_ => h_), (fun _ _ _ _ _ h_ => h_), (fun _ _ _ _ _ h_ => h_), (fun _ _ _ _ _ h_ => h_), (fun _ _ _ _ _ h_ => h_), (fun _ _ _ _ _ h_ => h_), trivial⟩ ?_ ?_
   ·skip
    refine ⟨fun a w vs65 hA hS hd => ?_, ?_⟩
    ·skip
     exact opG_of rfl (vv (op_move rfl (hA.ev rfl)) (And.intro rfl rfl))
    refine ⟨fun a w vs65 hA hS hd => ?_, ?_⟩
    ·skip
     obtain ⟨e0, rs0, hy0, hp0⟩ := hd 0 (by decide)
     obtain ⟨hv0, hr0⟩ := hy0; subst hr0
     rw [hv0] at e0
     exact opG_of rfl (vv (op_nilCheck rfl (tmp_ev (slot_ev e0 rfl))) (And.intro rfl rfl))
    refine ⟨fun a w vs65 hA hS hd => ?_, ?_⟩
    ·skip
     obtain ⟨e1, rs1, hy1, hp1⟩ := hd 1 (by decide)
     obtain ⟨hv1, hr1⟩ := hy1; subst hr1
     rw [hv1] at e1
     exact opG_of rfl (vv (op_field rfl fd_146_0 (tmp_ev (slot_ev e1 rfl))) (And.intro rfl rfl))
    refine ⟨fun a w vs65 hA hS hd => ?_, ?_⟩
    ·skip
     obtain ⟨e2, rs2, hy2, hp2⟩ := hd 2 (by decide)
     obtain ⟨hv2, hr2⟩ := hy2; subst hr2
     rw [hv2] at e2
     exact opG_of rfl (vv (op_field rfl fd_37_2 (tmp_ev (slot_ev e2 rfl))) (And.intro rfl rfl))
    refine ⟨fun a w vs65 hA hS hd => ?_, ?_⟩
    ·skip
     obtain ⟨e3, rs3, hy3, hp3⟩ := hd 3 (by decide)
     obtain ⟨hv3, hr3⟩ := hy3; subst hr3
     rw [hv3] at e3
     exact opG_of rfl (vv (op_load1 rfl ty_35 (tmp_ev (slot_ev e3 rfl)) (hS.rk 2 rfl) rfl) (And.intro rfl rfl))
    refine ⟨fun a w vs65 hA hS hd => ?_, ?_⟩
    ·skip
     exact opG_of rfl (vv (op_field rfl fd_98_0 (hA.ev rfl)) (And.intro rfl rfl))
    refine ⟨fun a w vs65 hA hS hd => ?_, ?_⟩
    ·skip
     obtain ⟨e5, rs5, hy5, hp5⟩ := hd 5 (by decide)
     obtain ⟨hv5, hr5⟩ := hy5; subst hr5
     rw [hv5] at e5
     exact opG_of rfl (vv (op_load1 rfl ty_3 (tmp_ev (slot_ev e5 rfl)) (hS.bk 0 rfl) rfl) (And.intro rfl rfl))
    refine ⟨fun a w vs65 hA hS hd => ?_, ?_⟩
    ·skip
     obtain ⟨e4, rs4, hy4, hp4⟩ := hd 4 (by decide)
     obtain ⟨hv4, hr4⟩ := hy4; subst hr4
     rw [hv4] at e4
     obtain ⟨e6, rs6, hy6, hp6⟩ := hd 6 (by decide)
     obtain ⟨hv6, hr6⟩ := hy6; subst hr6
     rw [hv6] at e6
     exact opG_of rfl (vv (op_indexS rfl un_35 ty_103 (tmp_ev (slot_ev e4 rfl)) (i := ((l.getD k (0, 0)).1).toNat) ((tmp_ev (slot_ev e6 rfl)).trans (int_nat (by omega))) (macs_at (hS.ok 5 _ rfl)).macs (by decide) (by omega)) (And.intro rfl rfl))
    refine ⟨fun a w vs65 hA hS hd => ?_, ?_⟩
    ·skip
     obtain ⟨e7, rs7, hy7, hp7⟩ := hd 7 (by decide)
     obtain ⟨hv7, hr7⟩ := hy7; subst hr7
     rw [hv7] at e7
     exact opG_of rfl (vv (op_loadAE rfl ty_103 (tmp_ev (slot_ev e7 rfl)) (macs_at (hS.ok 5 _ rfl)).macs (macs_all (by omega)) rfl (by decide)) (And.intro rfl rfl))
    refine ⟨fun a w vs65 hA hS hd => ?_, ?_⟩
    ·skip
     exact opG_of rfl (valloc rfl ze_103 (cs := [(Value.int .i64 0), (Value.slice none 0 0)]) rfl (fun b_ => ⟨b_, rfl, rfl⟩))
    trivial
   intro a66 w67 vs65 rsf71 hA68 hH70 hS69; clear hA64 hS63
   obtain ⟨hs_0, hy_0⟩ := hH70 0 (by decide)
   obtain ⟨hv_0, hr_0⟩ := hy_0
   obtain ⟨hs_1, hy_1⟩ := hH70 1 (by decide)
   obtain ⟨hv_1, hr_1⟩ := hy_1
   obtain ⟨hs_2, hy_2⟩ := hH70 2 (by decide)
   obtain ⟨hv_2, hr_2⟩ := hy_2
   obtain ⟨hs_3, hy_3⟩ := hH70 3 (by decide)
   obtain ⟨hv_3, hr_3⟩ := hy_3
   obtain ⟨hs_4, hy_4⟩ := hH70 4 (by decide)
   obtain ⟨hv_4, hr_4⟩ := hy_4
   obtain ⟨hs_5, hy_5⟩ := hH70 5 (by decide)
   obtain ⟨hv_5, hr_5⟩ := hy_5
   obtain ⟨hs_6, hy_6⟩ := hH70 6 (by decide)
   obtain ⟨hv_6, hr_6⟩ := hy_6
   obtain ⟨hs_7, hy_7⟩ := hH70 7 (by decide)
   obtain ⟨hv_7, hr_7⟩ := hy_7
   obtain ⟨hs_8, hy_8⟩ := hH70 8 (by decide)
   obtain ⟨hv_8, hr_8⟩ := hy_8
   obtain ⟨hs_9, hy_9⟩ := hH70 9 (by decide)
   obtain ⟨b9_, hv_9, hr_9⟩ := hy_9
   have hS72 : Sep NoB w w67 [(blk b9_ 103 [(Value.int .i64 0), (Value.slice none 0 0)]), (blk b58 98 [(Value.int .i64 ((l.getD k (0, 0)).1)), (Value.int .i64 ((l.getD k (0, 0)).2))]), (blk b4 120 (pairs (startU b l free4 k))), (rob bx 146 [(Value.int .i64 b.scales), vt, vm, (Value.map (some bm))]), (mapX false bm es ck es.size 106 5 (bN b.tabs b.tabs.length) (bC lr lb b.tabs b.tabs.length)), (tabsR false vt lr lb b.tabs), (macsR false vm lk b.macs), (sl xl 2 l.length (pairs l))] := by rw [show catR rsf71 0 10 = ([(blk b9_ 103 [(Value.int .i64 0), (Value.slice none 0 0)])] : List Res) by (try simp only [catR, hr_0, hr_1, hr_2, hr_3, hr_4, hr_5, hr_6, hr_7, hr_8, hr_9]); (try rfl)] at hS69; exact hS69
   rw [hv_8] at hs_8
   have hA73 : Fr 79 [] [(34, (Value.agg #[(Value.int .i64 ((b.macs.getD (((l.getD k (0, 0)).1).toNat) mac0).scale)), (lk (((l.getD k (0, 0)).1).toNat))])), (8, (bptr b58 0)), (22, (Value.int .i64 (k : Int))), (21, (Value.int .i64 (l.length : Int))), (20, xl), (4, (bptr b4 0)), (0, (bptr bx 0))] a66 := hA68.add (slot_ev hs_8 rfl); clear hA68
   rw [hv_9] at hs_9
   have hA74 : Fr 79 [] [(9, (bptr b9_ 0)), (34, (Value.agg #[(Value.int .i64 ((b.macs.getD (((l.getD k (0, 0)).1).toNat) mac0).scale)), (lk (((l.getD k (0, 0)).1).toNat))])), (8, (bptr b58 0)), (22, (Value.int .i64 (k : Int))), (21, (Value.int .i64 (l.length : Int))), (20, xl), (4, (bptr b4 0)), (0, (bptr bx 0))] a66 := hA73.add (slot_ev hs_9 rfl); clear hA73
   clear hH70 hS69 hs_0 hs_1 hs_2 hs_3 hs_4 hs_5 hs_6 hs_7 hs_8 hs_9
   clear hr_0
   clear hv_0
   clear hr_1
   clear hv_1
   clear hr_2
   clear hv_2
   clear hr_3
   clear hv_3
   clear hr_4
   clear hv_4
   clear hr_5
   clear hv_5
   clear hr_6
   clear hv_6
   clear hr_7
   clear hv_7
   clear hr_8
   clear hv_8
   clear hr_9
   clear hv_9
   refine s7 hA74 (op_store hS72 rfl ty_103 (hA74.ev rfl) (hA74.ev rfl) (i := 0) rfl (vs := [(Value.int .i64 ((b.macs.getD (((l.getD k (0, 0)).1).toNat) mac0).scale)), (lk (((l.getD k (0, 0)).1).toNat))]) rfl rfl (all_c rfl (all_c (SlAt.one ((macs_at (hS72.ok 6 _ rfl)).blk (i := ((l.getD k (0, 0)).1).toNat) (by omega))) all_n)) (Nat.le_of_ble_eq_true rfl)) ?_
   intro _ w75 hS76 hA77; clear hA74
   have hS78 : Sep NoB w w75 [(blk b9_ 103 [(Value.int .i64 ((b.macs.getD (((l.getD k (0, 0)).1).toNat) mac0).scale)), (lk (((l.getD k (0, 0)).1).toNat))]), (blk b58 98 [(Value.int .i64 ((l.getD k (0, 0)).1)), (Value.int .i64 ((l.getD k (0, 0)).2))]), (blk b4 120 (pairs (startU b l free4 k))), (rob bx 146 [(Value.int .i64 b.scales), vt, vm, (Value.map (some bm))]), (mapX false bm es ck es.size 106 5 (bN b.tabs b.tabs.length) (bC lr lb b.tabs b.tabs.length)), (tabsR false vt lr lb b.tabs), (macsR false vm lk b.macs), (sl xl 2 l.length (pairs l))] := hS76; clear hS76 hS72
   refine n4 ?_
   refine s1 hA77 (op_loadA rfl ty_103 (hA77.ev rfl) (hS78.bk 0 rfl) (l := [(Value.int .i64 ((b.macs.getD (((l.getD k (0, 0)).1).toNat) mac0).scale)), (lk (((l.getD k (0, 0)).1).toNat))]) rfl rfl) fun a79 hA80 => ?_; clear hA77 a66
   refine s2 hA80 (op_call rfl en_67 (ev1 (hA80.ev rfl)) (bias_ok _ (b.macs.getD (((l.getD k (0, 0)).1).toNat) mac0) _ _ ((macs_at (hS78.ok 6 _ rfl)).blk (i := ((l.getD k (0, 0)).1).toNat) (by omega)) (hl.macV hb (by omega)) (hth.kl _))) ?_
   rintro a81 _ w83 ⟨rfl, hE84⟩ hA82; have hS85 := hS78.step hE84; clear hE84 hA80 hS78 a79
   refine s2 hA82 (op_alloc hS85 rfl ze_30 (cs := [(Value.int .i64 0), (Value.int .i64 0)]) rfl) ?_
   rintro a86 _ w88 ⟨b89, rfl, hS90⟩ hA87; clear hA82 hS85 a81
   refine s7 hA87 (op_store hS90 rfl ty_30 (hA87.ev rfl) (hA87.ev rfl) (i := 0) rfl (vs := [(Value.int .i64 ((biasF (b.macs.getD (((l.getD k (0, 0)).1).toNat) mac0)).1)), (Value.int .i64 ((biasF (b.macs.getD (((l.getD k (0, 0)).1).toNat) mac0)).2))]) rfl rfl rfl (Nat.le_of_ble_eq_true rfl)) ?_
   intro _ w91 hS92 hA93; clear hA87
   have hS94 : Sep NoB w w91 [(blk b89 30 [(Value.int .i64 ((biasF (b.macs.getD (((l.getD k (0, 0)).1).toNat) mac0)).1)), (Value.int .i64 ((biasF (b.macs.getD (((l.getD k (0, 0)).1).toNat) mac0)).2))]), (blk b9_ 103 [(Value.int .i64 ((b.macs.getD (((l.getD k (0, 0)).1).toNat) mac0).scale)), (lk (((l.getD k (0, 0)).1).toNat))]), (blk b58 98 [(Value.int .i64 ((l.getD k (0, 0)).1)), (Value.int .i64 ((l.getD k (0, 0)).2))]), (blk b4 120 (pairs (startU b l free4 k))), (rob bx 146 [(Value.int .i64 b.scales), vt, vm, (Value.map (some bm))]), (mapX false bm es ck es.size 106 5 (bN b.tabs b.tabs.length) (bC lr lb b.tabs b.tabs.length)), (tabsR false vt lr lb b.tabs), (macsR false vm lk b.macs), (sl xl 2 l.length (pairs l))] := hS92; clear hS92 hS90
   refine n2 ?_
   have hA95 := hA93.as [(10, (bptr b89 0)), (9, (bptr b9_ 0)), (8, (bptr b58 0)), (22, (Value.int .i64 (k : Int))), (21, (Value.int .i64 (l.length : Int))), (20, xl), (4, (bptr b4 0)), (0, (bptr bx 0))] rfl; clear hA93
   refine c_drawn mixed hA95 hS94 18 [[], [0], [], [2], [3], [4], [], [6], [], [8], [7, 9], [], [11], [], [13], [12, 14], [10, 15], [5, 16]] [(Yd.val (bptr b9_ 0)), (Yd.val (Value.int .i64 ((b.macs.getD (((l.getD k (0, 0)).1).toNat) mac0).scale))), (Yd.val (bptr b9_ 0)), (Yd.val (Value.int .i64 ((b.macs.getD (((l.getD k (0, 0)).1).toNat) mac0).scale))), (Yd.val (bptr b4 (0 + ((b.macs.getD (((l.getD k (0, 0)).1).toNat) mac0).scale).toNat * 2))), (Yd.val (Value.agg #[(Value.int .i64 (((startU b l free4 k).getD (((b.macs.getD (((l.getD k (0, 0)).1).toNat) mac0).scale).toNat) (0, 0)).1)), (Value.int .i64 (((startU b l free4 k).getD (((b.macs.getD (((l.getD k (0, 0)).1).toNat) mac0).scale).toNat) (0, 0)).2))])), (Yd.val (bptr b58 1)), (Yd.val (Value.int .i64 ((l.getD k (0, 0)).2))), (Yd.val (bptr b89 1)), (Yd.val (Value.int .i64 ((biasF (b.macs.getD (((l.getD k (0, 0)).1).toNat) mac0)).2))), (Yd.val (Value.int .i64 (((l.getD k (0, 0)).2) - ((biasF (b.macs.getD (((l.getD k (0, 0)).1).toNat) mac0)).2)))), (Yd.val (bptr b58 1)), (Yd.val (Value.int .i64 ((l.getD k (0, 0)).2))), (Yd.val (bptr b89 0)), (Yd.val (Value.int .i64 ((biasF (b.macs.getD (((l.getD k (0, 0)).1).toNat) mac0)).1))), (Yd.val (Value.int .i64 (((l.getD k (0, 0)).2) - ((biasF (b.macs.getD (((l.getD k (0, 0)).1).toNat) mac0)).1)))), (Yd.val (Value.agg #[(Value.int .i64 (((l.getD k (0, 0)).2) - ((biasF (b.macs.getD (((l.getD k (0, 0)).1).toNat) mac0)).2))), (Value.int .i64 (((l.getD k (0, 0)).2) - ((biasF (b.macs.getD (((l.getD k (0, 0)).1).toNat) mac0)).1)))])), (Yd.val (Value.agg #[(Value.int .i64 ((cutR (((startU b l free4 k).getD (((b.macs.getD (((l.getD k (0, 0)).1).toNat) mac0).scale).toNat) (0, 0)).1, ((startU b l free4 k).getD (((b.macs.getD (((l.getD k (0, 0)).1).toNat) mac0).scale).toNat) (0, 0)).2) (((l.getD k (0, 0)).2) - ((biasF (b.macs.getD (((l.getD k (0, 0)).1).toNat) mac0)).2), ((l.getD k (0, 0)).2) - ((biasF (b.macs.getD (((l.getD k (0, 0)).1).toNat) mac0)).1))).1)), (Value.int .i64 ((cutR (((startU b l free4 k).getD (((b.macs.getD (((l.getD k (0, 0)).1).toNat) mac0).scale).toNat) (0, 0)).1, ((startU b l free4 k).getD (((b.macs.getD (((l.getD k (0, 0)).1).toNat) mac0).scale).toNat) (0, 0)).2) (((l.getD k (0, 0)).2) - ((biasF (b.macs.getD (((l.getD k (0, 0)).1).toNat) mac0)).2), ((l.getD k (0, 0)).2) - ((biasF (b.macs.getD (((l.getD k (0, 0)).1).toNat) mac0)).1))).2))]))] (by decide +kernel) rfl rfl ?_ ?_
   ·skip
    refine dq (fun a w hA hS hd => op_field rfl fd_103_0 (hA.ev rfl)) ?_
    refine dq (fun a w hA hS hd => op_load1 rfl ty_3 (hq hd 0) (hS.bk 1 rfl) rfl) ?_
    refine dq (fun a w hA hS hd => op_field rfl fd_103_0 (hA.ev rfl)) ?_
    refine dq (fun a w hA hS hd => op_load1 rfl ty_3 (hq hd 2) (hS.bk 1 rfl) rfl) ?_
    refine dq (fun a w hA hS hd => op_indexA rfl un_120 ty_30 (hA.ev rfl) (i := ((b.macs.getD (((l.getD k (0, 0)).1).toNat) mac0).scale).toNat) ((hq hd 3).trans (int_nat (by omega))) (by omega)) ?_
    refine dq (fun a w hA hS hd => op_loadA rfl ty_30 (hq hd 4) (hS.bk 3 rfl) (l := [(Value.int .i64 (((startU b l free4 k).getD (((b.macs.getD (((l.getD k (0, 0)).1).toNat) mac0).scale).toNat) (0, 0)).1)), (Value.int .i64 (((startU b l free4 k).getD (((b.macs.getD (((l.getD k (0, 0)).1).toNat) mac0).scale).toNat) (0, 0)).2))]) (pairs_all0 (xs := (startU b l free4 k)) (i := ((b.macs.getD (((l.getD k (0, 0)).1).toNat) mac0).scale).toNat) (by omega)) rfl) ?_
    refine dq (fun a w hA hS hd => op_field rfl fd_98_1 (hA.ev rfl)) ?_
    refine dq (fun a w hA hS hd => op_load1 rfl ty_3 (hq hd 6) (hS.bk 2 rfl) rfl) ?_
    refine dq (fun a w hA hS hd => op_field rfl fd_30_1 (hA.ev rfl)) ?_
    refine dq (fun a w hA hS hd => op_load1 rfl ty_3 (hq hd 8) (hS.bk 0 rfl) rfl) ?_
    refine dq (fun a w hA hS hd => op_sub rfl (hq hd 7) (hq hd 9) (by omega) (by omega)) ?_
    refine dq (fun a w hA hS hd => op_field rfl fd_98_1 (hA.ev rfl)) ?_
    refine dq (fun a w hA hS hd => op_load1 rfl ty_3 (hq hd 11) (hS.bk 2 rfl) rfl) ?_
    refine dq (fun a w hA hS hd => op_field rfl fd_30_0 (hA.ev rfl)) ?_
    refine dq (fun a w hA hS hd => op_load1 rfl ty_3 (hq hd 13) (hS.bk 0 rfl) rfl) ?_
    refine dq (fun a w hA hS hd => op_sub rfl (hq hd 12) (hq hd 14) (by omega) (by omega)) ?_
    refine dq (fun a w hA hS hd => op_build rfl (pv2 (hq hd 10) (hq hd 15)) (bd_30_0i_1i _ _)) ?_
    refine ⟨fun a w hA hS hd => by have e5 := hx hd 5; have e16 := hx hd 16; exact opG_of rfl (dx (op_call rfl en_87 (ev2 (tmp_ev e5) (tmp_ev e16)) (cut_ok _ _ _ _ _)) hS (fun _ => rfl)), ?_⟩
    trivial
   intro a97 w98 hA99 hS100 hH101; clear hA95 hS94
   have hA102 := hA99.add (hz hH101 1); clear hA99
   have hA103 := hA102.add (hz hH101 17); clear hA102
   clear hH101
   refine s1 hA103 (op_indexA rfl un_120 ty_30 (hA103.ev rfl) (i := ((b.macs.getD (((l.getD k (0, 0)).1).toNat) mac0).scale).toNat) ((hA103.ev rfl).trans (int_nat (by omega))) (by omega)) fun a104 hA105 => ?_; clear hA103 a97
   refine s7 hA105 (op_store hS100 rfl ty_30 (hA105.ev rfl) (hA105.ev rfl) (i := 3) rfl (vs := [(Value.int .i64 ((cutR (((startU b l free4 k).getD (((b.macs.getD (((l.getD k (0, 0)).1).toNat) mac0).scale).toNat) (0, 0)).1, ((startU b l free4 k).getD (((b.macs.getD (((l.getD k (0, 0)).1).toNat) mac0).scale).toNat) (0, 0)).2) (((l.getD k (0, 0)).2) - ((biasF (b.macs.getD (((l.getD k (0, 0)).1).toNat) mac0)).2), ((l.getD k (0, 0)).2) - ((biasF (b.macs.getD (((l.getD k (0, 0)).1).toNat) mac0)).1))).1)), (Value.int .i64 ((cutR (((startU b l free4 k).getD (((b.macs.getD (((l.getD k (0, 0)).1).toNat) mac0).scale).toNat) (0, 0)).1, ((startU b l free4 k).getD (((b.macs.getD (((l.getD k (0, 0)).1).toNat) mac0).scale).toNat) (0, 0)).2) (((l.getD k (0, 0)).2) - ((biasF (b.macs.getD (((l.getD k (0, 0)).1).toNat) mac0)).2), ((l.getD k (0, 0)).2) - ((biasF (b.macs.getD (((l.getD k (0, 0)).1).toNat) mac0)).1))).2))]) rfl rfl rfl (by simp only [pairs_length, List.length_set, List.length_cons, List.length_nil]; omega)) ?_
   intro _ w106 hS107 hA109; have hS108 := hS107.blk_say (i := 3) rfl (cs' := (pairs ((startU b l free4 k).set (((b.macs.getD (((l.getD k (0, 0)).1).toNat) mac0).scale).toNat) ((cutR (((startU b l free4 k).getD (((b.macs.getD (((l.getD k (0, 0)).1).toNat) mac0).scale).toNat) (0, 0)).1, ((startU b l free4 k).getD (((b.macs.getD (((l.getD k (0, 0)).1).toNat) mac0).scale).toNat) (0, 0)).2) (((l.getD k (0, 0)).2) - ((biasF (b.macs.getD (((l.getD k (0, 0)).1).toNat) mac0)).2), ((l.getD k (0, 0)).2) - ((biasF (b.macs.getD (((l.getD k (0, 0)).1).toNat) mac0)).1))).1, (cutR (((startU b l free4 k).getD (((b.macs.getD (((l.getD k (0, 0)).1).toNat) mac0).scale).toNat) (0, 0)).1, ((startU b l free4 k).getD (((b.macs.getD (((l.getD k (0, 0)).1).toNat) mac0).scale).toNat) (0, 0)).2) (((l.getD k (0, 0)).2) - ((biasF (b.macs.getD (((l.getD k (0, 0)).1).toNat) mac0)).2), ((l.getD k (0, 0)).2) - ((biasF (b.macs.getD (((l.getD k (0, 0)).1).toNat) mac0)).1))).2)))) (pairs_setZ _ _ _ _); clear hS107 hA105 hS100
   refine n4 ?_
   refine s1 hA109 (op_field rfl fd_103_0 (hA109.ev rfl)) fun a110 hA111 => ?_; clear hA109 a104
   refine s1 hA111 (op_load1 rfl ty_3 (hA111.ev rfl) (hS108.bk 1 rfl) rfl) fun a112 hA113 => ?_; clear hA111 a110
   refine s1 hA113 (op_indexA rfl un_120 ty_30 (hA113.ev rfl) (i := ((b.macs.getD (((l.getD k (0, 0)).1).toNat) mac0).scale).toNat) ((hA113.ev rfl).trans (int_nat (by omega))) (by omega)) fun a114 hA115 => ?_; clear hA113 a112
   refine s1 hA115 (op_loadA rfl ty_30 (hA115.ev rfl) (hS108.bk 3 rfl) (l := [(Value.int .i64 ((((startU b l free4 k).set (((b.macs.getD (((l.getD k (0, 0)).1).toNat) mac0).scale).toNat) ((cutR (((startU b l free4 k).getD (((b.macs.getD (((l.getD k (0, 0)).1).toNat) mac0).scale).toNat) (0, 0)).1, ((startU b l free4 k).getD (((b.macs.getD (((l.getD k (0, 0)).1).toNat) mac0).scale).toNat) (0, 0)).2) (((l.getD k (0, 0)).2) - ((biasF (b.macs.getD (((l.getD k (0, 0)).1).toNat) mac0)).2), ((l.getD k (0, 0)).2) - ((biasF (b.macs.getD (((l.getD k (0, 0)).1).toNat) mac0)).1))).1, (cutR (((startU b l free4 k).getD (((b.macs.getD (((l.getD k (0, 0)).1).toNat) mac0).scale).toNat) (0, 0)).1, ((startU b l free4 k).getD (((b.macs.getD (((l.getD k (0, 0)).1).toNat) mac0).scale).toNat) (0, 0)).2) (((l.getD k (0, 0)).2) - ((biasF (b.macs.getD (((l.getD k (0, 0)).1).toNat) mac0)).2), ((l.getD k (0, 0)).2) - ((biasF (b.macs.getD (((l.getD k (0, 0)).1).toNat) mac0)).1))).2)).getD (((b.macs.getD (((l.getD k (0, 0)).1).toNat) mac0).scale).toNat) (0, 0)).1)), (Value.int .i64 ((((startU b l free4 k).set (((b.macs.getD (((l.getD k (0, 0)).1).toNat) mac0).scale).toNat) ((cutR (((startU b l free4 k).getD (((b.macs.getD (((l.getD k (0, 0)).1).toNat) mac0).scale).toNat) (0, 0)).1, ((startU b l free4 k).getD (((b.macs.getD (((l.getD k (0, 0)).1).toNat) mac0).scale).toNat) (0, 0)).2) (((l.getD k (0, 0)).2) - ((biasF (b.macs.getD (((l.getD k (0, 0)).1).toNat) mac0)).2), ((l.getD k (0, 0)).2) - ((biasF (b.macs.getD (((l.getD k (0, 0)).1).toNat) mac0)).1))).1, (cutR (((startU b l free4 k).getD (((b.macs.getD (((l.getD k (0, 0)).1).toNat) mac0).scale).toNat) (0, 0)).1, ((startU b l free4 k).getD (((b.macs.getD (((l.getD k (0, 0)).1).toNat) mac0).scale).toNat) (0, 0)).2) (((l.getD k (0, 0)).2) - ((biasF (b.macs.getD (((l.getD k (0, 0)).1).toNat) mac0)).2), ((l.getD k (0, 0)).2) - ((biasF (b.macs.getD (((l.getD k (0, 0)).1).toNat) mac0)).1))).2)).getD (((b.macs.getD (((l.getD k (0, 0)).1).toNat) mac0).scale).toNat) (0, 0)).2))]) (pairs_all0 (xs := ((startU b l free4 k).set (((b.macs.getD (((l.getD k (0, 0)).1).toNat) mac0).scale).toNat) ((cutR (((startU b l free4 k).getD (((b.macs.getD (((l.getD k (0, 0)).1).toNat) mac0).scale).toNat) (0, 0)).1, ((startU b l free4 k).getD (((b.macs.getD (((l.getD k (0, 0)).1).toNat) mac0).scale).toNat) (0, 0)).2) (((l.getD k (0, 0)).2) - ((biasF (b.macs.getD (((l.getD k (0, 0)).1).toNat) mac0)).2), ((l.getD k (0, 0)).2) - ((biasF (b.macs.getD (((l.getD k (0, 0)).1).toNat) mac0)).1))).1, (cutR (((startU b l free4 k).getD (((b.macs.getD (((l.getD k (0, 0)).1).toNat) mac0).scale).toNat) (0, 0)).1, ((startU b l free4 k).getD (((b.macs.getD (((l.getD k (0, 0)).1).toNat) mac0).scale).toNat) (0, 0)).2) (((l.getD k (0, 0)).2) - ((biasF (b.macs.getD (((l.getD k (0, 0)).1).toNat) mac0)).2), ((l.getD k (0, 0)).2) - ((biasF (b.macs.getD (((l.getD k (0, 0)).1).toNat) mac0)).1))).2))) (i := ((b.macs.getD (((l.getD k (0, 0)).1).toNat) mac0).scale).toNat) (by simp only [List.length_set]; omega)) rfl) fun a116 hA117 => ?_; clear hA115 a114
   refine s2 hA117 (op_call rfl en_68 (ev1 (hA117.ev rfl)) (empty_ok _ _ _)) ?_
   rintro a118 _ w120 ⟨rfl, hE121⟩ hA119; have hS122 := hS108.step hE121; clear hE121 hA117 hS108 a116
   refine n1 ?_
   by_cases hb123 : ((((startU b l free4 k).set (((b.macs.getD (((l.getD k (0, 0)).1).toNat) mac0).scale).toNat) ((cutR (((startU b l free4 k).getD (((b.macs.getD (((l.getD k (0, 0)).1).toNat) mac0).scale).toNat) (0, 0)).1, ((startU b l free4 k).getD (((b.macs.getD (((l.getD k (0, 0)).1).toNat) mac0).scale).toNat) (0, 0)).2) (((l.getD k (0, 0)).2) - ((biasF (b.macs.getD (((l.getD k (0, 0)).1).toNat) mac0)).2), ((l.getD k (0, 0)).2) - ((biasF (b.macs.getD (((l.getD k (0, 0)).1).toNat) mac0)).1))).1, (cutR (((startU b l free4 k).getD (((b.macs.getD (((l.getD k (0, 0)).1).toNat) mac0).scale).toNat) (0, 0)).1, ((startU b l free4 k).getD (((b.macs.getD (((l.getD k (0, 0)).1).toNat) mac0).scale).toNat) (0, 0)).2) (((l.getD k (0, 0)).2) - ((biasF (b.macs.getD (((l.getD k (0, 0)).1).toNat) mac0)).2), ((l.getD k (0, 0)).2) - ((biasF (b.macs.getD (((l.getD k (0, 0)).1).toNat) mac0)).1))).2)).getD (((b.macs.getD (((l.getD k (0, 0)).1).toNat) mac0).scale).toNat) (0, 0)).2) < ((((startU b l free4 k).set (((b.macs.getD (((l.getD k (0, 0)).1).toNat) mac0).scale).toNat) ((cutR (((startU b l free4 k).getD (((b.macs.getD (((l.getD k (0, 0)).1).toNat) mac0).scale).toNat) (0, 0)).1, ((startU b l free4 k).getD (((b.macs.getD (((l.getD k (0, 0)).1).toNat) mac0).scale).toNat) (0, 0)).2) (((l.getD k (0, 0)).2) - ((biasF (b.macs.getD (((l.getD k (0, 0)).1).toNat) mac0)).2), ((l.getD k (0, 0)).2) - ((biasF (b.macs.getD (((l.getD k (0, 0)).1).toNat) mac0)).1))).1, (cutR (((startU b l free4 k).getD (((b.macs.getD (((l.getD k (0, 0)).1).toNat) mac0).scale).toNat) (0, 0)).1, ((startU b l free4 k).getD (((b.macs.getD (((l.getD k (0, 0)).1).toNat) mac0).scale).toNat) (0, 0)).2) (((l.getD k (0, 0)).2) - ((biasF (b.macs.getD (((l.getD k (0, 0)).1).toNat) mac0)).2), ((l.getD k (0, 0)).2) - ((biasF (b.macs.getD (((l.getD k (0, 0)).1).toNat) mac0)).1))).2)).getD (((b.macs.getD (((l.getD k (0, 0)).1).toNat) mac0).scale).toNat) (0, 0)).1)
   ·skip
    rw [decide_eq_true hb123] at hA119
    refine c_true hA119 rfl ?_
    refine c_seq ?_
    have hA124 := hA119.as [(4, (bptr b4 0))] rfl; clear hA119
    refine c_region ?_
    refine s1 hA124 (op_loadA rfl ty_120 (hA124.ev rfl) (hS122.bk 3 rfl) (l := (pairs ((startU b l free4 k).set (((b.macs.getD (((l.getD k (0, 0)).1).toNat) mac0).scale).toNat) ((cutR (((startU b l free4 k).getD (((b.macs.getD (((l.getD k (0, 0)).1).toNat) mac0).scale).toNat) (0, 0)).1, ((startU b l free4 k).getD (((b.macs.getD (((l.getD k (0, 0)).1).toNat) mac0).scale).toNat) (0, 0)).2) (((l.getD k (0, 0)).2) - ((biasF (b.macs.getD (((l.getD k (0, 0)).1).toNat) mac0)).2), ((l.getD k (0, 0)).2) - ((biasF (b.macs.getD (((l.getD k (0, 0)).1).toNat) mac0)).1))).1, (cutR (((startU b l free4 k).getD (((b.macs.getD (((l.getD k (0, 0)).1).toNat) mac0).scale).toNat) (0, 0)).1, ((startU b l free4 k).getD (((b.macs.getD (((l.getD k (0, 0)).1).toNat) mac0).scale).toNat) (0, 0)).2) (((l.getD k (0, 0)).2) - ((biasF (b.macs.getD (((l.getD k (0, 0)).1).toNat) mac0)).2), ((l.getD k (0, 0)).2) - ((biasF (b.macs.getD (((l.getD k (0, 0)).1).toNat) mac0)).1))).2)))) (drop_take_all _ _ (show (pairs ((startU b l free4 k).set (((b.macs.getD (((l.getD k (0, 0)).1).toNat) mac0).scale).toNat) ((cutR (((startU b l free4 k).getD (((b.macs.getD (((l.getD k (0, 0)).1).toNat) mac0).scale).toNat) (0, 0)).1, ((startU b l free4 k).getD (((b.macs.getD (((l.getD k (0, 0)).1).toNat) mac0).scale).toNat) (0, 0)).2) (((l.getD k (0, 0)).2) - ((biasF (b.macs.getD (((l.getD k (0, 0)).1).toNat) mac0)).2), ((l.getD k (0, 0)).2) - ((biasF (b.macs.getD (((l.getD k (0, 0)).1).toNat) mac0)).1))).1, (cutR (((startU b l free4 k).getD (((b.macs.getD (((l.getD k (0, 0)).1).toNat) mac0).scale).toNat) (0, 0)).1, ((startU b l free4 k).getD (((b.macs.getD (((l.getD k (0, 0)).1).toNat) mac0).scale).toNat) (0, 0)).2) (((l.getD k (0, 0)).2) - ((biasF (b.macs.getD (((l.getD k (0, 0)).1).toNat) mac0)).2), ((l.getD k (0, 0)).2) - ((biasF (b.macs.getD (((l.getD k (0, 0)).1).toNat) mac0)).1))).2))).length = 8 from by simp only [pairs_length, List.length_set]; omega)) (show (pairs ((startU b l free4 k).set (((b.macs.getD (((l.getD k (0, 0)).1).toNat) mac0).scale).toNat) ((cutR (((startU b l free4 k).getD (((b.macs.getD (((l.getD k (0, 0)).1).toNat) mac0).scale).toNat) (0, 0)).1, ((startU b l free4 k).getD (((b.macs.getD (((l.getD k (0, 0)).1).toNat) mac0).scale).toNat) (0, 0)).2) (((l.getD k (0, 0)).2) - ((biasF (b.macs.getD (((l.getD k (0, 0)).1).toNat) mac0)).2), ((l.getD k (0, 0)).2) - ((biasF (b.macs.getD (((l.getD k (0, 0)).1).toNat) mac0)).1))).1, (cutR (((startU b l free4 k).getD (((b.macs.getD (((l.getD k (0, 0)).1).toNat) mac0).scale).toNat) (0, 0)).1, ((startU b l free4 k).getD (((b.macs.getD (((l.getD k (0, 0)).1).toNat) mac0).scale).toNat) (0, 0)).2) (((l.getD k (0, 0)).2) - ((biasF (b.macs.getD (((l.getD k (0, 0)).1).toNat) mac0)).2), ((l.getD k (0, 0)).2) - ((biasF (b.macs.getD (((l.getD k (0, 0)).1).toNat) mac0)).1))).2))).length = 8 from by simp only [pairs_length, List.length_set]; omega)) fun a125 hA126 => ?_; clear hA124 a118
    refine s7 hA126 (op_store hS122 rfl ty_120 (hA126.ev rfl) (hA126.ev rfl) (i := 3) rfl (vs := (pairs ((startU b l free4 k).set (((b.macs.getD (((l.getD k (0, 0)).1).toNat) mac0).scale).toNat) ((cutR (((startU b l free4 k).getD (((b.macs.getD (((l.getD k (0, 0)).1).toNat) mac0).scale).toNat) (0, 0)).1, ((startU b l free4 k).getD (((b.macs.getD (((l.getD k (0, 0)).1).toNat) mac0).scale).toNat) (0, 0)).2) (((l.getD k (0, 0)).2) - ((biasF (b.macs.getD (((l.getD k (0, 0)).1).toNat) mac0)).2), ((l.getD k (0, 0)).2) - ((biasF (b.macs.getD (((l.getD k (0, 0)).1).toNat) mac0)).1))).1, (cutR (((startU b l free4 k).getD (((b.macs.getD (((l.getD k (0, 0)).1).toNat) mac0).scale).toNat) (0, 0)).1, ((startU b l free4 k).getD (((b.macs.getD (((l.getD k (0, 0)).1).toNat) mac0).scale).toNat) (0, 0)).2) (((l.getD k (0, 0)).2) - ((biasF (b.macs.getD (((l.getD k (0, 0)).1).toNat) mac0)).2), ((l.getD k (0, 0)).2) - ((biasF (b.macs.getD (((l.getD k (0, 0)).1).toNat) mac0)).1))).2)))) rfl (show (pairs ((startU b l free4 k).set (((b.macs.getD (((l.getD k (0, 0)).1).toNat) mac0).scale).toNat) ((cutR (((startU b l free4 k).getD (((b.macs.getD (((l.getD k (0, 0)).1).toNat) mac0).scale).toNat) (0, 0)).1, ((startU b l free4 k).getD (((b.macs.getD (((l.getD k (0, 0)).1).toNat) mac0).scale).toNat) (0, 0)).2) (((l.getD k (0, 0)).2) - ((biasF (b.macs.getD (((l.getD k (0, 0)).1).toNat) mac0)).2), ((l.getD k (0, 0)).2) - ((biasF (b.macs.getD (((l.getD k (0, 0)).1).toNat) mac0)).1))).1, (cutR (((startU b l free4 k).getD (((b.macs.getD (((l.getD k (0, 0)).1).toNat) mac0).scale).toNat) (0, 0)).1, ((startU b l free4 k).getD (((b.macs.getD (((l.getD k (0, 0)).1).toNat) mac0).scale).toNat) (0, 0)).2) (((l.getD k (0, 0)).2) - ((biasF (b.macs.getD (((l.getD k (0, 0)).1).toNat) mac0)).2), ((l.getD k (0, 0)).2) - ((biasF (b.macs.getD (((l.getD k (0, 0)).1).toNat) mac0)).1))).2))).length = 8 from by simp only [pairs_length, List.length_set]; omega) (pairs_one _) (by simp only [pairs_length, List.length_set, List.length_cons, List.length_nil]; omega)) ?_
    intro _ w127 hS128 hA130; have hS129 := hS128.blk_say (i := 3) rfl (cs' := (pairs ((startU b l free4 k).set (((b.macs.getD (((l.getD k (0, 0)).1).toNat) mac0).scale).toNat) ((cutR (((startU b l free4 k).getD (((b.macs.getD (((l.getD k (0, 0)).1).toNat) mac0).scale).toNat) (0, 0)).1, ((startU b l free4 k).getD (((b.macs.getD (((l.getD k (0, 0)).1).toNat) mac0).scale).toNat) (0, 0)).2) (((l.getD k (0, 0)).2) - ((biasF (b.macs.getD (((l.getD k (0, 0)).1).toNat) mac0)).2), ((l.getD k (0, 0)).2) - ((biasF (b.macs.getD (((l.getD k (0, 0)).1).toNat) mac0)).1))).1, (cutR (((startU b l free4 k).getD (((b.macs.getD (((l.getD k (0, 0)).1).toNat) mac0).scale).toNat) (0, 0)).1, ((startU b l free4 k).getD (((b.macs.getD (((l.getD k (0, 0)).1).toNat) mac0).scale).toNat) (0, 0)).2) (((l.getD k (0, 0)).2) - ((biasF (b.macs.getD (((l.getD k (0, 0)).1).toNat) mac0)).2), ((l.getD k (0, 0)).2) - ((biasF (b.macs.getD (((l.getD k (0, 0)).1).toNat) mac0)).1))).2)))) (setFrom_all _ _ (by first | (simp only [pairs_length, List.length_set, List.length_cons, List.length_nil]; done) | (simp only [pairs_length, List.length_set, List.length_cons, List.length_nil]; omega))); clear hS128 hA126 hS122
    refine s1 hA130 (op_assign rfl (evc _ _)) fun a131 hA132 => ?_; clear hA130 a125
    refine n1 ?_
    refine c_ret ?_
    refine blk_ret ?_
    refine then_ret ?_
    refine then_ret ?_
    refine blk_ret ?_
    refine then_ret ?_
    refine fin_run hA132 (.inl rfl) (run_results2 hA132 rfl (.cellA rfl ty_120 (hS129.bk 3 rfl) (l := (pairs ((startU b l free4 k).set (((b.macs.getD (((l.getD k (0, 0)).1).toNat) mac0).scale).toNat) ((cutR (((startU b l free4 k).getD (((b.macs.getD (((l.getD k (0, 0)).1).toNat) mac0).scale).toNat) (0, 0)).1, ((startU b l free4 k).getD (((b.macs.getD (((l.getD k (0, 0)).1).toNat) mac0).scale).toNat) (0, 0)).2) (((l.getD k (0, 0)).2) - ((biasF (b.macs.getD (((l.getD k (0, 0)).1).toNat) mac0)).2), ((l.getD k (0, 0)).2) - ((biasF (b.macs.getD (((l.getD k (0, 0)).1).toNat) mac0)).1))).1, (cutR (((startU b l free4 k).getD (((b.macs.getD (((l.getD k (0, 0)).1).toNat) mac0).scale).toNat) (0, 0)).1, ((startU b l free4 k).getD (((b.macs.getD (((l.getD k (0, 0)).1).toNat) mac0).scale).toNat) (0, 0)).2) (((l.getD k (0, 0)).2) - ((biasF (b.macs.getD (((l.getD k (0, 0)).1).toNat) mac0)).2), ((l.getD k (0, 0)).2) - ((biasF (b.macs.getD (((l.getD k (0, 0)).1).toNat) mac0)).1))).2)))) (drop_take_all _ _ (show (pairs ((startU b l free4 k).set (((b.macs.getD (((l.getD k (0, 0)).1).toNat) mac0).scale).toNat) ((cutR (((startU b l free4 k).getD (((b.macs.getD (((l.getD k (0, 0)).1).toNat) mac0).scale).toNat) (0, 0)).1, ((startU b l free4 k).getD (((b.macs.getD (((l.getD k (0, 0)).1).toNat) mac0).scale).toNat) (0, 0)).2) (((l.getD k (0, 0)).2) - ((biasF (b.macs.getD (((l.getD k (0, 0)).1).toNat) mac0)).2), ((l.getD k (0, 0)).2) - ((biasF (b.macs.getD (((l.getD k (0, 0)).1).toNat) mac0)).1))).1, (cutR (((startU b l free4 k).getD (((b.macs.getD (((l.getD k (0, 0)).1).toNat) mac0).scale).toNat) (0, 0)).1, ((startU b l free4 k).getD (((b.macs.getD (((l.getD k (0, 0)).1).toNat) mac0).scale).toNat) (0, 0)).2) (((l.getD k (0, 0)).2) - ((biasF (b.macs.getD (((l.getD k (0, 0)).1).toNat) mac0)).2), ((l.getD k (0, 0)).2) - ((biasF (b.macs.getD (((l.getD k (0, 0)).1).toNat) mac0)).1))).2))).length = 8 from by simp only [pairs_length, List.length_set]; omega)) (show (pairs ((startU b l free4 k).set (((b.macs.getD (((l.getD k (0, 0)).1).toNat) mac0).scale).toNat) ((cutR (((startU b l free4 k).getD (((b.macs.getD (((l.getD k (0, 0)).1).toNat) mac0).scale).toNat) (0, 0)).1, ((startU b l free4 k).getD (((b.macs.getD (((l.getD k (0, 0)).1).toNat) mac0).scale).toNat) (0, 0)).2) (((l.getD k (0, 0)).2) - ((biasF (b.macs.getD (((l.getD k (0, 0)).1).toNat) mac0)).2), ((l.getD k (0, 0)).2) - ((biasF (b.macs.getD (((l.getD k (0, 0)).1).toNat) mac0)).1))).1, (cutR (((startU b l free4 k).getD (((b.macs.getD (((l.getD k (0, 0)).1).toNat) mac0).scale).toNat) (0, 0)).1, ((startU b l free4 k).getD (((b.macs.getD (((l.getD k (0, 0)).1).toNat) mac0).scale).toNat) (0, 0)).2) (((l.getD k (0, 0)).2) - ((biasF (b.macs.getD (((l.getD k (0, 0)).1).toNat) mac0)).2), ((l.getD k (0, 0)).2) - ((biasF (b.macs.getD (((l.getD k (0, 0)).1).toNat) mac0)).1))).2))).length = 8 from by simp only [pairs_length, List.length_set]; omega)) (.tmp rfl)) ?_
    have hz := start_empty hb hl (k := k) (by omega) (by assumption)
    exact ⟨_, hsl1, by rw [hz]; rfl, fun t h_ => by rw [hz] at h_; (cases h_), hS129.ext⟩
   ·skip
    rw [decide_eq_false hb123] at hA119
    refine c_false hA119 rfl ?_
    refine c_skip ?_
    refine blk_n ?_
    refine then_n ?_
    have hA133 := hA119.as [(22, (Value.int .i64 (k : Int))), (21, (Value.int .i64 (l.length : Int))), (20, xl), (4, (bptr b4 0)), (0, (bptr bx 0))] rfl; clear hA119
    refine c_region ?_
    refine s1 hA133 (op_add rfl (hA133.ev rfl) (evc _ _) (by omega) (by omega)) fun a134 hA135 => ?_; clear hA133 a118
    refine s1 hA135 (op_move rfl (hA135.ev rfl)) fun a136 hA137 => ?_; clear hA135 a134
    refine wl_nil ?_
    have hS138 : Sep NoB w w120 [(blk b4 120 (pairs ((startU b l free4 k).set (((b.macs.getD (((l.getD k (0, 0)).1).toNat) mac0).scale).toNat) ((cutR (((startU b l free4 k).getD (((b.macs.getD (((l.getD k (0, 0)).1).toNat) mac0).scale).toNat) (0, 0)).1, ((startU b l free4 k).getD (((b.macs.getD (((l.getD k (0, 0)).1).toNat) mac0).scale).toNat) (0, 0)).2) (((l.getD k (0, 0)).2) - ((biasF (b.macs.getD (((l.getD k (0, 0)).1).toNat) mac0)).2), ((l.getD k (0, 0)).2) - ((biasF (b.macs.getD (((l.getD k (0, 0)).1).toNat) mac0)).1))).1, (cutR (((startU b l free4 k).getD (((b.macs.getD (((l.getD k (0, 0)).1).toNat) mac0).scale).toNat) (0, 0)).1, ((startU b l free4 k).getD (((b.macs.getD (((l.getD k (0, 0)).1).toNat) mac0).scale).toNat) (0, 0)).2) (((l.getD k (0, 0)).2) - ((biasF (b.macs.getD (((l.getD k (0, 0)).1).toNat) mac0)).2), ((l.getD k (0, 0)).2) - ((biasF (b.macs.getD (((l.getD k (0, 0)).1).toNat) mac0)).1))).2)))), (rob bx 146 [(Value.int .i64 b.scales), vt, vm, (Value.map (some bm))]), (mapX false bm es ck es.size 106 5 (bN b.tabs b.tabs.length) (bC lr lb b.tabs b.tabs.length)), (tabsR false vt lr lb b.tabs), (macsR false vm lk b.macs), (sl xl 2 l.length (pairs l))] := hS122.keep [3, 4, 5, 6, 7, 8] (by decide) _ rfl rfl; clear hS122
    exact then_n ⟨k + 1, ⟨hA137.as _ rfl, hS138, by omega, (start_next hb hl (by omega) hfu (by assumption))⟩, by omega⟩
  ·skip
   rw [decide_eq_false hb50] at hA49
   refine c_false hA49 rfl ?_
   refine c_exit ?_
   refine then_exit ?_
   refine then_exit ?_
   refine blk_hit ?_
   refine then_n ?_
   refine c_block ?_
   have hA139 := hA49.as [(4, (bptr b4 0)), (0, (bptr bx 0))] rfl; clear hA49
   refine c_loop (G := Nat) (fun (g : Nat) a_ w_ => ∃ x_ : List (Int × Int), Fr 79 [] [(4, (bptr b4 0)), (0, (bptr bx 0))] a_ ∧ Sep NoB w w_ [(blk b4 120 (pairs x_)), (rob bx 146 [(Value.int .i64 b.scales), vt, vm, (Value.map (some bm))]), (mapX false bm es ck es.size 106 5 (bN b.tabs b.tabs.length) (bC lr lb b.tabs b.tabs.length)), (tabsR false vt lr lb b.tabs), (macsR false vm lk b.macs), (sl xl 2 l.length (pairs l))] ∧ (Go.Hard.Loop b.scales.toNat b.tabs (startF b l) x_) ∧ (spansF b l = spansK b.scales.toNat (orderF b.scales.toNat b.tabs) g x_) ∧ (width x_ < g)) (fun g => g) 400001 ⟨(startU b l free4 k), hA139.as _ rfl, hS47, (by have hkl : k = l.length := (by omega); subst hkl; exact loop_start hb hl hfu), (by have hkl : k = l.length := (by omega); subst hkl; exact spans_go hfu), (by have hkl : k = l.length := (by omega); subst hkl; exact Nat.lt_succ_of_le (start_width hb hl))⟩ ?_
   clear hA139 hS47 a48
   rintro g a140 w142 ⟨x_, hA141, hS143, hlp, hsp, hwd⟩
   have hx4 : x_.length = 4 := hlp.len; have hp4 : (passF (orderF b.scales.toNat b.tabs) x_).1.length = 4 := (hlp.pass hb.four hb.orderV).1
   refine c_block ?_
   refine m2 ?_
   refine s1 hA141 (op_move rfl (hA141.ev rfl)) fun a144 hA145 => ?_; clear hA141 a140
   refine s1 hA145 (op_loadA rfl ty_120 (hA145.ev rfl) (hS143.bk 0 rfl) (l := (pairs x_)) (drop_take_all _ _ (show (pairs x_).length = 8 from by simp only [pairs_length, List.length_set]; omega)) (show (pairs x_).length = 8 from by simp only [pairs_length, List.length_set]; omega)) fun a146 hA147 => ?_; clear hA145 a144
   refine s2 hA147 (op_call rfl en_88 (ev2 (hA147.ev rfl) (hA147.ev rfl)) (cutb_ok b vt vm lr lb lk _ (tabs_at (hS143.ok 3 _ rfl)) (macs_at (hS143.ok 4 _ rfl)) hth bx bm _ _ hMO (hS143.rk 1 rfl) (hS143.ok 2 _ rfl) hb x_ (by omega))) ?_
   rintro a148 _ w150 ⟨rfl, hE151⟩ hA149; have hS152 := hS143.step hE151; clear hE151 hA147 hS143 a146
   refine s1 hA149 (op_move rfl (hA149.ev rfl)) fun a153 hA154 => ?_; clear hA149 a148
   refine s1 hA154 (op_extract rfl (hA154.ev rfl) rfl) fun a155 hA156 => ?_; clear hA154 a153
   refine s1 hA156 (op_extract rfl (hA156.ev rfl) rfl) fun a157 hA158 => ?_; clear hA156 a155
   refine s2 hA158 (op_alloc hS152 rfl ze_120 (cs := [(Value.int .i64 0), (Value.int .i64 0), (Value.int .i64 0), (Value.int .i64 0), (Value.int .i64 0), (Value.int .i64 0), (Value.int .i64 0), (Value.int .i64 0)]) rfl) ?_
   rintro a159 _ w161 ⟨b162, rfl, hS163⟩ hA160; clear hA158 hS152 a157
   refine s7 hA160 (op_store hS163 rfl ty_120 (hA160.ev rfl) (hA160.ev rfl) (i := 0) rfl (vs := (pairs ((passF (orderF b.scales.toNat b.tabs) x_).1))) rfl (show (pairs ((passF (orderF b.scales.toNat b.tabs) x_).1)).length = 8 from by simp only [pairs_length, List.length_set]; omega) (pairs_one _) (by decide)) ?_
   intro _ w164 hS165 hA167; have hS166 := hS165.blk_say (i := 0) rfl (cs' := (pairs ((passF (orderF b.scales.toNat b.tabs) x_).1))) (setFrom_all _ _ (Eq.symm (show (pairs ((passF (orderF b.scales.toNat b.tabs) x_).1)).length = 8 from by simp only [pairs_length, List.length_set]; omega))); clear hS165 hA160 hS163
   refine s1 hA167 (op_assign rfl (hA167.ev rfl)) fun a168 hA169 => ?_; clear hA167 a159
   refine n2 ?_
   refine c_seq ?_
   have hA170 := hA169.as [(12, (Value.bool (fullB b.scales.toNat (passF (orderF b.scales.toNat b.tabs) x_).1))), (11, (bptr b162 0)), (4, (bptr b4 0)), (0, (bptr bx 0))] rfl; clear hA169
   refine c_region ?_
   refine s1 hA170 (op_move rfl (hA170.ev rfl)) fun a171 hA172 => ?_; clear hA170 a168
   refine s1 hA172 (op_not rfl (hA172.ev rfl)) fun a173 hA174 => ?_; clear hA172 a171
   refine s1 hA174 (op_move rfl (hA174.ev rfl)) fun a175 hA176 => ?_; clear hA174 a173
   rcases Bool.eq_false_or_eq_true ((fullB b.scales.toNat (passF (orderF b.scales.toNat b.tabs) x_).1)) with hb177 | hb177
   ·skip
    rw [hb177] at hA176
    refine s5 hA176 (op_loadA rfl ty_120 (hA176.ev rfl) (hS166.bk 0 rfl) (l := (pairs ((passF (orderF b.scales.toNat b.tabs) x_).1))) (drop_take_all _ _ (show (pairs ((passF (orderF b.scales.toNat b.tabs) x_).1)).length = 8 from by simp only [pairs_length, List.length_set]; omega)) (show (pairs ((passF (orderF b.scales.toNat b.tabs) x_).1)).length = 8 from by simp only [pairs_length, List.length_set]; omega)) fun a178 hA179 => ?_; clear hA176 a175
    refine s5 hA179 (op_loadA rfl ty_120 (hA179.ev rfl) (hS166.bk 1 rfl) (l := (pairs x_)) (drop_take_all _ _ (show (pairs x_).length = 8 from by simp only [pairs_length, List.length_set]; omega)) (show (pairs x_).length = 8 from by simp only [pairs_length, List.length_set]; omega)) fun a180 hA181 => ?_; clear hA179 a178
    refine s5 hA181 (op_eqlAP ar_120 tw_30 ty_30 gt_120 rfl (hA181.ev rfl) (hA181.ev rfl) (by omega) (by omega)) fun a182 hA183 => ?_; clear hA181 a180
    refine s1 hA183 (op_pick_f rfl (hA183.ev rfl) (hA183.ev rfl)) fun a184 hA185 => ?_; clear hA183 a182
    refine n1 ?_
    by_cases hb186 : (passF (orderF b.scales.toNat b.tabs) x_).1 = x_
    ·skip
     rw [decide_eq_true hb186] at hA185
     refine c_true hA185 rfl ?_
     refine c_seq ?_
     have hA187 := hA185.as [(12, (Value.bool true)), (11, (bptr b162 0)), (4, (bptr b4 0))] rfl; clear hA185
     refine c_region ?_
     refine s1 hA187 (op_loadA rfl ty_120 (hA187.ev rfl) (hS166.bk 0 rfl) (l := (pairs ((passF (orderF b.scales.toNat b.tabs) x_).1))) (drop_take_all _ _ (show (pairs ((passF (orderF b.scales.toNat b.tabs) x_).1)).length = 8 from by simp only [pairs_length, List.length_set]; omega)) (show (pairs ((passF (orderF b.scales.toNat b.tabs) x_).1)).length = 8 from by simp only [pairs_length, List.length_set]; omega)) fun a188 hA189 => ?_; clear hA187 a184
     refine s1 hA189 (op_move rfl (hA189.ev rfl)) fun a190 hA191 => ?_; clear hA189 a188
     refine s7 hA191 (op_store hS166 rfl ty_120 (hA191.ev rfl) (hA191.ev rfl) (i := 1) rfl (vs := (pairs ((passF (orderF b.scales.toNat b.tabs) x_).1))) rfl (show (pairs ((passF (orderF b.scales.toNat b.tabs) x_).1)).length = 8 from by simp only [pairs_length, List.length_set]; omega) (pairs_one _) (by simp only [pairs_length, List.length_set, List.length_cons, List.length_nil]; omega)) ?_
     intro _ w192 hS193 hA195; have hS194 := hS193.blk_say (i := 1) rfl (cs' := (pairs ((passF (orderF b.scales.toNat b.tabs) x_).1))) (setFrom_all _ _ (by first | (simp only [pairs_length, List.length_set, List.length_cons, List.length_nil]; done) | (simp only [pairs_length, List.length_set, List.length_cons, List.length_nil]; omega))); clear hS193 hA191 hS166
     refine s1 hA195 (op_assign rfl (hA195.ev rfl)) fun a196 hA197 => ?_; clear hA195 a190
     refine n1 ?_
     refine c_ret ?_
     refine then_ret ?_
     refine blk_ret ?_
     refine then_ret ?_
     refine blk_ret ?_
     refine fin_run hA197 (.inl rfl) (run_results2 hA197 rfl (.cellA rfl ty_120 (hS194.bk 1 rfl) (l := (pairs ((passF (orderF b.scales.toNat b.tabs) x_).1))) (drop_take_all _ _ (show (pairs ((passF (orderF b.scales.toNat b.tabs) x_).1)).length = 8 from by simp only [pairs_length, List.length_set]; omega)) (show (pairs ((passF (orderF b.scales.toNat b.tabs) x_).1)).length = 8 from by simp only [pairs_length, List.length_set]; omega)) (.tmp rfl)) ?_
     have hz := hsp.trans (k_done (by omega) (by assumption) (by assumption))
     exact ⟨_, hp4, by rw [hz]; rfl, fun t h_ => by rw [hz] at h_; rw [← Option.some.inj h_]; congr 1, hS194.ext⟩
    ·skip
     rw [decide_eq_false hb186] at hA185
     refine c_false hA185 rfl ?_
     refine c_skip ?_
     refine then_n ?_
     have hA198 := hA185.as [(11, (bptr b162 0)), (4, (bptr b4 0)), (0, (bptr bx 0))] rfl; clear hA185
     refine c_region ?_
     refine s1 hA198 (op_loadA rfl ty_120 (hA198.ev rfl) (hS166.bk 0 rfl) (l := (pairs ((passF (orderF b.scales.toNat b.tabs) x_).1))) (drop_take_all _ _ (show (pairs ((passF (orderF b.scales.toNat b.tabs) x_).1)).length = 8 from by simp only [pairs_length, List.length_set]; omega)) (show (pairs ((passF (orderF b.scales.toNat b.tabs) x_).1)).length = 8 from by simp only [pairs_length, List.length_set]; omega)) fun a199 hA200 => ?_; clear hA198 a184
     refine s7 hA200 (op_store hS166 rfl ty_120 (hA200.ev rfl) (hA200.ev rfl) (i := 1) rfl (vs := (pairs ((passF (orderF b.scales.toNat b.tabs) x_).1))) rfl (show (pairs ((passF (orderF b.scales.toNat b.tabs) x_).1)).length = 8 from by simp only [pairs_length, List.length_set]; omega) (pairs_one _) (by simp only [pairs_length, List.length_set, List.length_cons, List.length_nil]; omega)) ?_
     intro _ w201 hS202 hA204; have hS203 := hS202.blk_say (i := 1) rfl (cs' := (pairs ((passF (orderF b.scales.toNat b.tabs) x_).1))) (setFrom_all _ _ (by first | (simp only [pairs_length, List.length_set, List.length_cons, List.length_nil]; done) | (simp only [pairs_length, List.length_set, List.length_cons, List.length_nil]; omega))); clear hS202 hA200 hS166
     refine wl_nil ?_
     refine blk_n ?_
     have hS205 : Sep NoB w w201 [(blk b4 120 (pairs ((passF (orderF b.scales.toNat b.tabs) x_).1))), (rob bx 146 [(Value.int .i64 b.scales), vt, vm, (Value.map (some bm))]), (mapX false bm es ck es.size 106 5 (bN b.tabs b.tabs.length) (bC lr lb b.tabs b.tabs.length)), (tabsR false vt lr lb b.tabs), (macsR false vm lk b.macs), (sl xl 2 l.length (pairs l))] := hS203.keep [1, 2, 3, 4, 5, 6] (by decide) _ rfl rfl; clear hS203
     exact then_n ⟨(g - 1), ⟨(passF (orderF b.scales.toNat b.tabs) x_).1, hA204.as _ rfl, hS205, (hlp.next hb.four hb.orderV (full_iff.1 (by assumption)) (by assumption)).1, (hsp.trans (k_next (by omega) (by assumption) (by assumption))), (by have := (hlp.next hb.four hb.orderV (full_iff.1 (by assumption)) (by assumption)).2; omega)⟩, by omega⟩
   ·skip
    rw [hb177] at hA176
    refine s3 hA176 fun a206 hA207 => ?_; clear hA176 a175
    refine s3 hA207 fun a208 hA209 => ?_; clear hA207 a206
    refine s3 hA209 fun a210 hA211 => ?_; clear hA209 a208
    refine s1 hA211 (op_pick_t rfl (hA211.ev rfl) (evc _ _)) fun a212 hA213 => ?_; clear hA211 a210
    refine n1 ?_
    refine c_true hA213 rfl ?_
    refine c_seq ?_
    have hA214 := hA213.as [(12, (Value.bool false)), (11, (bptr b162 0)), (4, (bptr b4 0))] rfl; clear hA213
    refine c_region ?_
    refine s1 hA214 (op_loadA rfl ty_120 (hA214.ev rfl) (hS166.bk 0 rfl) (l := (pairs ((passF (orderF b.scales.toNat b.tabs) x_).1))) (drop_take_all _ _ (show (pairs ((passF (orderF b.scales.toNat b.tabs) x_).1)).length = 8 from by simp only [pairs_length, List.length_set]; omega)) (show (pairs ((passF (orderF b.scales.toNat b.tabs) x_).1)).length = 8 from by simp only [pairs_length, List.length_set]; omega)) fun a215 hA216 => ?_; clear hA214 a212
    refine s1 hA216 (op_move rfl (hA216.ev rfl)) fun a217 hA218 => ?_; clear hA216 a215
    refine s7 hA218 (op_store hS166 rfl ty_120 (hA218.ev rfl) (hA218.ev rfl) (i := 1) rfl (vs := (pairs ((passF (orderF b.scales.toNat b.tabs) x_).1))) rfl (show (pairs ((passF (orderF b.scales.toNat b.tabs) x_).1)).length = 8 from by simp only [pairs_length, List.length_set]; omega) (pairs_one _) (by simp only [pairs_length, List.length_set, List.length_cons, List.length_nil]; omega)) ?_
    intro _ w219 hS220 hA222; have hS221 := hS220.blk_say (i := 1) rfl (cs' := (pairs ((passF (orderF b.scales.toNat b.tabs) x_).1))) (setFrom_all _ _ (by first | (simp only [pairs_length, List.length_set, List.length_cons, List.length_nil]; done) | (simp only [pairs_length, List.length_set, List.length_cons, List.length_nil]; omega))); clear hS220 hA218 hS166
    refine s1 hA222 (op_assign rfl (hA222.ev rfl)) fun a223 hA224 => ?_; clear hA222 a217
    refine n1 ?_
    refine c_ret ?_
    refine then_ret ?_
    refine blk_ret ?_
    refine then_ret ?_
    refine blk_ret ?_
    refine fin_run hA224 (.inl rfl) (run_results2 hA224 rfl (.cellA rfl ty_120 (hS221.bk 1 rfl) (l := (pairs ((passF (orderF b.scales.toNat b.tabs) x_).1))) (drop_take_all _ _ (show (pairs ((passF (orderF b.scales.toNat b.tabs) x_).1)).length = 8 from by simp only [pairs_length, List.length_set]; omega)) (show (pairs ((passF (orderF b.scales.toNat b.tabs) x_).1)).length = 8 from by simp only [pairs_length, List.length_set]; omega)) (.tmp rfl)) ?_
    have hz := hsp.trans (k_fail (by assumption))
    exact ⟨_, hp4, by rw [hz]; rfl, fun t h_ => by rw [hz] at h_; (cases h_), hS221.ext⟩
end Go.Proofs.Ytohgladndklciaa

namespace Go.Proofs.Ytohgladndklciaa
open Go.RowKit Go.Shelf Go.Eng Go.Hard
theorem bs_30_0_  : Instr.fill (fun i => some (i * 2, 2)) ((Array.range (0 * 2)).map ((Value.agg #[(Value.int .i64 0), (Value.int .i64 0)]).cells[· % (Value.agg #[(Value.int .i64 0), (Value.int .i64 0)]).cells.size]!)) [] = some (([] : List Value).toArray) := by kernel_rfl
theorem el_30 : elK Try.prog 30 = some ((Value.agg #[(Value.int .i64 0), (Value.int .i64 0)]), 2, 16) := by kernel_rfl
theorem clone_rng (xs : List (Int × Int)) (v : Value) (w : World) (hv : SlAt w v 2 xs.length (pairs xs)) (hlen : xs.length ≤ 1000000) :
  Calls Try.prog 58 #[v] w (Ret fun v w' => Ext NoB w w' ∧ w'.ownsRow w.heap.size 30 2 v xs.length (pairs xs)) := by
 refine calls_enter Try.func58 rfl fun a0 hA0 => ?_
 replace hA0 : Fr 8 [] [(0, v)] a0 := hA0
 have hS0 : Sep NoB w w [(sl v 2 xs.length (pairs xs))] := sep_ro ⟨rfl, hv, trivial⟩
 refine m2 ?_
 refine s1 hA0 (op_assign rfl (evc _ _)) fun a1 hA2 => ?_; clear hA0 a0
 refine n2 ?_
 refine m2 ?_
 refine s1 hA2 (op_move rfl (hA2.ev rfl)) fun a3 hA4 => ?_; clear hA2 a1
 refine s2 hA4 (op_eqlNil un_50 rfl (hA4.ev rfl) (evc _ _) (hS0.sk 0 rfl) (by decide)) ?_
 rintro a5 _ _ ⟨bn7, rfl, rfl, hn8⟩ hA6; clear hA4 a3
 refine n1 ?_
 rcases Bool.eq_false_or_eq_true (bn7) with hb9 | hb9
 ·skip
  rw [hb9] at hA6
  refine c_true hA6 rfl ?_
  refine m2 ?_
  refine s1 hA6 (op_assign rfl (evc _ _)) fun a10 hA11 => ?_; clear hA6 a5
  refine n1 ?_
  refine c_ret ?_
  refine then_ret ?_
  refine fin_run hA11 (.inl rfl) (run_results1 hA11 rfl (.tmp rfl)) ?_
  exact ⟨hS0.ext, by have hz := (hn8 (by assumption)); rw [hz.1, hz.2]; exact ⟨by simp, .inl ⟨rfl, rfl⟩⟩⟩
 ·skip
  rw [hb9] at hA6
  refine c_false hA6 rfl ?_
  refine c_skip ?_
  refine then_n ?_
  refine m2 ?_
  refine s2 hA6 (op_buildSlice hS0 rfl pv0 un_50 ty_30 ze_30 (by decide) (cs := []) bs_30_0_) ?_
  rintro a12 _ w14 ⟨b15, rfl, hS16⟩ hA13; clear hA6 hS0 a5
  refine s1 hA13 (op_move rfl (hA13.ev rfl)) fun a17 hA18 => ?_; clear hA13 a12
  have hS19 := hS16.blk_row (i := 0) (sz := 2) (n := 0) rfl rfl (by decide); clear hS16
  refine s2 hA18 (op_append hS19 rfl un_50 el_30 (hA18.ev rfl) (hA18.ev rfl) (i := 0) rfl (hS19.sk 1 rfl) (pairs_one _) (by simp [maxLen]; omega) (by omega)) ?_
  intro a20 v23 w22 hS24 hA21
  have hS25 := hS24.row_say (i := 0) rfl (n' := xs.length) (xs' := (pairs xs)) (by simp) (by simp); clear hS24 hA18 hS19 a17
  refine s1 hA21 (op_assign rfl (hA21.ev rfl)) fun a26 hA27 => ?_; clear hA21 a20
  refine n1 ?_
  refine c_ret ?_
  refine fin_run hA27 (.inl rfl) (run_results1 hA27 rfl (.tmp rfl)) ?_
  exact ⟨hS25.ext, hS25.row_new (i := 0) rfl⟩
end Go.Proofs.Ytohgladndklciaa

namespace Go.Proofs.Ytohgladndklciaa
open Go.RowKit Go.Shelf Go.Eng Go.Hard
theorem en_56 : ∀ args w, (callFunc 56 args).run Try.prog w = .ok (.enter 56 args) w := enters_of Try.func56 (by kernel_rfl) rfl
theorem en_57 : ∀ args w, (callFunc 57 args).run Try.prog w = .ok (.enter 57 args) w := enters_of Try.func57 (by kernel_rfl) rfl
theorem en_58 : ∀ args w, (callFunc 58 args).run Try.prog w = .ok (.enter 58 args) w := enters_of Try.func58 (by kernel_rfl) rfl
theorem Spans_ok (b : BookD) (vt vm : Value) (lr lb lk : Nat → Value) (w : World) (hT : TabsAt w vt lr lb b.tabs) (hM : MacsAt w vm lk b.macs) (hth : ThinB b) (l : List (Int × Int)) (xl : Value) (hxl : SlAt w xl 2 l.length (pairs l)) (hlb : l.length ≤ 1000000) (t : Spans) (hr : readF b l = 0) (hs : spansF b l = some t) :
  Calls Try.prog 25 #[(Value.agg #[(Value.int .i64 b.scales), vt, vm]), xl] w (Ret fun v w' => ∃ u, v = .tuple #[u, .int .i64 0] ∧ Sep NoB w w' [row u 30 2 t.length (pairs t)]) := by
 refine calls_enter Try.func25 rfl fun a0 hA0 => ?_
 replace hA0 : Fr 31 [] [(0, (Value.agg #[(Value.int .i64 b.scales), vt, vm])), (1, xl)] a0 := hA0
 have hc : checkF b = 0 := read_check hr; have hbl := read_ok hr; have hb := hbl.1; have hl := hbl.2; have hll := hl.len; have hsc := hb.scales
 have hS0 : Sep NoB w w [(tabsR false vt lr lb b.tabs), (macsR false vm lk b.macs), (sl xl 2 l.length (pairs l))] := sep_ro ⟨rfl, hT, rfl, hM, rfl, hxl, trivial⟩
 refine m2 ?_
 refine s2 hA0 (op_box hS0 rfl (hA0.ev rfl) (cs := [(Value.int .i64 b.scales), vt, vm]) rfl) ?_
 rintro a1 _ w3 ⟨b4, rfl, hS5⟩ hA2; clear hA0 hS0 a0
 refine s1 hA2 (op_assign rfl (evc _ _)) fun a6 hA7 => ?_; clear hA2 a1
 refine s1 hA7 (op_assign rfl (evc _ _)) fun a8 hA9 => ?_; clear hA7 a6
 refine n4 ?_
 refine s1 hA9 (op_loadA rfl ty_37 (hA9.ev rfl) (hS5.bk 0 rfl) (l := [(Value.int .i64 b.scales), vt, vm]) rfl rfl) fun a10 hA11 => ?_; clear hA9 a8
 refine s1 hA11 (op_move rfl (hA11.ev rfl)) fun a12 hA13 => ?_; clear hA11 a10
 refine s2 hA13 (op_call rfl en_56 (ev2 (hA13.ev rfl) (hA13.ev rfl)) (read_yes b vt vm lr lb lk _ (tabs_at (hS5.ok 1 _ rfl)) (macs_at (hS5.ok 2 _ rfl)) hth l _ (hS5.sk 3 rfl) (by omega) hc hr)) ?_
 rintro a14 _ w16 ⟨bx19, bm20, es21, ck22, rfl, hMO23, hT17⟩ hA15; have hS18 := hS5.callS hT17 rfl; clear hT17 hA13 hS5 a12
 refine s1 hA15 (op_move rfl (hA15.ev rfl)) fun a24 hA25 => ?_; clear hA15 a14
 refine s1 hA25 (op_extract rfl (hA25.ev rfl) rfl) fun a26 hA27 => ?_; clear hA25 a24
 refine s1 hA27 (op_extract rfl (hA27.ev rfl) rfl) fun a28 hA29 => ?_; clear hA27 a26
 refine s1 hA29 (op_assign rfl (hA29.ev rfl)) fun a30 hA31 => ?_; clear hA29 a28
 refine s1 hA31 (op_assign rfl (hA31.ev rfl)) fun a32 hA33 => ?_; clear hA31 a30
 refine n2 ?_
 refine c_seq ?_
 have hA34 := hA33.as [(7, (Value.int .i64 0)), (6, (bptr bx19 0)), (2, (bptr b4 0)), (1, xl)] rfl; clear hA33
 refine c_region ?_
 refine s1 hA34 (op_move rfl (hA34.ev rfl)) fun a35 hA36 => ?_; clear hA34 a32
 refine s1 hA36 (op_neq rfl (hA36.ev rfl) (evc _ _)) fun a37 hA38 => ?_; clear hA36 a35
 refine n1 ?_
 refine c_false hA38 rfl ?_
 refine c_skip ?_
 refine then_n ?_
 refine m2 ?_
 refine s1 hA38 (op_move rfl (hA38.ev rfl)) fun a39 hA40 => ?_; clear hA38 a37
 refine s1 hA40 (op_move rfl (hA40.ev rfl)) fun a41 hA42 => ?_; clear hA40 a39
 refine s2 hA42 (op_call rfl en_57 (ev2 (hA42.ev rfl) (hA42.ev rfl)) (spansb_ok b vt vm lr lb lk _ (tabs_at (hS18.ok 3 _ rfl)) (macs_at (hS18.ok 4 _ rfl)) hth bx19 bm20 _ _ (by assumption) (hS18.bk 0 rfl) (mapX_ro (hS18.ok 1 _ rfl)) hb l _ (hS18.sk 5 rfl) hl)) ?_
 rintro a43 _ w45 ⟨x46, hx47, rfl, htk48, hE49⟩ hA44; have hS50 := hS18.step hE49; clear hE49 hA42 hS18 a41
 refine s1 hA44 (op_move rfl (hA44.ev rfl)) fun a51 hA52 => ?_; clear hA44 a43
 refine s1 hA52 (op_extract rfl (hA52.ev rfl) rfl) fun a53 hA54 => ?_; clear hA52 a51
 refine s1 hA54 (op_extract rfl (hA54.ev rfl) rfl) fun a55 hA56 => ?_; clear hA54 a53
 have hd57 : ((spansF b l).isSome) = true := (by rw [hs]; rfl)
 rw [hd57] at hA56
 refine s2 hA56 (op_alloc hS50 rfl ze_120 (cs := [(Value.int .i64 0), (Value.int .i64 0), (Value.int .i64 0), (Value.int .i64 0), (Value.int .i64 0), (Value.int .i64 0), (Value.int .i64 0), (Value.int .i64 0)]) rfl) ?_
 rintro a58 _ w60 ⟨b61, rfl, hS62⟩ hA59; clear hA56 hS50 a55
 refine s7 hA59 (op_store hS62 rfl ty_120 (hA59.ev rfl) (hA59.ev rfl) (i := 0) rfl (vs := (pairs x46)) rfl (show (pairs x46).length = 8 from by simp only [pairs_length, List.length_set]; omega) (pairs_one _) (by decide)) ?_
 intro _ w63 hS64 hA66; have hS65 := hS64.blk_say (i := 0) rfl (cs' := (pairs x46)) (setFrom_all _ _ (Eq.symm (show (pairs x46).length = 8 from by simp only [pairs_length, List.length_set]; omega))); clear hS64 hA59 hS62
 refine s1 hA66 (op_assign rfl (hA66.ev rfl)) fun a67 hA68 => ?_; clear hA66 a58
 refine n2 ?_
 refine c_seq ?_
 have hA69 := hA68.as [(9, (Value.bool true)), (8, (bptr b61 0)), (2, (bptr b4 0))] rfl; clear hA68
 refine c_region ?_
 refine s1 hA69 (op_move rfl (hA69.ev rfl)) fun a70 hA71 => ?_; clear hA69 a67
 refine s1 hA71 (op_not rfl (hA71.ev rfl)) fun a72 hA73 => ?_; clear hA71 a70
 refine n1 ?_
 refine c_false hA73 rfl ?_
 refine c_skip ?_
 refine then_n ?_
 refine m2 ?_
 refine s1 hA73 (op_field rfl fd_37_0 (hA73.ev rfl)) fun a74 hA75 => ?_; clear hA73 a72
 refine s1 hA75 (op_load1 rfl ty_3 (hA75.ev rfl) (hS65.bk 3 rfl) rfl) fun a76 hA77 => ?_; clear hA75 a74
 refine s1 hA77 (op_sliceArr rfl un_120 ty_30 (hA77.ev rfl) (h := b.scales.toNat) ((hA77.ev rfl).trans (int_nat (by omega))) (by omega)) fun a78 hA79 => ?_; clear hA77 a76
 refine s2 hA79 (op_call rfl en_58 (ev1 (hA79.ev rfl)) (clone_rng (x46.take b.scales.toNat) _ _ ((SlAt.of_blkCut (hS65.bk 0 rfl) (by rw [pairs_length]; omega) (by omega) (by decide)).say (by rw [List.length_take]; omega) (pairs_takeH _ _)) (by rw [List.length_take]; omega))) ?_
 rintro a80 v86 w82 ⟨hE83, hO84⟩ hA81; have hS85 := hS65.new_row hE83 hO84; clear hE83 hO84 hA79 hS65 a78
 refine s1 hA81 (op_assign rfl (hA81.ev rfl)) fun a87 hA88 => ?_; clear hA81 a80
 refine s1 hA88 (op_assign rfl (evc _ _)) fun a89 hA90 => ?_; clear hA88 a87
 refine n1 ?_
 refine c_ret ?_
 refine fin_run hA90 (.inl rfl) (run_results2 hA90 rfl (.tmp rfl) (.tmp rfl)) ?_
 have hz := hS85.keep [0] (by decide) [_] rfl rfl
 rw [htk48 _ hs] at hz
 exact ⟨_, rfl, hz⟩
end Go.Proofs.Ytohgladndklciaa

namespace Go.Hard
open Go.RowKit Go.Eng
section
variable {X : Nat → Prop} {w0 w : World} {L : List Res}
theorem sep_sls_nil (h : Sep X w0 w L) (v : Nat → Value) (sz : Nat) (k : Nat → Nat) (c : Nat → List Value) : Sep X w0 w (slsR true 0 v sz k c :: L) :=
  h.push (Ext.refl _ _) (fun i hi => absurd hi (Nat.not_lt_zero _)) (fun b hb => by obtain ⟨i, hi, _⟩ := hb; exact absurd hi (Nat.not_lt_zero _))
theorem sep_sls_snoc {u : Value} {e sz m n : Nat} {xs : List Value} {v : Nat → Value} {k k' : Nat → Nat} {c c' : Nat → List Value} (h : Sep X w0 w (row u e sz m xs :: slsR true n v sz k c :: L)) (hk : k' n = m) (hc : c' n = xs) (hold : ∀ i, i < n → k' i = k i ∧ c' i = c i) :
    Sep X w0 w (slsR true (n + 1) (putV n v u) sz k' c' :: L) := by
  have h0 := h.ok_row 0 rfl
  have h1 := h.ok 1 _ rfl
  refine h.join (t := slsR true (n + 1) (putV n v u) sz k' c') (fun i hi => ?_) (fun b hb => ?_) (fun _ => ⟨rfl, rfl⟩) (fun _ => trivial)
  · rcases Nat.lt_succ_iff_lt_or_eq.1 hi with hi | rfl
    · rw [putV_old _ _ hi, (hold i hi).1, (hold i hi).2]; exact h1 i hi
    · rw [putV_new, hk, hc]; exact SlAt.of_row h0
  · obtain ⟨i, hi, hb⟩ := hb
    rcases Nat.lt_succ_iff_lt_or_eq.1 hi with hi | rfl
    · rw [putV_old _ _ hi, (hold i hi).2] at hb; exact .inr ⟨i, hi, hb⟩
    · rw [putV_new, hc] at hb; exact .inl (slFoot_row hb)
theorem sep_sls_say {i : Nat} {o : Bool} {sz n n' : Nat} {v v' : Nat → Value} {k k' : Nat → Nat} {c c' : Nat → List Value} (h : Sep X w0 w L) (hi : L[i]? = some (slsR o n v sz k c)) (hn : n = n') (he : ∀ i, i < n → v' i = v i ∧ k' i = k i ∧ c' i = c i) : Sep X w0 w (L.set i (slsR o n' v' sz k' c')) := by
  subst hn
  have h1 := h.ok i _ hi
  refine h.say hi (fun q hq => ?_) (fun b hb => ?_) (fun ho => ho)
  · rw [(he q hq).1, (he q hq).2.1, (he q hq).2.2]; exact h1 q hq
  · obtain ⟨q, hq, hb⟩ := hb
    rw [(he q hq).1, (he q hq).2.2] at hb; exact ⟨q, hq, hb⟩
theorem sep_tabs_join {vt : Value} {lr lb : Nat → Value} {ts : List TabD} (h : Sep X w0 w (row vt 106 5 ts.length (tabsC lr lb ts) :: slsR true ts.length lr 2 (rowsN ts) (rowsC ts) :: slsR true ts.length lb 1 (brkN ts) (brkC ts) :: L)) : Sep X w0 w (tabsR true vt lr lb ts :: L) := by
  have h0 := h.ok_row 0 rfl
  have hp := h.pw
  have ap := List.pairwise_cons.1 hp
  -- the row and both together
  refine Sep.of_pw h.ext (fun r hr => ?_) (fun r hr ho b hb => ?_) (List.pairwise_cons.2 ⟨fun r hr => ?_, (List.pairwise_cons.1 (List.pairwise_cons.1 ap.2).2).2⟩)
  · rcases List.mem_cons.1 hr with rfl | hr
    · exact ⟨SlAt.of_row h0, h.ok 1 _ rfl, h.ok 2 _ rfl⟩
    · exact h.mem (List.mem_cons_of_mem _ (List.mem_cons_of_mem _ (List.mem_cons_of_mem _ hr)))
  · rcases List.mem_cons.1 hr with rfl | hr
    · rcases hb with hb | hb | hb
      · exact h.mine 0 _ rfl rfl b (slFoot_row hb)
      · exact h.mine 1 _ rfl rfl b hb
      · exact h.mine 2 _ rfl rfl b hb
    · exact h.mineM (List.mem_cons_of_mem _ (List.mem_cons_of_mem _ (List.mem_cons_of_mem _ hr))) ho b hb
  · have a0 := ap.1 r (List.mem_cons_of_mem _ (List.mem_cons_of_mem _ hr))
    have a1 := (List.pairwise_cons.1 ap.2).1 r (List.mem_cons_of_mem _ hr)
    have a2 := (List.pairwise_cons.1 (List.pairwise_cons.1 ap.2).2).1 r hr
    refine ⟨fun _ b hb => ?_, fun ho b hb hb' => ?_⟩
    · rcases hb with hb | hb | hb
      · exact a0.1 rfl b (slFoot_row hb)
      · exact a1.1 rfl b hb
      · exact a2.1 rfl b hb
    · rcases hb' with hb' | hb' | hb'
      · exact a0.2 ho b hb (slFoot_row hb')
      · exact a1.2 ho b hb hb'
      · exact a2.2 ho b hb hb'
theorem sep_macs_join {vm : Value} {lk : Nat → Value} {ms : List MacD} (h : Sep X w0 w (row vm 103 2 ms.length (macsC lk ms) :: slsR true ms.length lk 3 (blkN ms) (blkC ms) :: L)) : Sep X w0 w (macsR true vm lk ms :: L) := by
  have h0 := h.ok_row 0 rfl
  refine h.join (t := macsR true vm lk ms) ⟨SlAt.of_row h0, h.ok 1 _ rfl⟩ (fun b hb => ?_) (fun _ => ⟨rfl, rfl⟩) (fun _ => trivial)
  rcases hb with hb | hb
  · exact .inl (slFoot_row hb)
  · exact .inr hb
end
theorem take_tab {α : Type} {l : List α} {d : α} {k : Nat} (h : k < l.length) : l.take k ++ [l.getD k d] = l.take (k + 1) := by
  rw [List.take_add_one, List.getElem?_eq_getElem h, List.getD, List.getElem?_eq_getElem h]; rfl
section
variable {ts : List TabD} {ms : List MacD} {k : Nat}
theorem take_at {α : Type} {l : List α} {d : α} {k i : Nat} (hk : i < k) : (l.take k).getD i d = l.getD i d := by
  simp [List.getD, List.getElem?_take, hk]
theorem rowsN_new (h : k < ts.length) : rowsN (ts.take (k + 1)) (ts.take k).length = (ts.getD k tab0).rows.length ∧ rowsC (ts.take (k + 1)) (ts.take k).length = pairs (ts.getD k tab0).rows ∧ brkN (ts.take (k + 1)) (ts.take k).length = (ts.getD k tab0).brk.length ∧ brkC (ts.take (k + 1)) (ts.take k).length = ints (ts.getD k tab0).brk := by
  rw [List.length_take, Nat.min_eq_left (by omega)]
  unfold rowsN rowsC brkN brkC
  rw [take_at (Nat.lt_succ_self k)]
  exact ⟨rfl, rfl, rfl, rfl⟩
theorem rowsN_old (i : Nat) (hi : i < (ts.take k).length) : (rowsN (ts.take (k + 1)) i = rowsN (ts.take k) i ∧ rowsC (ts.take (k + 1)) i = rowsC (ts.take k) i) ∧ brkN (ts.take (k + 1)) i = brkN (ts.take k) i ∧ brkC (ts.take (k + 1)) i = brkC (ts.take k) i := by
  have hk : i < k := by rw [List.length_take] at hi; omega
  unfold rowsN rowsC brkN brkC
  rw [take_at (show i < k + 1 by omega), take_at hk]
  exact ⟨⟨rfl, rfl⟩, rfl, rfl⟩
theorem blkN_new (h : k < ms.length) : blkN (ms.take (k + 1)) (ms.take k).length = (ms.getD k mac0).blocks.length ∧ blkC (ms.take (k + 1)) (ms.take k).length = trips (ms.getD k mac0).blocks := by
  rw [List.length_take, Nat.min_eq_left (by omega)]
  unfold blkN blkC
  rw [take_at (Nat.lt_succ_self k)]
  exact ⟨rfl, rfl⟩
theorem blkN_old (i : Nat) (hi : i < (ms.take k).length) : blkN (ms.take (k + 1)) i = blkN (ms.take k) i ∧ blkC (ms.take (k + 1)) i = blkC (ms.take k) i := by
  have hk : i < k := by rw [List.length_take] at hi; omega
  unfold blkN blkC
  rw [take_at (show i < k + 1 by omega), take_at hk]
  exact ⟨rfl, rfl⟩
theorem take_len1 {α : Type} {l : List α} (h : k < l.length) : (l.take k).length + 1 = (l.take (k + 1)).length := by simp only [List.length_take]; omega
end
end Go.Hard

namespace Go.Proofs.Ytohgladndklciaa
open Go.RowKit Go.Shelf Go.Eng Go.Hard
theorem bd_98_0i_1i (x0_0 : Int) (x1_0 : Int) (w : World) : (Instr.build 98 #[(0, (.int .i64 x0_0)), (1, (.int .i64 x1_0))]).run Try.prog w = .ok (.agg #[(.int .i64 x0_0), (.int .i64 x1_0)]) w := by kernel_rfl
theorem bs_98_1_0iia (x0_0 : Int) (x0_1 : Int) : Instr.fill (fun i => some (i * 2, 2)) ((Array.range (1 * 2)).map ((Value.agg #[(Value.int .i64 0), (Value.int .i64 0)]).cells[· % (Value.agg #[(Value.int .i64 0), (Value.int .i64 0)]).cells.size]!)) [(0, .agg #[(.int .i64 x0_0), (.int .i64 x0_1)])] = some (([(.int .i64 x0_0), (.int .i64 x0_1)] : List Value).toArray) := by kernel_rfl
theorem list_ok (l : List Int) (xl : Value) (w : World) (hxl : SlAt w xl 1 l.length (ints l)) (hlen : l.length ≤ 1000000) :
  Calls Try.prog 40 #[xl] w (Ret fun v w' => Ext NoB w w' ∧ w'.ownsRow w.heap.size 3 1 v l.length (ints l)) := by
 refine calls_enter Try.func40 rfl fun a0 hA0 => ?_
 replace hA0 : Fr 5 [] [(0, xl)] a0 := hA0
 have hS0 : Sep NoB w w [(sl xl 1 l.length (ints l))] := sep_ro ⟨rfl, hxl, trivial⟩
 refine m2 ?_
 refine s1 hA0 (op_assign rfl (evc _ _)) fun a1 hA2 => ?_; clear hA0 a0
 refine n4 ?_
 refine s1 hA2 (op_move rfl (hA2.ev rfl)) fun a3 hA4 => ?_; clear hA2 a1
 have hS5 := hS0.nil_row 3 1; clear hS0
 refine s2 hA4 (op_append hS5 rfl un_44 el_3 (evc _ _) (hA4.ev rfl) (i := 0) rfl (hS5.sk 1 rfl) (ints_one _) (by simp only [maxLen]; omega) (by omega)) ?_
 intro a6 v9 w8 hS10 hA7
 have hS11 := hS10.row_say (i := 0) rfl (n' := l.length) (xs' := (ints l)) (by simp) (by simp); clear hS10 hA4 hS5 a3
 refine s1 hA7 (op_assign rfl (hA7.ev rfl)) fun a12 hA13 => ?_; clear hA7 a6
 refine n1 ?_
 refine c_ret ?_
 refine fin_run hA13 (.inl rfl) (run_results1 hA13 rfl (.tmp rfl)) ?_
 exact ⟨hS11.ext, hS11.row_new (i := 0) rfl⟩
end Go.Proofs.Ytohgladndklciaa
