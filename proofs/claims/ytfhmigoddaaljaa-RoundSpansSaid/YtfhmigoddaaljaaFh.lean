/-
  Walks through the functions of the seat, printed by a program of ours (gowalk), a theorem a function: what the call returns and what it leaves in memory.
-/
import Derived.Test.YtfhmigoddaaljaaFf
import Derived.Test.YtfhmigoddaaljaaPlain
set_option linter.unusedSimpArgs false
set_option linter.unusedVariables false
namespace Go.Proofs.Ytfhmigoddaaljaa
open Go.RowKit Go.Shelf Go.Eng
theorem Span_ok (rl rs rb : Value) (rlv : List Value) (d : RD) (w : World) (hR : RoundAt w rl rs rb rlv d) (xl : Value) (l : List Int) (hx : SlAt w xl 1 l.length (ints l)) (hlen : l.length ≤ 1000000) (i : Nat) (hV : Valid d) (hi : i < d.samples.length) :
  Calls Try.prog 27 #[(Value.agg #[rl, rs, (Value.int .i64 d.spread), rb]), xl, (Value.int .i64 (i : Int))] w (Ret fun v w' => v = .agg #[.int .i64 (refSpan d l i).1, .int .i64 (refSpan d l i).2] ∧ Ext NoB w w') := by
 refine calls_enter Try.func27 rfl fun a0 hA0 => ?_
 replace hA0 : Fr 67 [] [(0, (Value.agg #[rl, rs, (Value.int .i64 d.spread), rb])), (1, xl), (2, (Value.int .i64 (i : Int)))] a0 := hA0
 have hsp := hV.spread; have hsm := hV.samples i hi; have hlo : (d.samples.getD i 0).toNat < d.lots.length := by omega
 have hS0 : Sep NoB w w [(sl xl 1 l.length (ints l)), (rndR false rl rs rb rlv d)] := sep_ro ⟨rfl, hx, rfl, hR, trivial⟩
 refine c_seq ?_
 refine c_region ?_
 refine stw hA0 (op_box hS0 rfl (hA0.ev rfl) (cs := [rl, rs, (Value.int .i64 d.spread), rb]) rfl) rfl rfl (by decide) ?_
 rintro a1 _ w3 ⟨b4, rfl, hS5⟩ hA2; clear hA0 hS0 a0
 refine stw hA2 (op_alloc hS5 rfl ze_44 (cs := [(Value.int .i64 0), (Value.int .i64 0)]) rfl) rfl rfl (by decide) ?_
 rintro a6 _ w8 ⟨b9, rfl, hS10⟩ hA7; clear hA2 hS5 a1
 refine wl_nil ?_
 refine then_n ?_
 refine c_seq ?_
 refine c_region ?_
 refine st hA7 (op_loadA rfl ty_26 (hA7.ev rfl) (hS10.bk 1 rfl) (l := [rl, rs, (Value.int .i64 d.spread), rb]) rfl rfl) rfl rfl (by decide) fun a11 hA12 => ?_; clear hA7 a6
 refine st hA12 (op_move rfl (hA12.ev rfl)) rfl rfl (by decide) fun a13 hA14 => ?_; clear hA12 a11
 refine stw hA14 (op_call rfl en_53 (ev4 (hA14.ev rfl) (hA14.ev rfl) (evc _ _) (evc _ _)) (Lots_ok rl rs rb rlv d _ (rnd_at (hS10.ok 3 _ rfl)) _ l (hS10.sk 2 rfl) (by omega) (-1) 0 hV (by omega))) rfl rfl (by decide) ?_
 rintro a15 _ w17 ⟨u18, ov19, rfl, hT20⟩ hA16; have hS21 := hS10.callS hT20 rfl; clear hT20 hA14 hS10 a13
 have hol_ov19 := hS21.lst_len 1 rfl; rw [lotsUpto_length] at hol_ov19
 refine st hA16 (op_move rfl (hA16.ev rfl)) rfl rfl (by decide) fun a22 hA23 => ?_; clear hA16 a15
 refine st hA23 (op_extract rfl (hA23.ev rfl) rfl) rfl rfl (by decide) fun a24 hA25 => ?_; clear hA23 a22
 refine st hA25 (op_extract rfl (hA25.ev rfl) rfl) rfl rfl (by decide) fun a26 hA27 => ?_; clear hA25 a24
 refine st hA27 (op_assign rfl (hA27.ev rfl)) rfl rfl (by decide) fun a28 hA29 => ?_; clear hA27 a26
 refine st hA29 (op_assign rfl (hA29.ev rfl)) rfl rfl (by decide) fun a30 hA31 => ?_; clear hA29 a28
 refine wl_nil ?_
 refine then_n ?_
 refine c_seq ?_
 have hA32 := hA31.as [(7, u18), (6, (bptr b9 0)), (3, (bptr b4 0)), (1, xl), (2, (Value.int .i64 (i : Int)))] rfl; clear hA31
 refine c_region ?_
 refine st hA32 (op_move rfl (hA32.ev rfl)) rfl rfl (by decide) fun a33 hA34 => ?_; clear hA32 a30
 refine st hA34 (op_field rfl fd_26_1 (hA34.ev rfl)) rfl rfl (by decide) fun a35 hA36 => ?_; clear hA34 a33
 refine st hA36 (op_load1 rfl ty_23 (hA36.ev rfl) (hS21.bk 3 rfl) rfl) rfl rfl (by decide) fun a37 hA38 => ?_; clear hA36 a35
 refine st hA38 (op_move rfl (hA38.ev rfl)) rfl rfl (by decide) fun a39 hA40 => ?_; clear hA38 a37
 refine st hA40 (op_indexS rfl un_23 ty_3 (hA40.ev rfl) (i := i) (hA40.ev rfl) (rnd_at (hS21.ok 5 _ rfl)).samples (by decide) (by omega)) rfl rfl (by decide) fun a41 hA42 => ?_; clear hA40 a39
 refine st hA42 (op_load1E rfl ty_3 (hA42.ev rfl) (rnd_at (hS21.ok 5 _ rfl)).samples (ints_at (by omega))) rfl rfl (by decide) fun a43 hA44 => ?_; clear hA42 a41
 refine st hA44 (op_indexS rfl un_51 ty_23 (hA44.ev rfl) (i := (d.samples.getD i 0).toNat) ((hA44.ev rfl).trans (int_nat (by omega))) (SlAt.of_row (hS21.ok_row 0 rfl)) (by decide) (by omega)) rfl rfl (by decide) fun a45 hA46 => ?_; clear hA44 a43
 refine st hA46 (op_load1E rfl ty_23 (hA46.ev rfl) (SlAt.of_row (hS21.ok_row 0 rfl)) (vals_at (by omega))) rfl rfl (by decide) fun a47 hA48 => ?_; clear hA46 a45
 refine st hA48 (op_assign rfl (hA48.ev rfl)) rfl rfl (by decide) fun a49 hA50 => ?_; clear hA48 a47
 refine wl_nil ?_
 refine then_n ?_
 refine c_seq ?_
 have hA51 := hA50.as [(9, (ov19.getD ((d.samples.getD i 0).toNat) nilS)), (6, (bptr b9 0)), (3, (bptr b4 0)), (1, xl), (2, (Value.int .i64 (i : Int)))] rfl; clear hA50
 refine c_region ?_
 refine st hA51 (op_build rfl (pv2 (evc _ _) (evc _ _)) (bd_44_0i_1i _ _)) rfl rfl (by decide) fun a52 hA53 => ?_; clear hA51 a49
 refine stw hA53 (op_alloc hS21 rfl ze_44 (cs := [(Value.int .i64 0), (Value.int .i64 0)]) rfl) rfl rfl (by decide) ?_
 rintro a54 _ w56 ⟨b57, rfl, hS58⟩ hA55; clear hA53 hS21 a52
 refine sts hA55 (op_store hS58 rfl ty_44 (hA55.ev rfl) (hA55.ev rfl) (i := 0) rfl (vs := [(Value.int .i64 1073741824), (Value.int .i64 (-1073741824))]) rfl rfl rfl (Nat.le_of_ble_eq_true rfl)) rfl rfl ?_
 intro _ w59 hS60 hA61; clear hA55
 have hS62 : Sep NoB w w59 [(blk b57 44 [(Value.int .i64 1073741824), (Value.int .i64 (-1073741824))]), (row u18 23 1 ov19.length ov19), (lstR ov19 (lotsUpto d l (-1) 0 d.lots.length)), (blk b9 44 [(Value.int .i64 0), (Value.int .i64 0)]), (blk b4 26 [rl, rs, (Value.int .i64 d.spread), rb]), (sl xl 1 l.length (ints l)), (rndR false rl rs rb rlv d)] := hS60; clear hS60 hS58
 refine wl_nil ?_
 refine then_n ?_
 refine c_seq ?_
 refine c_seq ?_
 refine c_region ?_
 refine st hA61 (op_assign rfl (evc _ _)) rfl rfl (by decide) fun a63 hA64 => ?_; clear hA61 a54
 refine wl_nil ?_
 refine then_n ?_
 refine c_block ?_
 have hA65 := hA64.as [(11, (Value.int .i64 0)), (10, (bptr b57 0)), (9, (ov19.getD ((d.samples.getD i 0).toNat) nilS)), (6, (bptr b9 0)), (3, (bptr b4 0)), (1, xl), (2, (Value.int .i64 (i : Int)))] rfl; clear hA64
 refine c_loop (G := Nat) (fun (n : Nat) a_ w_ => Fr 67 [] [(11, (Value.int .i64 (n : Int))), (10, (bptr b57 0)), (9, (ov19.getD ((d.samples.getD i 0).toNat) nilS)), (6, (bptr b9 0)), (3, (bptr b4 0)), (1, xl), (2, (Value.int .i64 (i : Int)))] a_ ∧ Sep NoB w w_ [(blk b57 44 [(Value.int .i64 ((foldS (candUpto d l i ((lotsUpto d l (-1) 0 d.lots.length).getD (d.samples.getD i 0).toNat []) n)).1)), (Value.int .i64 ((foldS (candUpto d l i ((lotsUpto d l (-1) 0 d.lots.length).getD (d.samples.getD i 0).toNat []) n)).2))]), (row u18 23 1 ov19.length ov19), (lstR ov19 (lotsUpto d l (-1) 0 d.lots.length)), (blk b9 44 [(Value.int .i64 0), (Value.int .i64 0)]), (blk b4 26 [rl, rs, (Value.int .i64 d.spread), rb]), (sl xl 1 l.length (ints l)), (rndR false rl rs rb rlv d)] ∧ (n ≤ ((lotsUpto d l (-1) 0 d.lots.length).getD (d.samples.getD i 0).toNat []).length)) (fun n => ((lotsUpto d l (-1) 0 d.lots.length).getD (d.samples.getD i 0).toNat []).length - n) 0 ⟨hA65.as _ rfl, hS62, by omega⟩ ?_
 clear hA65 hS62 a63
 rintro n a66 w68 ⟨hA67, hS69, hkn⟩
 refine c_seq ?_
 refine c_seq ?_
 refine c_region ?_
 refine st hA67 (op_move rfl (hA67.ev rfl)) rfl rfl (by decide) fun a70 hA71 => ?_; clear hA67 a66
 refine st hA71 (op_move rfl (hA71.ev rfl)) rfl rfl (by decide) fun a72 hA73 => ?_; clear hA71 a70
 refine st hA73 (op_lenS rfl un_23 (hA73.ev rfl) ((hS69.lst_at 2 rfl).2 ((d.samples.getD i 0).toNat) (by rw [lotsUpto_length]; omega))) rfl rfl (by decide) fun a74 hA75 => ?_; clear hA73 a72
 refine st hA75 (op_lss rfl (hA75.ev rfl) (hA75.ev rfl)) rfl rfl (by decide) fun a76 hA77 => ?_; clear hA75 a74
 refine wl_nil ?_
 refine then_n ?_
 by_cases hb78 : (n : Int) < (((lotsUpto d l (-1) 0 d.lots.length).getD ((d.samples.getD i 0).toNat) []).length : Int)
 ·skip
  rw [decide_eq_true hb78] at hA77
  have hvb := lotVals_bd (l := l) (lab := -1) (sh := 0) hV hlo (n := n) (by rw [← lots_at hlo]; omega); rw [← lots_at hlo] at hvb
  have hvl : ((lotsUpto d l (-1) 0 d.lots.length).getD (d.samples.getD i 0).toNat []).length ≤ 1001 := by rw [lots_at hlo]; exact Nat.le_trans lotUpto_len (by have := hV.lots _ hlo; omega)
  refine c_true hA77 rfl ?_
  refine c_skip ?_
  refine then_n ?_
  refine c_seq ?_
  refine c_block ?_
  refine c_seq ?_
  have hA79 := hA77.as [(11, (Value.int .i64 (n : Int))), (10, (bptr b57 0)), (9, (ov19.getD ((d.samples.getD i 0).toNat) nilS)), (6, (bptr b9 0)), (3, (bptr b4 0)), (1, xl), (2, (Value.int .i64 (i : Int)))] rfl; clear hA77
  refine c_drawV mixed hA79 hS69 6 [[], [], [0, 1], [2], [], [4]] [(fun (vs80 : Nat → Value) (v_ : Value) (rs_ : List Res) => v_ = (ov19.getD ((d.samples.getD i 0).toNat) nilS) ∧ rs_ = []), (fun (vs80 : Nat → Value) (v_ : Value) (rs_ : List Res) => v_ = (Value.int .i64 (n : Int)) ∧ rs_ = []), (fun (vs80 : Nat → Value) (v_ : Value) (rs_ : List Res) => v_ = (eptr (ov19.getD ((d.samples.getD i 0).toNat) nilS) (n * 1)) ∧ rs_ = []), (fun (vs80 : Nat → Value) (v_ : Value) (rs_ : List Res) => v_ = (Value.int .i64 (((lotsUpto d l (-1) 0 d.lots.length).getD ((d.samples.getD i 0).toNat) []).getD n 0)) ∧ rs_ = []), (fun (vs80 : Nat → Value) (v_ : Value) (rs_ : List Res) => v_ = (bptr b4 2) ∧ rs_ = []), (fun (vs80 : Nat → Value) (v_ : Value) (rs_ : List Res) => v_ = (Value.int .i64 d.spread) ∧ rs_ = [])] (by decide +kernel) (by decide +kernel) rfl rfl ⟨(fun _ _ _ _ _ h_ => h_), (fun _ _ _ _ _ h_ => h_), (fun _ _ _ _ _ h_ => h_), (fun _ _ _ _ _ h_ => h_), (fun _ _ _ _ _ h_ => h_), (fun _ _ _ _ _ h_ => h_), trivial⟩ ?_ ?_
  ·skip
   refine ⟨fun a w vs80 hA hS hd => ?_, ?_⟩
   ·skip
    exact opG_of rfl (vv (op_move rfl (hA.ev rfl)) (And.intro rfl rfl))
   refine ⟨fun a w vs80 hA hS hd => ?_, ?_⟩
   ·skip
    exact opG_of rfl (vv (op_move rfl (hA.ev rfl)) (And.intro rfl rfl))
   refine ⟨fun a w vs80 hA hS hd => ?_, ?_⟩
   ·skip
    obtain ⟨e0, rs0, hy0, hp0⟩ := hd 0 (by decide)
    obtain ⟨hv0, hr0⟩ := hy0; subst hr0
    rw [hv0] at e0
    obtain ⟨e1, rs1, hy1, hp1⟩ := hd 1 (by decide)
    obtain ⟨hv1, hr1⟩ := hy1; subst hr1
    rw [hv1] at e1
    exact opG_of rfl (vv (op_indexS rfl un_23 ty_3 (tmp_ev (slot_ev e0 rfl)) (i := n) (tmp_ev (slot_ev e1 rfl)) ((hS.lst_at 2 rfl).2 ((d.samples.getD i 0).toNat) (by rw [lotsUpto_length]; omega)) (by decide) (by omega)) (And.intro rfl rfl))
   refine ⟨fun a w vs80 hA hS hd => ?_, ?_⟩
   ·skip
    obtain ⟨e2, rs2, hy2, hp2⟩ := hd 2 (by decide)
    obtain ⟨hv2, hr2⟩ := hy2; subst hr2
    rw [hv2] at e2
    exact opG_of rfl (vv (op_load1E rfl ty_3 (tmp_ev (slot_ev e2 rfl)) ((hS.lst_at 2 rfl).2 ((d.samples.getD i 0).toNat) (by rw [lotsUpto_length]; omega)) (ints_at (by omega))) (And.intro rfl rfl))
   refine ⟨fun a w vs80 hA hS hd => ?_, ?_⟩
   ·skip
    exact opG_of rfl (vv (op_field rfl fd_26_2 (hA.ev rfl)) (And.intro rfl rfl))
   refine ⟨fun a w vs80 hA hS hd => ?_, ?_⟩
   ·skip
    obtain ⟨e4, rs4, hy4, hp4⟩ := hd 4 (by decide)
    obtain ⟨hv4, hr4⟩ := hy4; subst hr4
    rw [hv4] at e4
    exact opG_of rfl (vv (op_load1 rfl ty_3 (tmp_ev (slot_ev e4 rfl)) (hS.bk 4 rfl) rfl) (And.intro rfl rfl))
   trivial
  intro a81 w82 vs80 rsf86 hA83 hH85 hS84; clear hA79 hS69
  obtain ⟨hs_0, hy_0⟩ := hH85 0 (by decide)
  obtain ⟨hv_0, hr_0⟩ := hy_0
  obtain ⟨hs_1, hy_1⟩ := hH85 1 (by decide)
  obtain ⟨hv_1, hr_1⟩ := hy_1
  obtain ⟨hs_2, hy_2⟩ := hH85 2 (by decide)
  obtain ⟨hv_2, hr_2⟩ := hy_2
  obtain ⟨hs_3, hy_3⟩ := hH85 3 (by decide)
  obtain ⟨hv_3, hr_3⟩ := hy_3
  obtain ⟨hs_4, hy_4⟩ := hH85 4 (by decide)
  obtain ⟨hv_4, hr_4⟩ := hy_4
  obtain ⟨hs_5, hy_5⟩ := hH85 5 (by decide)
  obtain ⟨hv_5, hr_5⟩ := hy_5
  have hS87 : Sep NoB w w82 [(blk b57 44 [(Value.int .i64 ((foldS (candUpto d l i ((lotsUpto d l (-1) 0 d.lots.length).getD (d.samples.getD i 0).toNat []) n)).1)), (Value.int .i64 ((foldS (candUpto d l i ((lotsUpto d l (-1) 0 d.lots.length).getD (d.samples.getD i 0).toNat []) n)).2))]), (row u18 23 1 ov19.length ov19), (lstR ov19 (lotsUpto d l (-1) 0 d.lots.length)), (blk b9 44 [(Value.int .i64 0), (Value.int .i64 0)]), (blk b4 26 [rl, rs, (Value.int .i64 d.spread), rb]), (sl xl 1 l.length (ints l)), (rndR false rl rs rb rlv d)] := by rw [show catR rsf86 0 6 = ([] : List Res) by (try simp only [catR, hr_0, hr_1, hr_2, hr_3, hr_4, hr_5]); (try rfl)] at hS84; exact hS84
  rw [hv_3] at hs_3
  have hA88 : Fr 67 [] [(37, (Value.int .i64 (((lotsUpto d l (-1) 0 d.lots.length).getD ((d.samples.getD i 0).toNat) []).getD n 0))), (11, (Value.int .i64 (n : Int))), (10, (bptr b57 0)), (9, (ov19.getD ((d.samples.getD i 0).toNat) nilS)), (6, (bptr b9 0)), (3, (bptr b4 0)), (1, xl), (2, (Value.int .i64 (i : Int)))] a81 := hA83.add (slot_ev hs_3 rfl); clear hA83
  rw [hv_5] at hs_5
  have hA89 : Fr 67 [] [(39, (Value.int .i64 d.spread)), (37, (Value.int .i64 (((lotsUpto d l (-1) 0 d.lots.length).getD ((d.samples.getD i 0).toNat) []).getD n 0))), (11, (Value.int .i64 (n : Int))), (10, (bptr b57 0)), (9, (ov19.getD ((d.samples.getD i 0).toNat) nilS)), (6, (bptr b9 0)), (3, (bptr b4 0)), (1, xl), (2, (Value.int .i64 (i : Int)))] a81 := hA88.add (slot_ev hs_5 rfl); clear hA88
  clear hH85 hS84 hs_0 hs_1 hs_2 hs_3 hs_4 hs_5
  clear hr_0
  clear hv_0
  clear hr_1
  clear hv_1
  clear hr_2
  clear hv_2
  clear hr_3
  clear hv_3
  clear hr_4
  clear hv_4
  clear hr_5
  clear hv_5
  refine st hA89 (op_sub rfl (hA89.ev rfl) (hA89.ev rfl) (by omega) (by omega)) rfl rfl (by decide) fun a90 hA91 => ?_; clear hA89 a81
  refine st hA91 (op_assign rfl (hA91.ev rfl)) rfl rfl (by decide) fun a92 hA93 => ?_; clear hA91 a90
  refine wl_nil ?_
  refine then_n ?_
  refine c_block ?_
  have hA94 := hA93.as [(12, (Value.int .i64 ((((lotsUpto d l (-1) 0 d.lots.length).getD ((d.samples.getD i 0).toNat) []).getD n 0) - d.spread))), (11, (Value.int .i64 (n : Int))), (10, (bptr b57 0)), (9, (ov19.getD ((d.samples.getD i 0).toNat) nilS)), (6, (bptr b9 0)), (3, (bptr b4 0)), (1, xl), (2, (Value.int .i64 (i : Int)))] rfl; clear hA93
  refine c_loop (G := Nat) (fun (t : Nat) a_ w_ => Fr 67 [] [(12, (Value.int .i64 ((((lotsUpto d l (-1) 0 d.lots.length).getD (d.samples.getD i 0).toNat []).getD n 0 - d.spread) + (t : Int)))), (11, (Value.int .i64 (n : Int))), (10, (bptr b57 0)), (9, (ov19.getD ((d.samples.getD i 0).toNat) nilS)), (6, (bptr b9 0)), (3, (bptr b4 0)), (1, xl), (2, (Value.int .i64 (i : Int)))] a_ ∧ Sep NoB w w_ [(blk b57 44 [(Value.int .i64 ((foldS (candUpto d l i ((lotsUpto d l (-1) 0 d.lots.length).getD (d.samples.getD i 0).toNat []) n ++ candIn d l i (((lotsUpto d l (-1) 0 d.lots.length).getD (d.samples.getD i 0).toNat []).getD n 0) t)).1)), (Value.int .i64 ((foldS (candUpto d l i ((lotsUpto d l (-1) 0 d.lots.length).getD (d.samples.getD i 0).toNat []) n ++ candIn d l i (((lotsUpto d l (-1) 0 d.lots.length).getD (d.samples.getD i 0).toNat []).getD n 0) t)).2))]), (row u18 23 1 ov19.length ov19), (lstR ov19 (lotsUpto d l (-1) 0 d.lots.length)), (blk b9 44 [(Value.int .i64 0), (Value.int .i64 0)]), (blk b4 26 [rl, rs, (Value.int .i64 d.spread), rb]), (sl xl 1 l.length (ints l)), (rndR false rl rs rb rlv d)] ∧ (t ≤ (2 * d.spread + 1).toNat)) (fun t => (2 * d.spread + 1).toNat - t) 0 ⟨hA94.as _ (by simp [pickSlots, List.lookup]), (hS87.blk_say (i := 0) rfl (by rw [show candIn d l i (((lotsUpto d l (-1) 0 d.lots.length).getD (d.samples.getD i 0).toNat []).getD n 0) 0 = [] from rfl, List.append_nil])), by omega⟩ ?_
  clear hA94 hS87 a92
  rintro t a95 w97 ⟨hA96, hS98, ht⟩
  refine c_seq ?_
  refine c_seq ?_
  have hA99 := hA96.as [(12, (Value.int .i64 ((((lotsUpto d l (-1) 0 d.lots.length).getD (d.samples.getD i 0).toNat []).getD n 0 - d.spread) + (t : Int)))), (11, (Value.int .i64 (n : Int))), (10, (bptr b57 0)), (9, (ov19.getD ((d.samples.getD i 0).toNat) nilS)), (6, (bptr b9 0)), (3, (bptr b4 0)), (1, xl), (2, (Value.int .i64 (i : Int)))] rfl; clear hA96
  refine c_drawV mixed hA99 hS98 8 [[], [], [], [1, 2], [3], [], [5], [4, 6]] [(fun (vs100 : Nat → Value) (v_ : Value) (rs_ : List Res) => v_ = (Value.int .i64 ((((lotsUpto d l (-1) 0 d.lots.length).getD (d.samples.getD i 0).toNat []).getD n 0 - d.spread) + (t : Int))) ∧ rs_ = []), (fun (vs100 : Nat → Value) (v_ : Value) (rs_ : List Res) => v_ = (ov19.getD ((d.samples.getD i 0).toNat) nilS) ∧ rs_ = []), (fun (vs100 : Nat → Value) (v_ : Value) (rs_ : List Res) => v_ = (Value.int .i64 (n : Int)) ∧ rs_ = []), (fun (vs100 : Nat → Value) (v_ : Value) (rs_ : List Res) => v_ = (eptr (ov19.getD ((d.samples.getD i 0).toNat) nilS) (n * 1)) ∧ rs_ = []), (fun (vs100 : Nat → Value) (v_ : Value) (rs_ : List Res) => v_ = (Value.int .i64 (((lotsUpto d l (-1) 0 d.lots.length).getD ((d.samples.getD i 0).toNat) []).getD n 0)) ∧ rs_ = []), (fun (vs100 : Nat → Value) (v_ : Value) (rs_ : List Res) => v_ = (bptr b4 2) ∧ rs_ = []), (fun (vs100 : Nat → Value) (v_ : Value) (rs_ : List Res) => v_ = (Value.int .i64 d.spread) ∧ rs_ = []), (fun (vs100 : Nat → Value) (v_ : Value) (rs_ : List Res) => v_ = (Value.int .i64 ((((lotsUpto d l (-1) 0 d.lots.length).getD ((d.samples.getD i 0).toNat) []).getD n 0) + d.spread)) ∧ rs_ = [])] (by decide +kernel) (by decide +kernel) rfl rfl ⟨(fun _ _ _ _ _ h_ => h_), (fun _ _ _ _ _ h_ => h_), (fun _ _ _ _ _ h_ => h_), (fun _ _ _ _ _ h_ => h_), (fun _ _ _ _ _ h_ => h_), (fun _ _ _ _ _ h_ => h_), (fun _ _ _ _ _ h_ => h_), (fun _ _ _ _ _ h_ => h_), trivial⟩ ?_ ?_
  ·skip
   refine ⟨fun a w vs100 hA hS hd => ?_, ?_⟩
   ·skip
    exact opG_of rfl (vv (op_move rfl (hA.ev rfl)) (And.intro rfl rfl))
   refine ⟨fun a w vs100 hA hS hd => ?_, ?_⟩
   ·skip
    exact opG_of rfl (vv (op_move rfl (hA.ev rfl)) (And.intro rfl rfl))
   refine ⟨fun a w vs100 hA hS hd => ?_, ?_⟩
   ·skip
    exact opG_of rfl (vv (op_move rfl (hA.ev rfl)) (And.intro rfl rfl))
   refine ⟨fun a w vs100 hA hS hd => ?_, ?_⟩
   ·skip
    obtain ⟨e1, rs1, hy1, hp1⟩ := hd 1 (by decide)
    obtain ⟨hv1, hr1⟩ := hy1; subst hr1
    rw [hv1] at e1
    obtain ⟨e2, rs2, hy2, hp2⟩ := hd 2 (by decide)
    obtain ⟨hv2, hr2⟩ := hy2; subst hr2
    rw [hv2] at e2
    exact opG_of rfl (vv (op_indexS rfl un_23 ty_3 (tmp_ev (slot_ev e1 rfl)) (i := n) (tmp_ev (slot_ev e2 rfl)) ((hS.lst_at 2 rfl).2 ((d.samples.getD i 0).toNat) (by rw [lotsUpto_length]; omega)) (by decide) (by omega)) (And.intro rfl rfl))
   refine ⟨fun a w vs100 hA hS hd => ?_, ?_⟩
   ·skip
    obtain ⟨e3, rs3, hy3, hp3⟩ := hd 3 (by decide)
    obtain ⟨hv3, hr3⟩ := hy3; subst hr3
    rw [hv3] at e3
    exact opG_of rfl (vv (op_load1E rfl ty_3 (tmp_ev (slot_ev e3 rfl)) ((hS.lst_at 2 rfl).2 ((d.samples.getD i 0).toNat) (by rw [lotsUpto_length]; omega)) (ints_at (by omega))) (And.intro rfl rfl))
   refine ⟨fun a w vs100 hA hS hd => ?_, ?_⟩
   ·skip
    exact opG_of rfl (vv (op_field rfl fd_26_2 (hA.ev rfl)) (And.intro rfl rfl))
   refine ⟨fun a w vs100 hA hS hd => ?_, ?_⟩
   ·skip
    obtain ⟨e5, rs5, hy5, hp5⟩ := hd 5 (by decide)
    obtain ⟨hv5, hr5⟩ := hy5; subst hr5
    rw [hv5] at e5
    exact opG_of rfl (vv (op_load1 rfl ty_3 (tmp_ev (slot_ev e5 rfl)) (hS.bk 4 rfl) rfl) (And.intro rfl rfl))
   refine ⟨fun a w vs100 hA hS hd => ?_, ?_⟩
   ·skip
    obtain ⟨e4, rs4, hy4, hp4⟩ := hd 4 (by decide)
    obtain ⟨hv4, hr4⟩ := hy4; subst hr4
    rw [hv4] at e4
    obtain ⟨e6, rs6, hy6, hp6⟩ := hd 6 (by decide)
    obtain ⟨hv6, hr6⟩ := hy6; subst hr6
    rw [hv6] at e6
    exact opG_of rfl (vv (op_add rfl (tmp_ev (slot_ev e4 rfl)) (tmp_ev (slot_ev e6 rfl)) (by omega) (by omega)) (And.intro rfl rfl))
   trivial
  intro a101 w102 vs100 rsf106 hA103 hH105 hS104; clear hA99 hS98
  obtain ⟨hs_0, hy_0⟩ := hH105 0 (by decide)
  obtain ⟨hv_0, hr_0⟩ := hy_0
  obtain ⟨hs_1, hy_1⟩ := hH105 1 (by decide)
  obtain ⟨hv_1, hr_1⟩ := hy_1
  obtain ⟨hs_2, hy_2⟩ := hH105 2 (by decide)
  obtain ⟨hv_2, hr_2⟩ := hy_2
  obtain ⟨hs_3, hy_3⟩ := hH105 3 (by decide)
  obtain ⟨hv_3, hr_3⟩ := hy_3
  obtain ⟨hs_4, hy_4⟩ := hH105 4 (by decide)
  obtain ⟨hv_4, hr_4⟩ := hy_4
  obtain ⟨hs_5, hy_5⟩ := hH105 5 (by decide)
  obtain ⟨hv_5, hr_5⟩ := hy_5
  obtain ⟨hs_6, hy_6⟩ := hH105 6 (by decide)
  obtain ⟨hv_6, hr_6⟩ := hy_6
  obtain ⟨hs_7, hy_7⟩ := hH105 7 (by decide)
  obtain ⟨hv_7, hr_7⟩ := hy_7
  have hS107 : Sep NoB w w102 [(blk b57 44 [(Value.int .i64 ((foldS (candUpto d l i ((lotsUpto d l (-1) 0 d.lots.length).getD (d.samples.getD i 0).toNat []) n ++ candIn d l i (((lotsUpto d l (-1) 0 d.lots.length).getD (d.samples.getD i 0).toNat []).getD n 0) t)).1)), (Value.int .i64 ((foldS (candUpto d l i ((lotsUpto d l (-1) 0 d.lots.length).getD (d.samples.getD i 0).toNat []) n ++ candIn d l i (((lotsUpto d l (-1) 0 d.lots.length).getD (d.samples.getD i 0).toNat []).getD n 0) t)).2))]), (row u18 23 1 ov19.length ov19), (lstR ov19 (lotsUpto d l (-1) 0 d.lots.length)), (blk b9 44 [(Value.int .i64 0), (Value.int .i64 0)]), (blk b4 26 [rl, rs, (Value.int .i64 d.spread), rb]), (sl xl 1 l.length (ints l)), (rndR false rl rs rb rlv d)] := by rw [show catR rsf106 0 8 = ([] : List Res) by (try simp only [catR, hr_0, hr_1, hr_2, hr_3, hr_4, hr_5, hr_6, hr_7]); (try rfl)] at hS104; exact hS104
  rw [hv_0] at hs_0
  have hA108 : Fr 67 [] [(41, (Value.int .i64 ((((lotsUpto d l (-1) 0 d.lots.length).getD (d.samples.getD i 0).toNat []).getD n 0 - d.spread) + (t : Int)))), (12, (Value.int .i64 ((((lotsUpto d l (-1) 0 d.lots.length).getD (d.samples.getD i 0).toNat []).getD n 0 - d.spread) + (t : Int)))), (11, (Value.int .i64 (n : Int))), (10, (bptr b57 0)), (9, (ov19.getD ((d.samples.getD i 0).toNat) nilS)), (6, (bptr b9 0)), (3, (bptr b4 0)), (1, xl), (2, (Value.int .i64 (i : Int)))] a101 := hA103.add (slot_ev hs_0 rfl); clear hA103
  rw [hv_7] at hs_7
  have hA109 : Fr 67 [] [(48, (Value.int .i64 ((((lotsUpto d l (-1) 0 d.lots.length).getD ((d.samples.getD i 0).toNat) []).getD n 0) + d.spread))), (41, (Value.int .i64 ((((lotsUpto d l (-1) 0 d.lots.length).getD (d.samples.getD i 0).toNat []).getD n 0 - d.spread) + (t : Int)))), (12, (Value.int .i64 ((((lotsUpto d l (-1) 0 d.lots.length).getD (d.samples.getD i 0).toNat []).getD n 0 - d.spread) + (t : Int)))), (11, (Value.int .i64 (n : Int))), (10, (bptr b57 0)), (9, (ov19.getD ((d.samples.getD i 0).toNat) nilS)), (6, (bptr b9 0)), (3, (bptr b4 0)), (1, xl), (2, (Value.int .i64 (i : Int)))] a101 := hA108.add (slot_ev hs_7 rfl); clear hA108
  clear hH105 hS104 hs_0 hs_1 hs_2 hs_3 hs_4 hs_5 hs_6 hs_7
  clear hr_0
  clear hv_0
  clear hr_1
  clear hv_1
  clear hr_2
  clear hv_2
  clear hr_3
  clear hv_3
  clear hr_4
  clear hv_4
  clear hr_5
  clear hv_5
  clear hr_6
  clear hv_6
  clear hr_7
  clear hv_7
  refine st hA109 (op_leq rfl (hA109.ev rfl) (hA109.ev rfl)) rfl rfl (by decide) fun a110 hA111 => ?_; clear hA109 a101
  refine wl_nil ?_
  refine then_n ?_
  by_cases hb112 : ((((lotsUpto d l (-1) 0 d.lots.length).getD (d.samples.getD i 0).toNat []).getD n 0 - d.spread) + (t : Int)) ≤ ((((lotsUpto d l (-1) 0 d.lots.length).getD ((d.samples.getD i 0).toNat) []).getD n 0) + d.spread)
  ·skip
   rw [decide_eq_true hb112] at hA111
   refine c_true hA111 rfl ?_
   refine c_skip ?_
   refine then_n ?_
   refine c_seq ?_
   refine c_block ?_
   refine c_seq ?_
   refine c_region ?_
   refine st hA111 (op_loadA rfl ty_26 (hA111.ev rfl) (hS107.bk 4 rfl) (l := [rl, rs, (Value.int .i64 d.spread), rb]) rfl rfl) rfl rfl (by decide) fun a113 hA114 => ?_; clear hA111 a110
   refine st hA114 (op_move rfl (hA114.ev rfl)) rfl rfl (by decide) fun a115 hA116 => ?_; clear hA114 a113
   refine st hA116 (op_move rfl (hA116.ev rfl)) rfl rfl (by decide) fun a117 hA118 => ?_; clear hA116 a115
   refine st hA118 (op_move rfl (hA118.ev rfl)) rfl rfl (by decide) fun a119 hA120 => ?_; clear hA118 a117
   refine stw hA120 (op_call rfl en_56 (ev6 (hA120.ev rfl) (hA120.ev rfl) (evc _ _) (evc _ _) (hA120.ev rfl) (hA120.ev rfl)) (Agrees_ok rl rs rb rlv d _ (rnd_at (hS107.ok 6 _ rfl)) _ l (hS107.sk 5 rfl) (by omega) (-1) 0 hV (by omega) i ((((lotsUpto d l (-1) 0 d.lots.length).getD (d.samples.getD i 0).toNat []).getD n 0 - d.spread) + (t : Int)) (by omega) (by omega))) rfl rfl (by decide) ?_
   rintro a121 _ w123 ⟨rfl, hE124⟩ hA122; have hS125 := hS107.step hE124; clear hE124 hA120 hS107 a119
   refine wl_nil ?_
   refine then_n ?_
   rcases Bool.eq_false_or_eq_true ((agB d l (-1) 0 i ((((lotsUpto d l (-1) 0 d.lots.length).getD (d.samples.getD i 0).toNat []).getD n 0 - d.spread) + (t : Int)))) with hb126 | hb126
   ·skip
    rw [hb126] at hA122
    refine c_true hA122 rfl ?_
    have hA127 := hA122.as [(12, (Value.int .i64 ((((lotsUpto d l (-1) 0 d.lots.length).getD (d.samples.getD i 0).toNat []).getD n 0 - d.spread) + (t : Int)))), (11, (Value.int .i64 (n : Int))), (10, (bptr b57 0)), (9, (ov19.getD ((d.samples.getD i 0).toNat) nilS)), (6, (bptr b9 0)), (3, (bptr b4 0)), (1, xl), (2, (Value.int .i64 (i : Int)))] rfl; clear hA122
    refine c_region ?_
    refine st hA127 (op_field rfl fd_44_0 (hA127.ev rfl)) rfl rfl (by decide) fun a128 hA129 => ?_; clear hA127 a121
    refine st hA129 (op_load1 rfl ty_3 (hA129.ev rfl) (hS125.bk 0 rfl) rfl) rfl rfl (by decide) fun a130 hA131 => ?_; clear hA129 a128
    refine st hA131 (op_move rfl (hA131.ev rfl)) rfl rfl (by decide) fun a132 hA133 => ?_; clear hA131 a130
    refine st hA133 (op_min rfl (hA133.ev rfl) (hA133.ev rfl)) rfl rfl (by decide) fun a134 hA135 => ?_; clear hA133 a132
    refine st hA135 (op_field rfl fd_44_1 (hA135.ev rfl)) rfl rfl (by decide) fun a136 hA137 => ?_; clear hA135 a134
    refine st hA137 (op_load1 rfl ty_3 (hA137.ev rfl) (hS125.bk 0 rfl) rfl) rfl rfl (by decide) fun a138 hA139 => ?_; clear hA137 a136
    refine st hA139 (op_move rfl (hA139.ev rfl)) rfl rfl (by decide) fun a140 hA141 => ?_; clear hA139 a138
    refine st hA141 (op_max rfl (hA141.ev rfl) (hA141.ev rfl)) rfl rfl (by decide) fun a142 hA143 => ?_; clear hA141 a140
    refine st hA143 (op_build rfl (pv2 (hA143.ev rfl) (hA143.ev rfl)) (bd_44_0i_1i _ _)) rfl rfl (by decide) fun a144 hA145 => ?_; clear hA143 a142
    refine sts hA145 (op_store hS125 rfl ty_44 (hA145.ev rfl) (hA145.ev rfl) (i := 0) rfl (vs := [(Value.int .i64 (min ((foldS (candUpto d l i ((lotsUpto d l (-1) 0 d.lots.length).getD (d.samples.getD i 0).toNat []) n ++ candIn d l i (((lotsUpto d l (-1) 0 d.lots.length).getD (d.samples.getD i 0).toNat []).getD n 0) t)).1) ((((lotsUpto d l (-1) 0 d.lots.length).getD (d.samples.getD i 0).toNat []).getD n 0 - d.spread) + (t : Int)))), (Value.int .i64 (max ((foldS (candUpto d l i ((lotsUpto d l (-1) 0 d.lots.length).getD (d.samples.getD i 0).toNat []) n ++ candIn d l i (((lotsUpto d l (-1) 0 d.lots.length).getD (d.samples.getD i 0).toNat []).getD n 0) t)).2) ((((lotsUpto d l (-1) 0 d.lots.length).getD (d.samples.getD i 0).toNat []).getD n 0 - d.spread) + (t : Int))))]) rfl rfl rfl (Nat.le_of_ble_eq_true rfl)) rfl rfl ?_
    intro _ w146 hS147 hA148; clear hA145
    have hS149 : Sep NoB w w146 [(blk b57 44 [(Value.int .i64 (min ((foldS (candUpto d l i ((lotsUpto d l (-1) 0 d.lots.length).getD (d.samples.getD i 0).toNat []) n ++ candIn d l i (((lotsUpto d l (-1) 0 d.lots.length).getD (d.samples.getD i 0).toNat []).getD n 0) t)).1) ((((lotsUpto d l (-1) 0 d.lots.length).getD (d.samples.getD i 0).toNat []).getD n 0 - d.spread) + (t : Int)))), (Value.int .i64 (max ((foldS (candUpto d l i ((lotsUpto d l (-1) 0 d.lots.length).getD (d.samples.getD i 0).toNat []) n ++ candIn d l i (((lotsUpto d l (-1) 0 d.lots.length).getD (d.samples.getD i 0).toNat []).getD n 0) t)).2) ((((lotsUpto d l (-1) 0 d.lots.length).getD (d.samples.getD i 0).toNat []).getD n 0 - d.spread) + (t : Int))))]), (row u18 23 1 ov19.length ov19), (lstR ov19 (lotsUpto d l (-1) 0 d.lots.length)), (blk b9 44 [(Value.int .i64 0), (Value.int .i64 0)]), (blk b4 26 [rl, rs, (Value.int .i64 d.spread), rb]), (sl xl 1 l.length (ints l)), (rndR false rl rs rb rlv d)] := hS147; clear hS147 hS125
    refine wl_nil ?_
    refine blk_n ?_
    refine then_n ?_
    have hA150 := hA148.as [(12, (Value.int .i64 ((((lotsUpto d l (-1) 0 d.lots.length).getD (d.samples.getD i 0).toNat []).getD n 0 - d.spread) + (t : Int)))), (11, (Value.int .i64 (n : Int))), (10, (bptr b57 0)), (9, (ov19.getD ((d.samples.getD i 0).toNat) nilS)), (6, (bptr b9 0)), (3, (bptr b4 0)), (1, xl), (2, (Value.int .i64 (i : Int)))] rfl; clear hA148
    refine c_region ?_
    refine st hA150 (op_move rfl (hA150.ev rfl)) rfl rfl (by decide) fun a151 hA152 => ?_; clear hA150 a144
    refine st hA152 (op_add rfl (hA152.ev rfl) (evc _ _) (by omega) (by omega)) rfl rfl (by decide) fun a153 hA154 => ?_; clear hA152 a151
    refine st hA154 (op_assign rfl (hA154.ev rfl)) rfl rfl (by decide) fun a155 hA156 => ?_; clear hA154 a153
    refine wl_nil ?_
    exact then_n ⟨t + 1, ⟨hA156.as _ (by simp [pickSlots, List.lookup]; omega), (hS149.blk_say (i := 0) rfl (by first | rw [candIn_yes (by assumption), ← List.append_assoc, foldS_snoc] | rw [candIn_no (by assumption)])), by omega⟩, by omega⟩
   ·skip
    rw [hb126] at hA122
    refine c_false hA122 rfl ?_
    refine c_skip ?_
    refine blk_n ?_
    refine then_n ?_
    have hA157 := hA122.as [(12, (Value.int .i64 ((((lotsUpto d l (-1) 0 d.lots.length).getD (d.samples.getD i 0).toNat []).getD n 0 - d.spread) + (t : Int)))), (11, (Value.int .i64 (n : Int))), (10, (bptr b57 0)), (9, (ov19.getD ((d.samples.getD i 0).toNat) nilS)), (6, (bptr b9 0)), (3, (bptr b4 0)), (1, xl), (2, (Value.int .i64 (i : Int)))] rfl; clear hA122
    refine c_region ?_
    refine st hA157 (op_move rfl (hA157.ev rfl)) rfl rfl (by decide) fun a158 hA159 => ?_; clear hA157 a121
    refine st hA159 (op_add rfl (hA159.ev rfl) (evc _ _) (by omega) (by omega)) rfl rfl (by decide) fun a160 hA161 => ?_; clear hA159 a158
    refine st hA161 (op_assign rfl (hA161.ev rfl)) rfl rfl (by decide) fun a162 hA163 => ?_; clear hA161 a160
    refine wl_nil ?_
    exact then_n ⟨t + 1, ⟨hA163.as _ (by simp [pickSlots, List.lookup]; omega), (hS125.blk_say (i := 0) rfl (by first | rw [candIn_yes (by assumption), ← List.append_assoc, foldS_snoc] | rw [candIn_no (by assumption)])), by omega⟩, by omega⟩
  ·skip
   rw [decide_eq_false hb112] at hA111
   refine c_false hA111 rfl ?_
   refine c_exit ?_
   refine then_exit ?_
   refine then_exit ?_
   refine blk_hit ?_
   refine blk_n ?_
   refine then_n ?_
   refine c_region ?_
   refine st hA111 (op_move rfl (hA111.ev rfl)) rfl rfl (by decide) fun a164 hA165 => ?_; clear hA111 a110
   refine st hA165 (op_add rfl (hA165.ev rfl) (evc _ _) (by omega) (by omega)) rfl rfl (by decide) fun a166 hA167 => ?_; clear hA165 a164
   refine st hA167 (op_assign rfl (hA167.ev rfl)) rfl rfl (by decide) fun a168 hA169 => ?_; clear hA167 a166
   refine wl_nil ?_
   exact then_n ⟨n + 1, ⟨hA169.as _ rfl, (hS107.blk_say (i := 0) rfl (by rw [candUpto_succ (by omega), show (2 * d.spread + 1).toNat = t by omega])), by omega⟩, by omega⟩
 ·skip
  rw [decide_eq_false hb78] at hA77
  refine c_false hA77 rfl ?_
  refine c_exit ?_
  refine then_exit ?_
  refine then_exit ?_
  refine blk_hit ?_
  refine then_n ?_
  refine c_seq ?_
  have hA170 := hA77.as [(10, (bptr b57 0)), (6, (bptr b9 0))] rfl; clear hA77
  refine c_region ?_
  refine st hA170 (op_loadA rfl ty_44 (hA170.ev rfl) (hS69.bk 0 rfl) (l := [(Value.int .i64 ((foldS (candUpto d l i ((lotsUpto d l (-1) 0 d.lots.length).getD (d.samples.getD i 0).toNat []) n)).1)), (Value.int .i64 ((foldS (candUpto d l i ((lotsUpto d l (-1) 0 d.lots.length).getD (d.samples.getD i 0).toNat []) n)).2))]) rfl rfl) rfl rfl (by decide) fun a171 hA172 => ?_; clear hA170 a76
  refine sts hA172 (op_store hS69 rfl ty_44 (hA172.ev rfl) (hA172.ev rfl) (i := 3) rfl (vs := [(Value.int .i64 ((foldS (candUpto d l i ((lotsUpto d l (-1) 0 d.lots.length).getD (d.samples.getD i 0).toNat []) n)).1)), (Value.int .i64 ((foldS (candUpto d l i ((lotsUpto d l (-1) 0 d.lots.length).getD (d.samples.getD i 0).toNat []) n)).2))]) rfl rfl rfl (Nat.le_of_ble_eq_true rfl)) rfl rfl ?_
  intro _ w173 hS174 hA175; clear hA172
  have hS176 : Sep NoB w w173 [(blk b57 44 [(Value.int .i64 ((foldS (candUpto d l i ((lotsUpto d l (-1) 0 d.lots.length).getD (d.samples.getD i 0).toNat []) n)).1)), (Value.int .i64 ((foldS (candUpto d l i ((lotsUpto d l (-1) 0 d.lots.length).getD (d.samples.getD i 0).toNat []) n)).2))]), (row u18 23 1 ov19.length ov19), (lstR ov19 (lotsUpto d l (-1) 0 d.lots.length)), (blk b9 44 [(Value.int .i64 ((foldS (candUpto d l i ((lotsUpto d l (-1) 0 d.lots.length).getD (d.samples.getD i 0).toNat []) n)).1)), (Value.int .i64 ((foldS (candUpto d l i ((lotsUpto d l (-1) 0 d.lots.length).getD (d.samples.getD i 0).toNat []) n)).2))]), (blk b4 26 [rl, rs, (Value.int .i64 d.spread), rb]), (sl xl 1 l.length (ints l)), (rndR false rl rs rb rlv d)] := hS174; clear hS174 hS69
  refine wl_nil ?_
  refine then_n ?_
  refine c_ret ?_
  refine fin_run hA175 (.inl rfl) (run_results1 hA175 rfl (.cellA rfl ty_44 (hS176.bk 3 rfl) (l := [(Value.int .i64 ((foldS (candUpto d l i ((lotsUpto d l (-1) 0 d.lots.length).getD (d.samples.getD i 0).toNat []) n)).1)), (Value.int .i64 ((foldS (candUpto d l i ((lotsUpto d l (-1) 0 d.lots.length).getD (d.samples.getD i 0).toNat []) n)).2))]) rfl rfl)) ?_
  have hv : ((lotsUpto d l (-1) 0 d.lots.length).getD (d.samples.getD i 0).toNat []) = lotVals d l (-1) 0 (lotOf d i) := lots_at hlo
  refine ⟨?_, hS176.ext⟩
  unfold refSpan; rw [← hv, show ((lotsUpto d l (-1) 0 d.lots.length).getD (d.samples.getD i 0).toNat []).length = n by omega]

end Go.Proofs.Ytfhmigoddaaljaa
