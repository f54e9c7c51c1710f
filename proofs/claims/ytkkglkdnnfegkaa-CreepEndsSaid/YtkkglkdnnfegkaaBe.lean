/-
  Rates of a list, as an array.
  Lists of rates: which they are; the ends of a stretch.
  Stretches as sums; segments that are cut; what all runs allow.
  Ranges of rates, stretches and lives, as bounds that are reached.
  The rates that are shown for an end of a stretch; lists that are cut.
-/
import Derived.Test.YtkkglkdnnfegkaaBd
import Derived.Test.YtkkglkdnnfegkaaEngb
set_option linter.unusedSimpArgs false
set_option linter.unusedVariables false
namespace Go.Proofs.Ytkkglkdnnfegkaa
open Go.RowKit Go.Shelf Go.Eng
set_option maxHeartbeats 1000000 in
theorem AreRates_ok (w : World) (R : List (Int × Int)) (vr : Value) (hm : SlAt w vr 2 R.length (pairs R)) (l : List Int) (xl : Value) (hxl : SlAt w xl 1 l.length (ints l)) (hR6 : R.length ≤ 1000000) :
  Calls Try.prog 35 #[(Value.agg #[vr]), xl] w (Ret fun v w' => v = .bool (areB R l) ∧ Ext NoB w w') := by
 refine calls_enter Try.func35 rfl fun a0 hA0 => ?_
 replace hA0 : Fr 52 [] [(0, (Value.agg #[vr])), (1, xl)] a0 := hA0
 have hS0 : Sep NoB w w [(sl xl 1 l.length (ints l)), (sl vr 2 R.length (pairs R))] := sep_ro ⟨rfl, hxl, rfl, hm, trivial⟩
 refine c_seq ?_
 refine c_region ?_
 refine stw hA0 (op_box hS0 rfl (hA0.ev rfl) (cs := [vr]) rfl) rfl rfl (by decide) ?_
 rintro a1 _ w3 ⟨b4, rfl, hS5⟩ hA2; clear hA0 hS0 a0
 refine st hA2 (op_assign rfl (evc _ _)) rfl rfl (by decide) fun a6 hA7 => ?_; clear hA2 a1
 refine wl_nil ?_
 refine then_n ?_
 refine c_seq ?_
 refine c_seq ?_
 refine c_region ?_
 refine st hA7 (op_move rfl (hA7.ev rfl)) rfl rfl (by decide) fun a8 hA9 => ?_; clear hA7 a6
 refine st hA9 (op_lenS rfl un_40 (hA9.ev rfl) (hS5.sk 1 rfl)) rfl rfl (by decide) fun a10 hA11 => ?_; clear hA9 a8
 refine st hA11 (op_field rfl fd_24_0 (hA11.ev rfl)) rfl rfl (by decide) fun a12 hA13 => ?_; clear hA11 a10
 refine st hA13 (op_load1 rfl ty_22 (hA13.ev rfl) (hS5.bk 0 rfl) rfl) rfl rfl (by decide) fun a14 hA15 => ?_; clear hA13 a12
 refine st hA15 (op_lenS rfl un_22 (hA15.ev rfl) (hS5.sk 2 rfl)) rfl rfl (by decide) fun a16 hA17 => ?_; clear hA15 a14
 refine st hA17 (op_neq rfl (hA17.ev rfl) (hA17.ev rfl)) rfl rfl (by decide) fun a18 hA19 => ?_; clear hA17 a16
 refine wl_nil ?_
 refine then_n ?_
 by_cases hb20 : (l.length : Int) = (R.length : Int)
 ·skip
  rw [decide_eq_true hb20] at hA19
  refine c_false hA19 rfl ?_
  refine c_skip ?_
  refine then_n ?_
  refine c_seq ?_
  refine c_seq ?_
  have hA21 := hA19.as [(2, (bptr b4 0)), (1, xl)] rfl; clear hA19
  refine c_region ?_
  refine st hA21 (op_assign rfl (evc _ _)) rfl rfl (by decide) fun a22 hA23 => ?_; clear hA21 a18
  refine wl_nil ?_
  refine then_n ?_
  refine c_block ?_
  have hA24 := hA23.as [(5, (Value.int .i64 0)), (2, (bptr b4 0)), (1, xl)] rfl; clear hA23
  refine c_loop (G := Nat) (fun (k : Nat) a_ w_ => Fr 52 [] [(5, (Value.int .i64 (k : Int))), (2, (bptr b4 0)), (1, xl)] a_ ∧ Sep NoB w w_ [(blk b4 24 [vr]), (sl xl 1 l.length (ints l)), (sl vr 2 R.length (pairs R))] ∧ (k ≤ l.length) ∧ (l.length = R.length) ∧ (∀ i, i < k → rateAt R l i = true)) (fun k => l.length - k) 0 ⟨hA24.as _ rfl, hS5, by omega, by omega, (fun _ h => absurd h (Nat.not_lt_zero _))⟩ ?_
  clear hA24 hS5 a22
  rintro k a25 w27 ⟨hA26, hS28, hkk, hln, hra_⟩
  refine c_seq ?_
  refine c_seq ?_
  refine c_region ?_
  refine st hA26 (op_move rfl (hA26.ev rfl)) rfl rfl (by decide) fun a29 hA30 => ?_; clear hA26 a25
  refine st hA30 (op_move rfl (hA30.ev rfl)) rfl rfl (by decide) fun a31 hA32 => ?_; clear hA30 a29
  refine st hA32 (op_lenS rfl un_40 (hA32.ev rfl) (hS28.sk 1 rfl)) rfl rfl (by decide) fun a33 hA34 => ?_; clear hA32 a31
  refine st hA34 (op_lss rfl (hA34.ev rfl) (hA34.ev rfl)) rfl rfl (by decide) fun a35 hA36 => ?_; clear hA34 a33
  refine wl_nil ?_
  refine then_n ?_
  by_cases hb37 : (k : Int) < (l.length : Int)
  ·skip
   rw [decide_eq_true hb37] at hA36
   refine c_true hA36 rfl ?_
   refine c_skip ?_
   refine then_n ?_
   refine c_seq ?_
   refine c_block ?_
   refine c_seq ?_
   have hA38 := hA36.as [(5, (Value.int .i64 (k : Int))), (2, (bptr b4 0)), (1, xl)] rfl; clear hA36
   rcases Bool.eq_false_or_eq_true ((decide (((R.getD k (0, 0)).1) ≤ (l.getD k 0)) && decide ((l.getD k 0) ≤ ((R.getD k (0, 0)).2)))) with hb40 | hb40
   ·skip
    have hq41 := hb40; simp only [Bool.and_eq_true, Bool.and_eq_false_iff, decide_eq_true_eq, decide_eq_false_iff_not] at hq41
    have hA42 := hA38.as [(5, (Value.int .i64 (k : Int))), (2, (bptr b4 0)), (1, xl)] rfl; clear hA38
    by_cases hb44 : 0 < (k : Int)
    ·skip
     have hA45 := hA42.as [(5, (Value.int .i64 (k : Int))), (2, (bptr b4 0)), (1, xl)] rfl; clear hA42
     refine c_drawV mixed hA45 hS28 31 [[], [], [0, 1], [2], [], [4], [], [5, 6], [7], [8], [], [10], [], [11, 12], [13], [14], [3, 9, 15], [16], [17], [18], [18, 19], [18, 20], [21], [21], [21, 22, 23], [21, 24], [21], [21], [21, 27], [21, 26, 28], [21, 29]] [(fun (vs46 : Nat → Value) (v_ : Value) (rs_ : List Res) => v_ = xl ∧ rs_ = []), (fun (vs46 : Nat → Value) (v_ : Value) (rs_ : List Res) => v_ = (Value.int .i64 (k : Int)) ∧ rs_ = []), (fun (vs46 : Nat → Value) (v_ : Value) (rs_ : List Res) => v_ = (eptr xl (k * 1)) ∧ rs_ = []), (fun (vs46 : Nat → Value) (v_ : Value) (rs_ : List Res) => v_ = (Value.int .i64 (l.getD k 0)) ∧ rs_ = []), (fun (vs46 : Nat → Value) (v_ : Value) (rs_ : List Res) => v_ = (bptr b4 0) ∧ rs_ = []), (fun (vs46 : Nat → Value) (v_ : Value) (rs_ : List Res) => v_ = vr ∧ rs_ = []), (fun (vs46 : Nat → Value) (v_ : Value) (rs_ : List Res) => v_ = (Value.int .i64 (k : Int)) ∧ rs_ = []), (fun (vs46 : Nat → Value) (v_ : Value) (rs_ : List Res) => v_ = (eptr vr (k * 2)) ∧ rs_ = []), (fun (vs46 : Nat → Value) (v_ : Value) (rs_ : List Res) => v_ = (eptr vr (k * 2 + 0)) ∧ rs_ = []), (fun (vs46 : Nat → Value) (v_ : Value) (rs_ : List Res) => v_ = (Value.int .i64 ((R.getD k (0, 0)).1)) ∧ rs_ = []), (fun (vs46 : Nat → Value) (v_ : Value) (rs_ : List Res) => v_ = (bptr b4 0) ∧ rs_ = []), (fun (vs46 : Nat → Value) (v_ : Value) (rs_ : List Res) => v_ = vr ∧ rs_ = []), (fun (vs46 : Nat → Value) (v_ : Value) (rs_ : List Res) => v_ = (Value.int .i64 (k : Int)) ∧ rs_ = []), (fun (vs46 : Nat → Value) (v_ : Value) (rs_ : List Res) => v_ = (eptr vr (k * 2)) ∧ rs_ = []), (fun (vs46 : Nat → Value) (v_ : Value) (rs_ : List Res) => v_ = (eptr vr (k * 2 + 1)) ∧ rs_ = []), (fun (vs46 : Nat → Value) (v_ : Value) (rs_ : List Res) => v_ = (Value.int .i64 ((R.getD k (0, 0)).2)) ∧ rs_ = []), (fun (vs46 : Nat → Value) (v_ : Value) (rs_ : List Res) => v_ = (Value.bool true) ∧ rs_ = []), (fun (vs46 : Nat → Value) (v_ : Value) (rs_ : List Res) => v_ = (Value.bool (!true)) ∧ rs_ = []), (fun (vs46 : Nat → Value) (v_ : Value) (rs_ : List Res) => v_ = (Value.bool (!true)) ∧ rs_ = []), (fun (vs46 : Nat → Value) (v_ : Value) (rs_ : List Res) => v_ = (Value.int .i64 (k : Int)) ∧ rs_ = []), (fun (vs46 : Nat → Value) (v_ : Value) (rs_ : List Res) => v_ = (Value.bool true) ∧ rs_ = []), (fun (vs46 : Nat → Value) (v_ : Value) (rs_ : List Res) => v_ = (Value.bool true) ∧ rs_ = []), (fun (vs46 : Nat → Value) (v_ : Value) (rs_ : List Res) => v_ = xl ∧ rs_ = []), (fun (vs46 : Nat → Value) (v_ : Value) (rs_ : List Res) => v_ = (Value.int .i64 (k : Int)) ∧ rs_ = []), (fun (vs46 : Nat → Value) (v_ : Value) (rs_ : List Res) => v_ = (eptr xl (k * 1)) ∧ rs_ = []), (fun (vs46 : Nat → Value) (v_ : Value) (rs_ : List Res) => v_ = (Value.int .i64 (l.getD k 0)) ∧ rs_ = []), (fun (vs46 : Nat → Value) (v_ : Value) (rs_ : List Res) => v_ = xl ∧ rs_ = []), (fun (vs46 : Nat → Value) (v_ : Value) (rs_ : List Res) => v_ = (Value.int .i64 (k : Int)) ∧ rs_ = []), (fun (vs46 : Nat → Value) (v_ : Value) (rs_ : List Res) => v_ = (Value.int .i64 ((k : Int) - 1)) ∧ rs_ = []), (fun (vs46 : Nat → Value) (v_ : Value) (rs_ : List Res) => v_ = (eptr xl (((k : Int) - 1).toNat * 1)) ∧ rs_ = []), (fun (vs46 : Nat → Value) (v_ : Value) (rs_ : List Res) => v_ = (Value.int .i64 (l.getD (((k : Int) - 1).toNat) 0)) ∧ rs_ = [])] (by decide +kernel) (by decide +kernel) rfl rfl ⟨(fun _ _ _ _ _ h_ => h_), (fun _ _ _ _ _ h_ => h_), (fun _ _ _ _ _ h_ => h_), (fun _ _ _ _ _ h_ => h_), (fun _ _ _ _ _ h_ => h_), (fun _ _ _ _ _ h_ => h_), (fun _ _ _ _ _ h_ => h_), (fun _ _ _ _ _ h_ => h_), (fun _ _ _ _ _ h_ => h_), (fun _ _ _ _ _ h_ => h_), (fun _ _ _ _ _ h_ => h_), (fun _ _ _ _ _ h_ => h_), (fun _ _ _ _ _ h_ => h_), (fun _ _ _ _ _ h_ => h_), (fun _ _ _ _ _ h_ => h_), (fun _ _ _ _ _ h_ => h_), (fun _ _ _ _ _ h_ => h_), (fun _ _ _ _ _ h_ => h_), (fun _ _ _ _ _ h_ => h_), (fun _ _ _ _ _ h_ => h_), (fun _ _ _ _ _ h_ => h_), (fun _ _ _ _ _ h_ => h_), (fun _ _ _ _ _ h_ => h_), (fun _ _ _ _ _ h_ => h_), (fun _ _ _ _ _ h_ => h_), (fun _ _ _ _ _ h_ => h_), (fun _ _ _ _ _ h_ => h_), (fun _ _ _ _ _ h_ => h_), (fun _ _ _ _ _ h_ => h_), (fun _ _ _ _ _ h_ => h_), (fun _ _ _ _ _ h_ => h_), trivial⟩ ?_ ?_
     ·skip
      refine ⟨fun a w vs46 hA hS hd => ?_, ?_⟩
      ·skip
       exact opG_of rfl (vv (op_move rfl (hA.ev rfl)) (And.intro rfl rfl))
      refine ⟨fun a w vs46 hA hS hd => ?_, ?_⟩
      ·skip
       exact opG_of rfl (vv (op_move rfl (hA.ev rfl)) (And.intro rfl rfl))
      refine ⟨fun a w vs46 hA hS hd => ?_, ?_⟩
      ·skip
       obtain ⟨e0, rs0, hy0, hp0⟩ := hd 0 (by decide)
       obtain ⟨hv0, hr0⟩ := hy0; subst hr0
       rw [hv0] at e0
       obtain ⟨e1, rs1, hy1, hp1⟩ := hd 1 (by decide)
       obtain ⟨hv1, hr1⟩ := hy1; subst hr1
       rw [hv1] at e1
       exact opG_of rfl (vv (op_indexS rfl un_40 ty_3 (tmp_ev (slot_ev e0 rfl)) (i := k) (tmp_ev (slot_ev e1 rfl)) (hS.sk 1 rfl) (by decide) (by omega)) (And.intro rfl rfl))
      refine ⟨fun a w vs46 hA hS hd => ?_, ?_⟩
      ·skip
       obtain ⟨e2, rs2, hy2, hp2⟩ := hd 2 (by decide)
       obtain ⟨hv2, hr2⟩ := hy2; subst hr2
       rw [hv2] at e2
       exact opG_of rfl (vv (op_load1E rfl ty_3 (tmp_ev (slot_ev e2 rfl)) (hS.sk 1 rfl) (ints_at (by omega))) (And.intro rfl rfl))
      refine ⟨fun a w vs46 hA hS hd => ?_, ?_⟩
      ·skip
       exact opG_of rfl (vv (op_field rfl fd_24_0 (hA.ev rfl)) (And.intro rfl rfl))
      refine ⟨fun a w vs46 hA hS hd => ?_, ?_⟩
      ·skip
       obtain ⟨e4, rs4, hy4, hp4⟩ := hd 4 (by decide)
       obtain ⟨hv4, hr4⟩ := hy4; subst hr4
       rw [hv4] at e4
       exact opG_of rfl (vv (op_load1 rfl ty_22 (tmp_ev (slot_ev e4 rfl)) (hS.bk 0 rfl) rfl) (And.intro rfl rfl))
      refine ⟨fun a w vs46 hA hS hd => ?_, ?_⟩
      ·skip
       exact opG_of rfl (vv (op_move rfl (hA.ev rfl)) (And.intro rfl rfl))
      refine ⟨fun a w vs46 hA hS hd => ?_, ?_⟩
      ·skip
       obtain ⟨e5, rs5, hy5, hp5⟩ := hd 5 (by decide)
       obtain ⟨hv5, hr5⟩ := hy5; subst hr5
       rw [hv5] at e5
       obtain ⟨e6, rs6, hy6, hp6⟩ := hd 6 (by decide)
       obtain ⟨hv6, hr6⟩ := hy6; subst hr6
       rw [hv6] at e6
       exact opG_of rfl (vv (op_indexS rfl un_22 ty_48 (tmp_ev (slot_ev e5 rfl)) (i := k) (tmp_ev (slot_ev e6 rfl)) (hS.sk 2 rfl) (by decide) (by omega)) (And.intro rfl rfl))
      refine ⟨fun a w vs46 hA hS hd => ?_, ?_⟩
      ·skip
       obtain ⟨e7, rs7, hy7, hp7⟩ := hd 7 (by decide)
       obtain ⟨hv7, hr7⟩ := hy7; subst hr7
       rw [hv7] at e7
       exact opG_of rfl (vv (op_fieldS rfl fd_48_0 (tmp_ev (slot_ev e7 rfl)) (hS.sk 2 rfl) (by rw [((hS.sk 2 rfl)).1]; omega)) (And.intro rfl rfl))
      refine ⟨fun a w vs46 hA hS hd => ?_, ?_⟩
      ·skip
       obtain ⟨e8, rs8, hy8, hp8⟩ := hd 8 (by decide)
       obtain ⟨hv8, hr8⟩ := hy8; subst hr8
       rw [hv8] at e8
       exact opG_of rfl (vv (op_load1E rfl ty_3 (tmp_ev (slot_ev e8 rfl)) (hS.sk 2 rfl) (pairs_at0 (by omega))) (And.intro rfl rfl))
      refine ⟨fun a w vs46 hA hS hd => ?_, ?_⟩
      ·skip
       exact opG_of rfl (vv (op_field rfl fd_24_0 (hA.ev rfl)) (And.intro rfl rfl))
      refine ⟨fun a w vs46 hA hS hd => ?_, ?_⟩
      ·skip
       obtain ⟨e10, rs10, hy10, hp10⟩ := hd 10 (by decide)
       obtain ⟨hv10, hr10⟩ := hy10; subst hr10
       rw [hv10] at e10
       exact opG_of rfl (vv (op_load1 rfl ty_22 (tmp_ev (slot_ev e10 rfl)) (hS.bk 0 rfl) rfl) (And.intro rfl rfl))
      refine ⟨fun a w vs46 hA hS hd => ?_, ?_⟩
      ·skip
       exact opG_of rfl (vv (op_move rfl (hA.ev rfl)) (And.intro rfl rfl))
      refine ⟨fun a w vs46 hA hS hd => ?_, ?_⟩
      ·skip
       obtain ⟨e11, rs11, hy11, hp11⟩ := hd 11 (by decide)
       obtain ⟨hv11, hr11⟩ := hy11; subst hr11
       rw [hv11] at e11
       obtain ⟨e12, rs12, hy12, hp12⟩ := hd 12 (by decide)
       obtain ⟨hv12, hr12⟩ := hy12; subst hr12
       rw [hv12] at e12
       exact opG_of rfl (vv (op_indexS rfl un_22 ty_48 (tmp_ev (slot_ev e11 rfl)) (i := k) (tmp_ev (slot_ev e12 rfl)) (hS.sk 2 rfl) (by decide) (by omega)) (And.intro rfl rfl))
      refine ⟨fun a w vs46 hA hS hd => ?_, ?_⟩
      ·skip
       obtain ⟨e13, rs13, hy13, hp13⟩ := hd 13 (by decide)
       obtain ⟨hv13, hr13⟩ := hy13; subst hr13
       rw [hv13] at e13
       exact opG_of rfl (vv (op_fieldS rfl fd_48_1 (tmp_ev (slot_ev e13 rfl)) (hS.sk 2 rfl) (by rw [((hS.sk 2 rfl)).1]; omega)) (And.intro rfl rfl))
      refine ⟨fun a w vs46 hA hS hd => ?_, ?_⟩
      ·skip
       obtain ⟨e14, rs14, hy14, hp14⟩ := hd 14 (by decide)
       obtain ⟨hv14, hr14⟩ := hy14; subst hr14
       rw [hv14] at e14
       exact opG_of rfl (vv (op_load1E rfl ty_3 (tmp_ev (slot_ev e14 rfl)) (hS.sk 2 rfl) (pairs_at1 (by omega))) (And.intro rfl rfl))
      refine ⟨fun a w vs46 hA hS hd => ?_, ?_⟩
      ·skip
       obtain ⟨e3, rs3, hy3, hp3⟩ := hd 3 (by decide)
       obtain ⟨hv3, hr3⟩ := hy3; subst hr3
       rw [hv3] at e3
       obtain ⟨e9, rs9, hy9, hp9⟩ := hd 9 (by decide)
       obtain ⟨hv9, hr9⟩ := hy9; subst hr9
       rw [hv9] at e9
       obtain ⟨e15, rs15, hy15, hp15⟩ := hd 15 (by decide)
       obtain ⟨hv15, hr15⟩ := hy15; subst hr15
       rw [hv15] at e15
       exact opG_of rfl (vv (op_call rfl en_24 (ev3 (tmp_ev (slot_ev e3 rfl)) (tmp_ev (slot_ev e9 rfl)) (tmp_ev (slot_ev e15 rfl))) (In_ok _ _ _ _)) (And.intro (by show Value.bool _ = _; simp only [hb40, decide_true, decide_false, Bool.not_true, Bool.not_false]) rfl))
      refine ⟨fun a w vs46 hA hS hd => ?_, ?_⟩
      ·skip
       obtain ⟨e16, rs16, hy16, hp16⟩ := hd 16 (by decide)
       obtain ⟨hv16, hr16⟩ := hy16; subst hr16
       rw [hv16] at e16
       exact opG_of rfl (vv (op_not rfl (tmp_ev (slot_ev e16 rfl))) (And.intro rfl rfl))
      refine ⟨fun a w vs46 hA hS hd => ?_, ?_⟩
      ·skip
       obtain ⟨e17, rs17, hy17, hp17⟩ := hd 17 (by decide)
       obtain ⟨hv17, hr17⟩ := hy17; subst hr17
       rw [hv17] at e17
       exact opG_of rfl (vv (op_move rfl (tmp_ev (slot_ev e17 rfl))) (And.intro rfl rfl))
      refine ⟨fun a w vs46 hA hS hd => ?_, ?_⟩
      ·skip
       obtain ⟨e18, rs18, hy18, hp18⟩ := hd 18 (by decide)
       obtain ⟨hv18, hr18⟩ := hy18; subst hr18
       rw [hv18] at e18
       exact opG_yes rfl rfl (slot_ev e18 rfl) (vv (op_move rfl (hA.ev rfl)) (And.intro rfl rfl))
      refine ⟨fun a w vs46 hA hS hd => ?_, ?_⟩
      ·skip
       obtain ⟨e18, rs18, hy18, hp18⟩ := hd 18 (by decide)
       obtain ⟨hv18, hr18⟩ := hy18; subst hr18
       rw [hv18] at e18
       obtain ⟨e19, rs19, hy19, hp19⟩ := hd 19 (by decide)
       obtain ⟨hv19, hr19⟩ := hy19; subst hr19
       rw [hv19] at e19
       exact opG_yes rfl rfl (slot_ev e18 rfl) (vv (op_gtr rfl (tmp_ev (slot_ev e19 rfl)) (evc _ _)) (And.intro (by show Value.bool _ = _; simp only [decide_eq_true hb44, decide_true, decide_false, Bool.not_true, Bool.not_false]) rfl))
      refine ⟨fun a w vs46 hA hS hd => ?_, ?_⟩
      ·skip
       obtain ⟨e18, rs18, hy18, hp18⟩ := hd 18 (by decide)
       obtain ⟨hv18, hr18⟩ := hy18; subst hr18
       rw [hv18] at e18
       obtain ⟨e20, rs20, hy20, hp20⟩ := hd 20 (by decide)
       obtain ⟨hv20, hr20⟩ := hy20; subst hr20
       rw [hv20] at e20
       exact opG_yes rfl rfl (slot_ev e18 rfl) (vv (op_move rfl (tmp_ev (slot_ev e20 rfl))) (And.intro rfl rfl))
      refine ⟨fun a w vs46 hA hS hd => ?_, ?_⟩
      ·skip
       obtain ⟨e21, rs21, hy21, hp21⟩ := hd 21 (by decide)
       obtain ⟨hv21, hr21⟩ := hy21; subst hr21
       rw [hv21] at e21
       exact opG_yes rfl rfl (slot_ev e21 rfl) (vv (op_move rfl (hA.ev rfl)) (And.intro rfl rfl))
      refine ⟨fun a w vs46 hA hS hd => ?_, ?_⟩
      ·skip
       obtain ⟨e21, rs21, hy21, hp21⟩ := hd 21 (by decide)
       obtain ⟨hv21, hr21⟩ := hy21; subst hr21
       rw [hv21] at e21
       exact opG_yes rfl rfl (slot_ev e21 rfl) (vv (op_move rfl (hA.ev rfl)) (And.intro rfl rfl))
      refine ⟨fun a w vs46 hA hS hd => ?_, ?_⟩
      ·skip
       obtain ⟨e21, rs21, hy21, hp21⟩ := hd 21 (by decide)
       obtain ⟨hv21, hr21⟩ := hy21; subst hr21
       rw [hv21] at e21
       obtain ⟨e22, rs22, hy22, hp22⟩ := hd 22 (by decide)
       obtain ⟨hv22, hr22⟩ := hy22; subst hr22
       rw [hv22] at e22
       obtain ⟨e23, rs23, hy23, hp23⟩ := hd 23 (by decide)
       obtain ⟨hv23, hr23⟩ := hy23; subst hr23
       rw [hv23] at e23
       exact opG_yes rfl rfl (slot_ev e21 rfl) (vv (op_indexS rfl un_40 ty_3 (tmp_ev (slot_ev e22 rfl)) (i := k) (tmp_ev (slot_ev e23 rfl)) (hS.sk 1 rfl) (by decide) (by omega)) (And.intro rfl rfl))
      refine ⟨fun a w vs46 hA hS hd => ?_, ?_⟩
      ·skip
       obtain ⟨e21, rs21, hy21, hp21⟩ := hd 21 (by decide)
       obtain ⟨hv21, hr21⟩ := hy21; subst hr21
       rw [hv21] at e21
       obtain ⟨e24, rs24, hy24, hp24⟩ := hd 24 (by decide)
       obtain ⟨hv24, hr24⟩ := hy24; subst hr24
       rw [hv24] at e24
       exact opG_yes rfl rfl (slot_ev e21 rfl) (vv (op_load1E rfl ty_3 (tmp_ev (slot_ev e24 rfl)) (hS.sk 1 rfl) (ints_at (by omega))) (And.intro rfl rfl))
      refine ⟨fun a w vs46 hA hS hd => ?_, ?_⟩
      ·skip
       obtain ⟨e21, rs21, hy21, hp21⟩ := hd 21 (by decide)
       obtain ⟨hv21, hr21⟩ := hy21; subst hr21
       rw [hv21] at e21
       exact opG_yes rfl rfl (slot_ev e21 rfl) (vv (op_move rfl (hA.ev rfl)) (And.intro rfl rfl))
      refine ⟨fun a w vs46 hA hS hd => ?_, ?_⟩
      ·skip
       obtain ⟨e21, rs21, hy21, hp21⟩ := hd 21 (by decide)
       obtain ⟨hv21, hr21⟩ := hy21; subst hr21
       rw [hv21] at e21
       exact opG_yes rfl rfl (slot_ev e21 rfl) (vv (op_move rfl (hA.ev rfl)) (And.intro rfl rfl))
      refine ⟨fun a w vs46 hA hS hd => ?_, ?_⟩
      ·skip
       obtain ⟨e21, rs21, hy21, hp21⟩ := hd 21 (by decide)
       obtain ⟨hv21, hr21⟩ := hy21; subst hr21
       rw [hv21] at e21
       obtain ⟨e27, rs27, hy27, hp27⟩ := hd 27 (by decide)
       obtain ⟨hv27, hr27⟩ := hy27; subst hr27
       rw [hv27] at e27
       exact opG_yes rfl rfl (slot_ev e21 rfl) (vv (op_sub rfl (tmp_ev (slot_ev e27 rfl)) (evc _ _) (by omega) (by omega)) (And.intro rfl rfl))
      refine ⟨fun a w vs46 hA hS hd => ?_, ?_⟩
      ·skip
       obtain ⟨e21, rs21, hy21, hp21⟩ := hd 21 (by decide)
       obtain ⟨hv21, hr21⟩ := hy21; subst hr21
       rw [hv21] at e21
       obtain ⟨e26, rs26, hy26, hp26⟩ := hd 26 (by decide)
       obtain ⟨hv26, hr26⟩ := hy26; subst hr26
       rw [hv26] at e26
       obtain ⟨e28, rs28, hy28, hp28⟩ := hd 28 (by decide)
       obtain ⟨hv28, hr28⟩ := hy28; subst hr28
       rw [hv28] at e28
       exact opG_yes rfl rfl (slot_ev e21 rfl) (vv (op_indexS rfl un_40 ty_3 (tmp_ev (slot_ev e26 rfl)) (i := ((k : Int) - 1).toNat) ((tmp_ev (slot_ev e28 rfl)).trans (int_nat (by omega))) (hS.sk 1 rfl) (by decide) (by omega)) (And.intro rfl rfl))
      refine ⟨fun a w vs46 hA hS hd => ?_, ?_⟩
      ·skip
       obtain ⟨e21, rs21, hy21, hp21⟩ := hd 21 (by decide)
       obtain ⟨hv21, hr21⟩ := hy21; subst hr21
       rw [hv21] at e21
       obtain ⟨e29, rs29, hy29, hp29⟩ := hd 29 (by decide)
       obtain ⟨hv29, hr29⟩ := hy29; subst hr29
       rw [hv29] at e29
       exact opG_yes rfl rfl (slot_ev e21 rfl) (vv (op_load1E rfl ty_3 (tmp_ev (slot_ev e29 rfl)) (hS.sk 1 rfl) (ints_at (by omega))) (And.intro rfl rfl))
      trivial
     intro a47 w48 vs46 rsf52 hA49 hH51 hS50; clear hA45 hS28
     obtain ⟨hs_0, hy_0⟩ := hH51 0 (by decide)
     obtain ⟨hv_0, hr_0⟩ := hy_0
     obtain ⟨hs_1, hy_1⟩ := hH51 1 (by decide)
     obtain ⟨hv_1, hr_1⟩ := hy_1
     obtain ⟨hs_2, hy_2⟩ := hH51 2 (by decide)
     obtain ⟨hv_2, hr_2⟩ := hy_2
     obtain ⟨hs_3, hy_3⟩ := hH51 3 (by decide)
     obtain ⟨hv_3, hr_3⟩ := hy_3
     obtain ⟨hs_4, hy_4⟩ := hH51 4 (by decide)
     obtain ⟨hv_4, hr_4⟩ := hy_4
     obtain ⟨hs_5, hy_5⟩ := hH51 5 (by decide)
     obtain ⟨hv_5, hr_5⟩ := hy_5
     obtain ⟨hs_6, hy_6⟩ := hH51 6 (by decide)
     obtain ⟨hv_6, hr_6⟩ := hy_6
     obtain ⟨hs_7, hy_7⟩ := hH51 7 (by decide)
     obtain ⟨hv_7, hr_7⟩ := hy_7
     obtain ⟨hs_8, hy_8⟩ := hH51 8 (by decide)
     obtain ⟨hv_8, hr_8⟩ := hy_8
     obtain ⟨hs_9, hy_9⟩ := hH51 9 (by decide)
     obtain ⟨hv_9, hr_9⟩ := hy_9
     obtain ⟨hs_10, hy_10⟩ := hH51 10 (by decide)
     obtain ⟨hv_10, hr_10⟩ := hy_10
     obtain ⟨hs_11, hy_11⟩ := hH51 11 (by decide)
     obtain ⟨hv_11, hr_11⟩ := hy_11
     obtain ⟨hs_12, hy_12⟩ := hH51 12 (by decide)
     obtain ⟨hv_12, hr_12⟩ := hy_12
     obtain ⟨hs_13, hy_13⟩ := hH51 13 (by decide)
     obtain ⟨hv_13, hr_13⟩ := hy_13
     obtain ⟨hs_14, hy_14⟩ := hH51 14 (by decide)
     obtain ⟨hv_14, hr_14⟩ := hy_14
     obtain ⟨hs_15, hy_15⟩ := hH51 15 (by decide)
     obtain ⟨hv_15, hr_15⟩ := hy_15
     obtain ⟨hs_16, hy_16⟩ := hH51 16 (by decide)
     obtain ⟨hv_16, hr_16⟩ := hy_16
     obtain ⟨hs_17, hy_17⟩ := hH51 17 (by decide)
     obtain ⟨hv_17, hr_17⟩ := hy_17
     obtain ⟨hs_18, hy_18⟩ := hH51 18 (by decide)
     obtain ⟨hv_18, hr_18⟩ := hy_18
     obtain ⟨hs_19, hy_19⟩ := hH51 19 (by decide)
     obtain ⟨hv_19, hr_19⟩ := hy_19
     obtain ⟨hs_20, hy_20⟩ := hH51 20 (by decide)
     obtain ⟨hv_20, hr_20⟩ := hy_20
     obtain ⟨hs_21, hy_21⟩ := hH51 21 (by decide)
     obtain ⟨hv_21, hr_21⟩ := hy_21
     obtain ⟨hs_22, hy_22⟩ := hH51 22 (by decide)
     obtain ⟨hv_22, hr_22⟩ := hy_22
     obtain ⟨hs_23, hy_23⟩ := hH51 23 (by decide)
     obtain ⟨hv_23, hr_23⟩ := hy_23
     obtain ⟨hs_24, hy_24⟩ := hH51 24 (by decide)
     obtain ⟨hv_24, hr_24⟩ := hy_24
     obtain ⟨hs_25, hy_25⟩ := hH51 25 (by decide)
     obtain ⟨hv_25, hr_25⟩ := hy_25
     obtain ⟨hs_26, hy_26⟩ := hH51 26 (by decide)
     obtain ⟨hv_26, hr_26⟩ := hy_26
     obtain ⟨hs_27, hy_27⟩ := hH51 27 (by decide)
     obtain ⟨hv_27, hr_27⟩ := hy_27
     obtain ⟨hs_28, hy_28⟩ := hH51 28 (by decide)
     obtain ⟨hv_28, hr_28⟩ := hy_28
     obtain ⟨hs_29, hy_29⟩ := hH51 29 (by decide)
     obtain ⟨hv_29, hr_29⟩ := hy_29
     obtain ⟨hs_30, hy_30⟩ := hH51 30 (by decide)
     obtain ⟨hv_30, hr_30⟩ := hy_30
     have hS53 : Sep NoB w w48 [(blk b4 24 [vr]), (sl xl 1 l.length (ints l)), (sl vr 2 R.length (pairs R))] := by rw [show catR rsf52 0 31 = ([] : List Res) by (try simp only [catR, hr_0, hr_1, hr_2, hr_3, hr_4, hr_5, hr_6, hr_7, hr_8, hr_9, hr_10, hr_11, hr_12, hr_13, hr_14, hr_15, hr_16, hr_17, hr_18, hr_19, hr_20, hr_21, hr_22, hr_23, hr_24, hr_25, hr_26, hr_27, hr_28, hr_29, hr_30]); (try rfl)] at hS50; exact hS50
     rw [hv_18] at hs_18
     have hA54 : Fr 52 [] [(36, (Value.bool (!true))), (5, (Value.int .i64 (k : Int))), (2, (bptr b4 0)), (1, xl)] a47 := hA49.add (slot_ev hs_18 rfl); clear hA49
     rw [hv_21] at hs_21
     have hA55 : Fr 52 [] [(39, (Value.bool true)), (36, (Value.bool (!true))), (5, (Value.int .i64 (k : Int))), (2, (bptr b4 0)), (1, xl)] a47 := hA54.add (slot_ev hs_21 rfl); clear hA54
     rw [hv_25] at hs_25
     have hA56 : Fr 52 [] [(43, (Value.int .i64 (l.getD k 0))), (39, (Value.bool true)), (36, (Value.bool (!true))), (5, (Value.int .i64 (k : Int))), (2, (bptr b4 0)), (1, xl)] a47 := hA55.add (slot_ev hs_25 rfl); clear hA55
     rw [hv_30] at hs_30
     have hA57 : Fr 52 [] [(48, (Value.int .i64 (l.getD (((k : Int) - 1).toNat) 0))), (43, (Value.int .i64 (l.getD k 0))), (39, (Value.bool true)), (36, (Value.bool (!true))), (5, (Value.int .i64 (k : Int))), (2, (bptr b4 0)), (1, xl)] a47 := hA56.add (slot_ev hs_30 rfl); clear hA56
     clear hH51 hS50 hs_0 hs_1 hs_2 hs_3 hs_4 hs_5 hs_6 hs_7 hs_8 hs_9 hs_10 hs_11 hs_12 hs_13 hs_14 hs_15 hs_16 hs_17 hs_18 hs_19 hs_20 hs_21 hs_22 hs_23 hs_24 hs_25 hs_26 hs_27 hs_28 hs_29 hs_30
     clear hr_0
     clear hv_0
     clear hr_1
     clear hv_1
     clear hr_2
     clear hv_2
     clear hr_3
     clear hv_3
     clear hr_4
     clear hv_4
     clear hr_5
     clear hv_5
     clear hr_6
     clear hv_6
     clear hr_7
     clear hv_7
     clear hr_8
     clear hv_8
     clear hr_9
     clear hv_9
     clear hr_10
     clear hv_10
     clear hr_11
     clear hv_11
     clear hr_12
     clear hv_12
     clear hr_13
     clear hv_13
     clear hr_14
     clear hv_14
     clear hr_15
     clear hv_15
     clear hr_16
     clear hv_16
     clear hr_17
     clear hv_17
     clear hr_18
     clear hv_18
     clear hr_19
     clear hv_19
     clear hr_20
     clear hv_20
     clear hr_21
     clear hv_21
     clear hr_22
     clear hv_22
     clear hr_23
     clear hv_23
     clear hr_24
     clear hv_24
     clear hr_25
     clear hv_25
     clear hr_26
     clear hv_26
     clear hr_27
     clear hv_27
     clear hr_28
     clear hv_28
     clear hr_29
     clear hv_29
     clear hr_30
     clear hv_30
     refine stg hA57 (op_lss rfl (hA57.ev rfl) (hA57.ev rfl)) rfl rfl rfl rfl (by decide) fun a58 hA59 => ?_; clear hA57 a47
     refine stg hA59 (op_pick_t rfl (hA59.ev rfl) (hA59.ev rfl)) rfl rfl rfl rfl (by decide) fun a60 hA61 => ?_; clear hA59 a58
     refine st hA61 (op_pick_f rfl (hA61.ev rfl) (hA61.ev rfl)) rfl rfl (by decide) fun a62 hA63 => ?_; clear hA61 a60
     refine wl_nil ?_
     refine then_n ?_
     by_cases hb64 : (l.getD k 0) < (l.getD (((k : Int) - 1).toNat) 0)
     ·skip
      rw [decide_eq_true hb64] at hA63
      refine c_true hA63 rfl ?_
      refine c_seq ?_
      have hA65 := hA63.as [] rfl; clear hA63
      refine c_region ?_
      refine st hA65 (op_assign rfl (evc _ _)) rfl rfl (by decide) fun a66 hA67 => ?_; clear hA65 a62
      refine wl_nil ?_
      refine then_n ?_
      refine c_ret ?_
      refine blk_ret ?_
      refine then_ret ?_
      refine then_ret ?_
      refine blk_ret ?_
      refine then_ret ?_
      refine fin_run hA67 (.inl rfl) (run_results1 hA67 rfl (.tmp rfl)) ?_
      exact ⟨congrArg Value.bool (Eq.symm (by first | exact areB_len (by omega) | exact areB_no (k := k) (by omega) (rateAt_n1 (by omega)) | exact areB_no (k := k) (by omega) (rateAt_n2 (by omega) (by assumption)))), hS53.ext⟩
     ·skip
      rw [decide_eq_false hb64] at hA63
      refine c_false hA63 rfl ?_
      refine c_skip ?_
      refine blk_n ?_
      refine then_n ?_
      have hA68 := hA63.as [(5, (Value.int .i64 (k : Int))), (2, (bptr b4 0)), (1, xl)] rfl; clear hA63
      refine c_region ?_
      refine st hA68 (op_move rfl (hA68.ev rfl)) rfl rfl (by decide) fun a69 hA70 => ?_; clear hA68 a62
      refine st hA70 (op_add rfl (hA70.ev rfl) (evc _ _) (by omega) (by omega)) rfl rfl (by decide) fun a71 hA72 => ?_; clear hA70 a69
      refine st hA72 (op_assign rfl (hA72.ev rfl)) rfl rfl (by decide) fun a73 hA74 => ?_; clear hA72 a71
      refine wl_nil ?_
      exact then_n ⟨k + 1, ⟨hA74.as _ rfl, hS53, by omega, hln, (fun i hi => by rcases Nat.lt_succ_iff_lt_or_eq.1 hi with h | h; exact hra_ i h; subst h; exact rateAt_y1 (by omega) (by first | exact .inr (.inr (by assumption)) | exact .inr (.inl (by omega))))⟩, by omega⟩
    ·skip
     have hA75 := hA42.as [(5, (Value.int .i64 (k : Int))), (2, (bptr b4 0)), (1, xl)] rfl; clear hA42
     refine c_drawV mixed hA75 hS28 31 [[], [], [0, 1], [2], [], [4], [], [5, 6], [7], [8], [], [10], [], [11, 12], [13], [14], [3, 9, 15], [16], [17], [18], [18, 19], [18, 20], [21], [21], [21, 22, 23], [21, 24], [21], [21], [21, 27], [21, 26, 28], [21, 29]] [(fun (vs76 : Nat → Value) (v_ : Value) (rs_ : List Res) => v_ = xl ∧ rs_ = []), (fun (vs76 : Nat → Value) (v_ : Value) (rs_ : List Res) => v_ = (Value.int .i64 (k : Int)) ∧ rs_ = []), (fun (vs76 : Nat → Value) (v_ : Value) (rs_ : List Res) => v_ = (eptr xl (k * 1)) ∧ rs_ = []), (fun (vs76 : Nat → Value) (v_ : Value) (rs_ : List Res) => v_ = (Value.int .i64 (l.getD k 0)) ∧ rs_ = []), (fun (vs76 : Nat → Value) (v_ : Value) (rs_ : List Res) => v_ = (bptr b4 0) ∧ rs_ = []), (fun (vs76 : Nat → Value) (v_ : Value) (rs_ : List Res) => v_ = vr ∧ rs_ = []), (fun (vs76 : Nat → Value) (v_ : Value) (rs_ : List Res) => v_ = (Value.int .i64 (k : Int)) ∧ rs_ = []), (fun (vs76 : Nat → Value) (v_ : Value) (rs_ : List Res) => v_ = (eptr vr (k * 2)) ∧ rs_ = []), (fun (vs76 : Nat → Value) (v_ : Value) (rs_ : List Res) => v_ = (eptr vr (k * 2 + 0)) ∧ rs_ = []), (fun (vs76 : Nat → Value) (v_ : Value) (rs_ : List Res) => v_ = (Value.int .i64 ((R.getD k (0, 0)).1)) ∧ rs_ = []), (fun (vs76 : Nat → Value) (v_ : Value) (rs_ : List Res) => v_ = (bptr b4 0) ∧ rs_ = []), (fun (vs76 : Nat → Value) (v_ : Value) (rs_ : List Res) => v_ = vr ∧ rs_ = []), (fun (vs76 : Nat → Value) (v_ : Value) (rs_ : List Res) => v_ = (Value.int .i64 (k : Int)) ∧ rs_ = []), (fun (vs76 : Nat → Value) (v_ : Value) (rs_ : List Res) => v_ = (eptr vr (k * 2)) ∧ rs_ = []), (fun (vs76 : Nat → Value) (v_ : Value) (rs_ : List Res) => v_ = (eptr vr (k * 2 + 1)) ∧ rs_ = []), (fun (vs76 : Nat → Value) (v_ : Value) (rs_ : List Res) => v_ = (Value.int .i64 ((R.getD k (0, 0)).2)) ∧ rs_ = []), (fun (vs76 : Nat → Value) (v_ : Value) (rs_ : List Res) => v_ = (Value.bool true) ∧ rs_ = []), (fun (vs76 : Nat → Value) (v_ : Value) (rs_ : List Res) => v_ = (Value.bool (!true)) ∧ rs_ = []), (fun (vs76 : Nat → Value) (v_ : Value) (rs_ : List Res) => v_ = (Value.bool (!true)) ∧ rs_ = []), (fun (vs76 : Nat → Value) (v_ : Value) (rs_ : List Res) => v_ = (Value.int .i64 (k : Int)) ∧ rs_ = []), (fun (vs76 : Nat → Value) (v_ : Value) (rs_ : List Res) => v_ = (Value.bool false) ∧ rs_ = []), (fun (vs76 : Nat → Value) (v_ : Value) (rs_ : List Res) => v_ = (Value.bool false) ∧ rs_ = []), (fun (vs76 : Nat → Value) (v_ : Value) (rs_ : List Res) => v_ = undef ∧ rs_ = []), (fun (vs76 : Nat → Value) (v_ : Value) (rs_ : List Res) => v_ = undef ∧ rs_ = []), (fun (vs76 : Nat → Value) (v_ : Value) (rs_ : List Res) => v_ = undef ∧ rs_ = []), (fun (vs76 : Nat → Value) (v_ : Value) (rs_ : List Res) => v_ = undef ∧ rs_ = []), (fun (vs76 : Nat → Value) (v_ : Value) (rs_ : List Res) => v_ = undef ∧ rs_ = []), (fun (vs76 : Nat → Value) (v_ : Value) (rs_ : List Res) => v_ = undef ∧ rs_ = []), (fun (vs76 : Nat → Value) (v_ : Value) (rs_ : List Res) => v_ = undef ∧ rs_ = []), (fun (vs76 : Nat → Value) (v_ : Value) (rs_ : List Res) => v_ = undef ∧ rs_ = []), (fun (vs76 : Nat → Value) (v_ : Value) (rs_ : List Res) => v_ = undef ∧ rs_ = [])] (by decide +kernel) (by decide +kernel) rfl rfl ⟨(fun _ _ _ _ _ h_ => h_), (fun _ _ _ _ _ h_ => h_), (fun _ _ _ _ _ h_ => h_), (fun _ _ _ _ _ h_ => h_), (fun _ _ _ _ _ h_ => h_), (fun _ _ _ _ _ h_ => h_), (fun _ _ _ _ _ h_ => h_), (fun _ _ _ _ _ h_ => h_), (fun _ _ _ _ _ h_ => h_), (fun _ _ _ _ _ h_ => h_), (fun _ _ _ _ _ h_ => h_), (fun _ _ _ _ _ h_ => h_), (fun _ _ _ _ _ h_ => h_), (fun _ _ _ _ _ h_ => h_), (fun _ _ _ _ _ h_ => h_), (fun _ _ _ _ _ h_ => h_), (fun _ _ _ _ _ h_ => h_), (fun _ _ _ _ _ h_ => h_), (fun _ _ _ _ _ h_ => h_), (fun _ _ _ _ _ h_ => h_), (fun _ _ _ _ _ h_ => h_), (fun _ _ _ _ _ h_ => h_), (fun _ _ _ _ _ h_ => h_), (fun _ _ _ _ _ h_ => h_), (fun _ _ _ _ _ h_ => h_), (fun _ _ _ _ _ h_ => h_), (fun _ _ _ _ _ h_ => h_), (fun _ _ _ _ _ h_ => h_), (fun _ _ _ _ _ h_ => h_), (fun _ _ _ _ _ h_ => h_), (fun _ _ _ _ _ h_ => h_), trivial⟩ ?_ ?_
     ·skip
      refine ⟨fun a w vs76 hA hS hd => ?_, ?_⟩
      ·skip
       exact opG_of rfl (vv (op_move rfl (hA.ev rfl)) (And.intro rfl rfl))
      refine ⟨fun a w vs76 hA hS hd => ?_, ?_⟩
      ·skip
       exact opG_of rfl (vv (op_move rfl (hA.ev rfl)) (And.intro rfl rfl))
      refine ⟨fun a w vs76 hA hS hd => ?_, ?_⟩
      ·skip
       obtain ⟨e0, rs0, hy0, hp0⟩ := hd 0 (by decide)
       obtain ⟨hv0, hr0⟩ := hy0; subst hr0
       rw [hv0] at e0
       obtain ⟨e1, rs1, hy1, hp1⟩ := hd 1 (by decide)
       obtain ⟨hv1, hr1⟩ := hy1; subst hr1
       rw [hv1] at e1
       exact opG_of rfl (vv (op_indexS rfl un_40 ty_3 (tmp_ev (slot_ev e0 rfl)) (i := k) (tmp_ev (slot_ev e1 rfl)) (hS.sk 1 rfl) (by decide) (by omega)) (And.intro rfl rfl))
      refine ⟨fun a w vs76 hA hS hd => ?_, ?_⟩
      ·skip
       obtain ⟨e2, rs2, hy2, hp2⟩ := hd 2 (by decide)
       obtain ⟨hv2, hr2⟩ := hy2; subst hr2
       rw [hv2] at e2
       exact opG_of rfl (vv (op_load1E rfl ty_3 (tmp_ev (slot_ev e2 rfl)) (hS.sk 1 rfl) (ints_at (by omega))) (And.intro rfl rfl))
      refine ⟨fun a w vs76 hA hS hd => ?_, ?_⟩
      ·skip
       exact opG_of rfl (vv (op_field rfl fd_24_0 (hA.ev rfl)) (And.intro rfl rfl))
      refine ⟨fun a w vs76 hA hS hd => ?_, ?_⟩
      ·skip
       obtain ⟨e4, rs4, hy4, hp4⟩ := hd 4 (by decide)
       obtain ⟨hv4, hr4⟩ := hy4; subst hr4
       rw [hv4] at e4
       exact opG_of rfl (vv (op_load1 rfl ty_22 (tmp_ev (slot_ev e4 rfl)) (hS.bk 0 rfl) rfl) (And.intro rfl rfl))
      refine ⟨fun a w vs76 hA hS hd => ?_, ?_⟩
      ·skip
       exact opG_of rfl (vv (op_move rfl (hA.ev rfl)) (And.intro rfl rfl))
      refine ⟨fun a w vs76 hA hS hd => ?_, ?_⟩
      ·skip
       obtain ⟨e5, rs5, hy5, hp5⟩ := hd 5 (by decide)
       obtain ⟨hv5, hr5⟩ := hy5; subst hr5
       rw [hv5] at e5
       obtain ⟨e6, rs6, hy6, hp6⟩ := hd 6 (by decide)
       obtain ⟨hv6, hr6⟩ := hy6; subst hr6
       rw [hv6] at e6
       exact opG_of rfl (vv (op_indexS rfl un_22 ty_48 (tmp_ev (slot_ev e5 rfl)) (i := k) (tmp_ev (slot_ev e6 rfl)) (hS.sk 2 rfl) (by decide) (by omega)) (And.intro rfl rfl))
      refine ⟨fun a w vs76 hA hS hd => ?_, ?_⟩
      ·skip
       obtain ⟨e7, rs7, hy7, hp7⟩ := hd 7 (by decide)
       obtain ⟨hv7, hr7⟩ := hy7; subst hr7
       rw [hv7] at e7
       exact opG_of rfl (vv (op_fieldS rfl fd_48_0 (tmp_ev (slot_ev e7 rfl)) (hS.sk 2 rfl) (by rw [((hS.sk 2 rfl)).1]; omega)) (And.intro rfl rfl))
      refine ⟨fun a w vs76 hA hS hd => ?_, ?_⟩
      ·skip
       obtain ⟨e8, rs8, hy8, hp8⟩ := hd 8 (by decide)
       obtain ⟨hv8, hr8⟩ := hy8; subst hr8
       rw [hv8] at e8
       exact opG_of rfl (vv (op_load1E rfl ty_3 (tmp_ev (slot_ev e8 rfl)) (hS.sk 2 rfl) (pairs_at0 (by omega))) (And.intro rfl rfl))
      refine ⟨fun a w vs76 hA hS hd => ?_, ?_⟩
      ·skip
       exact opG_of rfl (vv (op_field rfl fd_24_0 (hA.ev rfl)) (And.intro rfl rfl))
      refine ⟨fun a w vs76 hA hS hd => ?_, ?_⟩
      ·skip
       obtain ⟨e10, rs10, hy10, hp10⟩ := hd 10 (by decide)
       obtain ⟨hv10, hr10⟩ := hy10; subst hr10
       rw [hv10] at e10
       exact opG_of rfl (vv (op_load1 rfl ty_22 (tmp_ev (slot_ev e10 rfl)) (hS.bk 0 rfl) rfl) (And.intro rfl rfl))
      refine ⟨fun a w vs76 hA hS hd => ?_, ?_⟩
      ·skip
       exact opG_of rfl (vv (op_move rfl (hA.ev rfl)) (And.intro rfl rfl))
      refine ⟨fun a w vs76 hA hS hd => ?_, ?_⟩
      ·skip
       obtain ⟨e11, rs11, hy11, hp11⟩ := hd 11 (by decide)
       obtain ⟨hv11, hr11⟩ := hy11; subst hr11
       rw [hv11] at e11
       obtain ⟨e12, rs12, hy12, hp12⟩ := hd 12 (by decide)
       obtain ⟨hv12, hr12⟩ := hy12; subst hr12
       rw [hv12] at e12
       exact opG_of rfl (vv (op_indexS rfl un_22 ty_48 (tmp_ev (slot_ev e11 rfl)) (i := k) (tmp_ev (slot_ev e12 rfl)) (hS.sk 2 rfl) (by decide) (by omega)) (And.intro rfl rfl))
      refine ⟨fun a w vs76 hA hS hd => ?_, ?_⟩
      ·skip
       obtain ⟨e13, rs13, hy13, hp13⟩ := hd 13 (by decide)
       obtain ⟨hv13, hr13⟩ := hy13; subst hr13
       rw [hv13] at e13
       exact opG_of rfl (vv (op_fieldS rfl fd_48_1 (tmp_ev (slot_ev e13 rfl)) (hS.sk 2 rfl) (by rw [((hS.sk 2 rfl)).1]; omega)) (And.intro rfl rfl))
      refine ⟨fun a w vs76 hA hS hd => ?_, ?_⟩
      ·skip
       obtain ⟨e14, rs14, hy14, hp14⟩ := hd 14 (by decide)
       obtain ⟨hv14, hr14⟩ := hy14; subst hr14
       rw [hv14] at e14
       exact opG_of rfl (vv (op_load1E rfl ty_3 (tmp_ev (slot_ev e14 rfl)) (hS.sk 2 rfl) (pairs_at1 (by omega))) (And.intro rfl rfl))
      refine ⟨fun a w vs76 hA hS hd => ?_, ?_⟩
      ·skip
       obtain ⟨e3, rs3, hy3, hp3⟩ := hd 3 (by decide)
       obtain ⟨hv3, hr3⟩ := hy3; subst hr3
       rw [hv3] at e3
       obtain ⟨e9, rs9, hy9, hp9⟩ := hd 9 (by decide)
       obtain ⟨hv9, hr9⟩ := hy9; subst hr9
       rw [hv9] at e9
       obtain ⟨e15, rs15, hy15, hp15⟩ := hd 15 (by decide)
       obtain ⟨hv15, hr15⟩ := hy15; subst hr15
       rw [hv15] at e15
       exact opG_of rfl (vv (op_call rfl en_24 (ev3 (tmp_ev (slot_ev e3 rfl)) (tmp_ev (slot_ev e9 rfl)) (tmp_ev (slot_ev e15 rfl))) (In_ok _ _ _ _)) (And.intro (by show Value.bool _ = _; simp only [hb40, decide_true, decide_false, Bool.not_true, Bool.not_false]) rfl))
      refine ⟨fun a w vs76 hA hS hd => ?_, ?_⟩
      ·skip
       obtain ⟨e16, rs16, hy16, hp16⟩ := hd 16 (by decide)
       obtain ⟨hv16, hr16⟩ := hy16; subst hr16
       rw [hv16] at e16
       exact opG_of rfl (vv (op_not rfl (tmp_ev (slot_ev e16 rfl))) (And.intro rfl rfl))
      refine ⟨fun a w vs76 hA hS hd => ?_, ?_⟩
      ·skip
       obtain ⟨e17, rs17, hy17, hp17⟩ := hd 17 (by decide)
       obtain ⟨hv17, hr17⟩ := hy17; subst hr17
       rw [hv17] at e17
       exact opG_of rfl (vv (op_move rfl (tmp_ev (slot_ev e17 rfl))) (And.intro rfl rfl))
      refine ⟨fun a w vs76 hA hS hd => ?_, ?_⟩
      ·skip
       obtain ⟨e18, rs18, hy18, hp18⟩ := hd 18 (by decide)
       obtain ⟨hv18, hr18⟩ := hy18; subst hr18
       rw [hv18] at e18
       exact opG_yes rfl rfl (slot_ev e18 rfl) (vv (op_move rfl (hA.ev rfl)) (And.intro rfl rfl))
      refine ⟨fun a w vs76 hA hS hd => ?_, ?_⟩
      ·skip
       obtain ⟨e18, rs18, hy18, hp18⟩ := hd 18 (by decide)
       obtain ⟨hv18, hr18⟩ := hy18; subst hr18
       rw [hv18] at e18
       obtain ⟨e19, rs19, hy19, hp19⟩ := hd 19 (by decide)
       obtain ⟨hv19, hr19⟩ := hy19; subst hr19
       rw [hv19] at e19
       exact opG_yes rfl rfl (slot_ev e18 rfl) (vv (op_gtr rfl (tmp_ev (slot_ev e19 rfl)) (evc _ _)) (And.intro (by show Value.bool _ = _; simp only [decide_eq_false hb44, decide_true, decide_false, Bool.not_true, Bool.not_false]) rfl))
      refine ⟨fun a w vs76 hA hS hd => ?_, ?_⟩
      ·skip
       obtain ⟨e18, rs18, hy18, hp18⟩ := hd 18 (by decide)
       obtain ⟨hv18, hr18⟩ := hy18; subst hr18
       rw [hv18] at e18
       obtain ⟨e20, rs20, hy20, hp20⟩ := hd 20 (by decide)
       obtain ⟨hv20, hr20⟩ := hy20; subst hr20
       rw [hv20] at e20
       exact opG_yes rfl rfl (slot_ev e18 rfl) (vv (op_move rfl (tmp_ev (slot_ev e20 rfl))) (And.intro rfl rfl))
      refine ⟨fun a w vs76 hA hS hd => ?_, ?_⟩
      ·skip
       obtain ⟨e21, rs21, hy21, hp21⟩ := hd 21 (by decide)
       obtain ⟨hv21, hr21⟩ := hy21; subst hr21
       rw [hv21] at e21
       exact opG_no rfl rfl (slot_ev e21 rfl) rfl (vskip (And.intro rfl rfl))
      refine ⟨fun a w vs76 hA hS hd => ?_, ?_⟩
      ·skip
       obtain ⟨e21, rs21, hy21, hp21⟩ := hd 21 (by decide)
       obtain ⟨hv21, hr21⟩ := hy21; subst hr21
       rw [hv21] at e21
       exact opG_no rfl rfl (slot_ev e21 rfl) rfl (vskip (And.intro rfl rfl))
      refine ⟨fun a w vs76 hA hS hd => ?_, ?_⟩
      ·skip
       obtain ⟨e21, rs21, hy21, hp21⟩ := hd 21 (by decide)
       obtain ⟨hv21, hr21⟩ := hy21; subst hr21
       rw [hv21] at e21
       obtain ⟨e22, rs22, hy22, hp22⟩ := hd 22 (by decide)
       obtain ⟨hv22, hr22⟩ := hy22; subst hr22
       rw [hv22] at e22
       obtain ⟨e23, rs23, hy23, hp23⟩ := hd 23 (by decide)
       obtain ⟨hv23, hr23⟩ := hy23; subst hr23
       rw [hv23] at e23
       exact opG_no rfl rfl (slot_ev e21 rfl) rfl (vskip (And.intro rfl rfl))
      refine ⟨fun a w vs76 hA hS hd => ?_, ?_⟩
      ·skip
       obtain ⟨e21, rs21, hy21, hp21⟩ := hd 21 (by decide)
       obtain ⟨hv21, hr21⟩ := hy21; subst hr21
       rw [hv21] at e21
       obtain ⟨e24, rs24, hy24, hp24⟩ := hd 24 (by decide)
       obtain ⟨hv24, hr24⟩ := hy24; subst hr24
       rw [hv24] at e24
       exact opG_no rfl rfl (slot_ev e21 rfl) rfl (vskip (And.intro rfl rfl))
      refine ⟨fun a w vs76 hA hS hd => ?_, ?_⟩
      ·skip
       obtain ⟨e21, rs21, hy21, hp21⟩ := hd 21 (by decide)
       obtain ⟨hv21, hr21⟩ := hy21; subst hr21
       rw [hv21] at e21
       exact opG_no rfl rfl (slot_ev e21 rfl) rfl (vskip (And.intro rfl rfl))
      refine ⟨fun a w vs76 hA hS hd => ?_, ?_⟩
      ·skip
       obtain ⟨e21, rs21, hy21, hp21⟩ := hd 21 (by decide)
       obtain ⟨hv21, hr21⟩ := hy21; subst hr21
       rw [hv21] at e21
       exact opG_no rfl rfl (slot_ev e21 rfl) rfl (vskip (And.intro rfl rfl))
      refine ⟨fun a w vs76 hA hS hd => ?_, ?_⟩
      ·skip
       obtain ⟨e21, rs21, hy21, hp21⟩ := hd 21 (by decide)
       obtain ⟨hv21, hr21⟩ := hy21; subst hr21
       rw [hv21] at e21
       obtain ⟨e27, rs27, hy27, hp27⟩ := hd 27 (by decide)
       obtain ⟨hv27, hr27⟩ := hy27; subst hr27
       rw [hv27] at e27
       exact opG_no rfl rfl (slot_ev e21 rfl) rfl (vskip (And.intro rfl rfl))
      refine ⟨fun a w vs76 hA hS hd => ?_, ?_⟩
      ·skip
       obtain ⟨e21, rs21, hy21, hp21⟩ := hd 21 (by decide)
       obtain ⟨hv21, hr21⟩ := hy21; subst hr21
       rw [hv21] at e21
       obtain ⟨e26, rs26, hy26, hp26⟩ := hd 26 (by decide)
       obtain ⟨hv26, hr26⟩ := hy26; subst hr26
       rw [hv26] at e26
       obtain ⟨e28, rs28, hy28, hp28⟩ := hd 28 (by decide)
       obtain ⟨hv28, hr28⟩ := hy28; subst hr28
       rw [hv28] at e28
       exact opG_no rfl rfl (slot_ev e21 rfl) rfl (vskip (And.intro rfl rfl))
      refine ⟨fun a w vs76 hA hS hd => ?_, ?_⟩
      ·skip
       obtain ⟨e21, rs21, hy21, hp21⟩ := hd 21 (by decide)
       obtain ⟨hv21, hr21⟩ := hy21; subst hr21
       rw [hv21] at e21
       obtain ⟨e29, rs29, hy29, hp29⟩ := hd 29 (by decide)
       obtain ⟨hv29, hr29⟩ := hy29; subst hr29
       rw [hv29] at e29
       exact opG_no rfl rfl (slot_ev e21 rfl) rfl (vskip (And.intro rfl rfl))
      trivial
     intro a77 w78 vs76 rsf82 hA79 hH81 hS80; clear hA75 hS28
     obtain ⟨hs_0, hy_0⟩ := hH81 0 (by decide)
     obtain ⟨hv_0, hr_0⟩ := hy_0
     obtain ⟨hs_1, hy_1⟩ := hH81 1 (by decide)
     obtain ⟨hv_1, hr_1⟩ := hy_1
     obtain ⟨hs_2, hy_2⟩ := hH81 2 (by decide)
     obtain ⟨hv_2, hr_2⟩ := hy_2
     obtain ⟨hs_3, hy_3⟩ := hH81 3 (by decide)
     obtain ⟨hv_3, hr_3⟩ := hy_3
     obtain ⟨hs_4, hy_4⟩ := hH81 4 (by decide)
     obtain ⟨hv_4, hr_4⟩ := hy_4
     obtain ⟨hs_5, hy_5⟩ := hH81 5 (by decide)
     obtain ⟨hv_5, hr_5⟩ := hy_5
     obtain ⟨hs_6, hy_6⟩ := hH81 6 (by decide)
     obtain ⟨hv_6, hr_6⟩ := hy_6
     obtain ⟨hs_7, hy_7⟩ := hH81 7 (by decide)
     obtain ⟨hv_7, hr_7⟩ := hy_7
     obtain ⟨hs_8, hy_8⟩ := hH81 8 (by decide)
     obtain ⟨hv_8, hr_8⟩ := hy_8
     obtain ⟨hs_9, hy_9⟩ := hH81 9 (by decide)
     obtain ⟨hv_9, hr_9⟩ := hy_9
     obtain ⟨hs_10, hy_10⟩ := hH81 10 (by decide)
     obtain ⟨hv_10, hr_10⟩ := hy_10
     obtain ⟨hs_11, hy_11⟩ := hH81 11 (by decide)
     obtain ⟨hv_11, hr_11⟩ := hy_11
     obtain ⟨hs_12, hy_12⟩ := hH81 12 (by decide)
     obtain ⟨hv_12, hr_12⟩ := hy_12
     obtain ⟨hs_13, hy_13⟩ := hH81 13 (by decide)
     obtain ⟨hv_13, hr_13⟩ := hy_13
     obtain ⟨hs_14, hy_14⟩ := hH81 14 (by decide)
     obtain ⟨hv_14, hr_14⟩ := hy_14
     obtain ⟨hs_15, hy_15⟩ := hH81 15 (by decide)
     obtain ⟨hv_15, hr_15⟩ := hy_15
     obtain ⟨hs_16, hy_16⟩ := hH81 16 (by decide)
     obtain ⟨hv_16, hr_16⟩ := hy_16
     obtain ⟨hs_17, hy_17⟩ := hH81 17 (by decide)
     obtain ⟨hv_17, hr_17⟩ := hy_17
     obtain ⟨hs_18, hy_18⟩ := hH81 18 (by decide)
     obtain ⟨hv_18, hr_18⟩ := hy_18
     obtain ⟨hs_19, hy_19⟩ := hH81 19 (by decide)
     obtain ⟨hv_19, hr_19⟩ := hy_19
     obtain ⟨hs_20, hy_20⟩ := hH81 20 (by decide)
     obtain ⟨hv_20, hr_20⟩ := hy_20
     obtain ⟨hs_21, hy_21⟩ := hH81 21 (by decide)
     obtain ⟨hv_21, hr_21⟩ := hy_21
     obtain ⟨hs_22, hy_22⟩ := hH81 22 (by decide)
     obtain ⟨hv_22, hr_22⟩ := hy_22
     obtain ⟨hs_23, hy_23⟩ := hH81 23 (by decide)
     obtain ⟨hv_23, hr_23⟩ := hy_23
     obtain ⟨hs_24, hy_24⟩ := hH81 24 (by decide)
     obtain ⟨hv_24, hr_24⟩ := hy_24
     obtain ⟨hs_25, hy_25⟩ := hH81 25 (by decide)
     obtain ⟨hv_25, hr_25⟩ := hy_25
     obtain ⟨hs_26, hy_26⟩ := hH81 26 (by decide)
     obtain ⟨hv_26, hr_26⟩ := hy_26
     obtain ⟨hs_27, hy_27⟩ := hH81 27 (by decide)
     obtain ⟨hv_27, hr_27⟩ := hy_27
     obtain ⟨hs_28, hy_28⟩ := hH81 28 (by decide)
     obtain ⟨hv_28, hr_28⟩ := hy_28
     obtain ⟨hs_29, hy_29⟩ := hH81 29 (by decide)
     obtain ⟨hv_29, hr_29⟩ := hy_29
     obtain ⟨hs_30, hy_30⟩ := hH81 30 (by decide)
     obtain ⟨hv_30, hr_30⟩ := hy_30
     have hS83 : Sep NoB w w78 [(blk b4 24 [vr]), (sl xl 1 l.length (ints l)), (sl vr 2 R.length (pairs R))] := by rw [show catR rsf82 0 31 = ([] : List Res) by (try simp only [catR, hr_0, hr_1, hr_2, hr_3, hr_4, hr_5, hr_6, hr_7, hr_8, hr_9, hr_10, hr_11, hr_12, hr_13, hr_14, hr_15, hr_16, hr_17, hr_18, hr_19, hr_20, hr_21, hr_22, hr_23, hr_24, hr_25, hr_26, hr_27, hr_28, hr_29, hr_30]); (try rfl)] at hS80; exact hS80
     rw [hv_18] at hs_18
     have hA84 : Fr 52 [] [(36, (Value.bool (!true))), (5, (Value.int .i64 (k : Int))), (2, (bptr b4 0)), (1, xl)] a77 := hA79.add (slot_ev hs_18 rfl); clear hA79
     rw [hv_21] at hs_21
     have hA85 : Fr 52 [] [(39, (Value.bool false)), (36, (Value.bool (!true))), (5, (Value.int .i64 (k : Int))), (2, (bptr b4 0)), (1, xl)] a77 := hA84.add (slot_ev hs_21 rfl); clear hA84
     rw [hv_25] at hs_25
     have hA86 : Fr 52 [] [(43, undef), (39, (Value.bool false)), (36, (Value.bool (!true))), (5, (Value.int .i64 (k : Int))), (2, (bptr b4 0)), (1, xl)] a77 := hA85.add (slot_ev hs_25 rfl); clear hA85
     rw [hv_30] at hs_30
     have hA87 : Fr 52 [] [(48, undef), (43, undef), (39, (Value.bool false)), (36, (Value.bool (!true))), (5, (Value.int .i64 (k : Int))), (2, (bptr b4 0)), (1, xl)] a77 := hA86.add (slot_ev hs_30 rfl); clear hA86
     clear hH81 hS80 hs_0 hs_1 hs_2 hs_3 hs_4 hs_5 hs_6 hs_7 hs_8 hs_9 hs_10 hs_11 hs_12 hs_13 hs_14 hs_15 hs_16 hs_17 hs_18 hs_19 hs_20 hs_21 hs_22 hs_23 hs_24 hs_25 hs_26 hs_27 hs_28 hs_29 hs_30
     clear hr_0
     clear hv_0
     clear hr_1
     clear hv_1
     clear hr_2
     clear hv_2
     clear hr_3
     clear hv_3
     clear hr_4
     clear hv_4
     clear hr_5
     clear hv_5
     clear hr_6
     clear hv_6
     clear hr_7
     clear hv_7
     clear hr_8
     clear hv_8
     clear hr_9
     clear hv_9
     clear hr_10
     clear hv_10
     clear hr_11
     clear hv_11
     clear hr_12
     clear hv_12
     clear hr_13
     clear hv_13
     clear hr_14
     clear hv_14
     clear hr_15
     clear hv_15
     clear hr_16
     clear hv_16
     clear hr_17
     clear hv_17
     clear hr_18
     clear hv_18
     clear hr_19
     clear hv_19
     clear hr_20
     clear hv_20
     clear hr_21
     clear hv_21
     clear hr_22
     clear hv_22
     clear hr_23
     clear hv_23
     clear hr_24
     clear hv_24
     clear hr_25
     clear hv_25
     clear hr_26
     clear hv_26
     clear hr_27
     clear hv_27
     clear hr_28
     clear hv_28
     clear hr_29
     clear hv_29
     clear hr_30
     clear hv_30
     refine skp hA87 rfl rfl rfl rfl rfl (by decide) fun a88 hA89 => ?_; clear hA87 a77
     refine stg hA89 (op_pick_f rfl (hA89.ev rfl) (evc _ _)) rfl rfl rfl rfl (by decide) fun a90 hA91 => ?_; clear hA89 a88
     refine st hA91 (op_pick_f rfl (hA91.ev rfl) (hA91.ev rfl)) rfl rfl (by decide) fun a92 hA93 => ?_; clear hA91 a90
     refine wl_nil ?_
     refine then_n ?_
     refine c_false hA93 rfl ?_
     refine c_skip ?_
     refine blk_n ?_
     refine then_n ?_
     have hA94 := hA93.as [(5, (Value.int .i64 (k : Int))), (2, (bptr b4 0)), (1, xl)] rfl; clear hA93
     refine c_region ?_
     refine st hA94 (op_move rfl (hA94.ev rfl)) rfl rfl (by decide) fun a95 hA96 => ?_; clear hA94 a92
     refine st hA96 (op_add rfl (hA96.ev rfl) (evc _ _) (by omega) (by omega)) rfl rfl (by decide) fun a97 hA98 => ?_; clear hA96 a95
     refine st hA98 (op_assign rfl (hA98.ev rfl)) rfl rfl (by decide) fun a99 hA100 => ?_; clear hA98 a97
     refine wl_nil ?_
     exact then_n ⟨k + 1, ⟨hA100.as _ rfl, hS83, by omega, hln, (fun i hi => by rcases Nat.lt_succ_iff_lt_or_eq.1 hi with h | h; exact hra_ i h; subst h; exact rateAt_y1 (by omega) (by first | exact .inr (.inr (by assumption)) | exact .inr (.inl (by omega))))⟩, by omega⟩
   ·skip
    have hq101 := hb40; simp only [Bool.and_eq_true, Bool.and_eq_false_iff, decide_eq_true_eq, decide_eq_false_iff_not] at hq101
    have hA102 := hA38.as [(5, (Value.int .i64 (k : Int))), (2, (bptr b4 0)), (1, xl)] rfl; clear hA38
    refine c_drawV mixed hA102 hS28 31 [[], [], [0, 1], [2], [], [4], [], [5, 6], [7], [8], [], [10], [], [11, 12], [13], [14], [3, 9, 15], [16], [17], [18], [18, 19], [18, 20], [21], [21], [21, 22, 23], [21, 24], [21], [21], [21, 27], [21, 26, 28], [21, 29]] [(fun (vs103 : Nat → Value) (v_ : Value) (rs_ : List Res) => v_ = xl ∧ rs_ = []), (fun (vs103 : Nat → Value) (v_ : Value) (rs_ : List Res) => v_ = (Value.int .i64 (k : Int)) ∧ rs_ = []), (fun (vs103 : Nat → Value) (v_ : Value) (rs_ : List Res) => v_ = (eptr xl (k * 1)) ∧ rs_ = []), (fun (vs103 : Nat → Value) (v_ : Value) (rs_ : List Res) => v_ = (Value.int .i64 (l.getD k 0)) ∧ rs_ = []), (fun (vs103 : Nat → Value) (v_ : Value) (rs_ : List Res) => v_ = (bptr b4 0) ∧ rs_ = []), (fun (vs103 : Nat → Value) (v_ : Value) (rs_ : List Res) => v_ = vr ∧ rs_ = []), (fun (vs103 : Nat → Value) (v_ : Value) (rs_ : List Res) => v_ = (Value.int .i64 (k : Int)) ∧ rs_ = []), (fun (vs103 : Nat → Value) (v_ : Value) (rs_ : List Res) => v_ = (eptr vr (k * 2)) ∧ rs_ = []), (fun (vs103 : Nat → Value) (v_ : Value) (rs_ : List Res) => v_ = (eptr vr (k * 2 + 0)) ∧ rs_ = []), (fun (vs103 : Nat → Value) (v_ : Value) (rs_ : List Res) => v_ = (Value.int .i64 ((R.getD k (0, 0)).1)) ∧ rs_ = []), (fun (vs103 : Nat → Value) (v_ : Value) (rs_ : List Res) => v_ = (bptr b4 0) ∧ rs_ = []), (fun (vs103 : Nat → Value) (v_ : Value) (rs_ : List Res) => v_ = vr ∧ rs_ = []), (fun (vs103 : Nat → Value) (v_ : Value) (rs_ : List Res) => v_ = (Value.int .i64 (k : Int)) ∧ rs_ = []), (fun (vs103 : Nat → Value) (v_ : Value) (rs_ : List Res) => v_ = (eptr vr (k * 2)) ∧ rs_ = []), (fun (vs103 : Nat → Value) (v_ : Value) (rs_ : List Res) => v_ = (eptr vr (k * 2 + 1)) ∧ rs_ = []), (fun (vs103 : Nat → Value) (v_ : Value) (rs_ : List Res) => v_ = (Value.int .i64 ((R.getD k (0, 0)).2)) ∧ rs_ = []), (fun (vs103 : Nat → Value) (v_ : Value) (rs_ : List Res) => v_ = (Value.bool false) ∧ rs_ = []), (fun (vs103 : Nat → Value) (v_ : Value) (rs_ : List Res) => v_ = (Value.bool (!false)) ∧ rs_ = []), (fun (vs103 : Nat → Value) (v_ : Value) (rs_ : List Res) => v_ = (Value.bool (!false)) ∧ rs_ = []), (fun (vs103 : Nat → Value) (v_ : Value) (rs_ : List Res) => v_ = undef ∧ rs_ = []), (fun (vs103 : Nat → Value) (v_ : Value) (rs_ : List Res) => v_ = undef ∧ rs_ = []), (fun (vs103 : Nat → Value) (v_ : Value) (rs_ : List Res) => v_ = undef ∧ rs_ = []), (fun (vs103 : Nat → Value) (v_ : Value) (rs_ : List Res) => v_ = undef ∧ rs_ = []), (fun (vs103 : Nat → Value) (v_ : Value) (rs_ : List Res) => v_ = undef ∧ rs_ = []), (fun (vs103 : Nat → Value) (v_ : Value) (rs_ : List Res) => v_ = undef ∧ rs_ = []), (fun (vs103 : Nat → Value) (v_ : Value) (rs_ : List Res) => v_ = undef ∧ rs_ = []), (fun (vs103 : Nat → Value) (v_ : Value) (rs_ : List Res) => v_ = undef ∧ rs_ = []), (fun (vs103 : Nat → Value) (v_ : Value) (rs_ : List Res) => v_ = undef ∧ rs_ = []), (fun (vs103 : Nat → Value) (v_ : Value) (rs_ : List Res) => v_ = undef ∧ rs_ = []), (fun (vs103 : Nat → Value) (v_ : Value) (rs_ : List Res) => v_ = undef ∧ rs_ = []), (fun (vs103 : Nat → Value) (v_ : Value) (rs_ : List Res) => v_ = undef ∧ rs_ = [])] (by decide +kernel) (by decide +kernel) rfl rfl ⟨(fun _ _ _ _ _ h_ => h_), (fun _ _ _ _ _ h_ => h_), (fun _ _ _ _ _ h_ => h_), (fun _ _ _ _ _ h_ => h_), (fun _ _ _ _ _ h_ => h_), (fun _ _ _ _ _ h_ => h_), (fun _ _ _ _ _ h_ => h_), (fun _ _ _ _ _ h_ => h_), (fun _ _ _ _ _ h_ => h_), (fun _ _ _ _ _ h_ => h_), (fun _ _ _ _ _ h_ => h_), (fun _ _ _ _ _ h_ => h_), (fun _ _ _ _ _ h_ => h_), (fun _ _ _ _ _ h_ => h_), (fun _ _ _ _ _ h_ => h_), (fun _ _ _ _ _ h_ => h_), (fun _ _ _ _ _ h_ => h_), (fun _ _ _ _ _ h_ => h_), (fun _ _ _ _ _ h_ => h_), (fun _ _ _ _ _ h_ => h_), (fun _ _ _ _ _ h_ => h_), (fun _ _ _ _ _ h_ => h_), (fun _ _ _ _ _ h_ => h_), (fun _ _ _ _ _ h_ => h_), (fun _ _ _ _ _ h_ => h_), (fun _ _ _ _ _ h_ => h_), (fun _ _ _ _ _ h_ => h_), (fun _ _ _ _ _ h_ => h_), (fun _ _ _ _ _ h_ => h_), (fun _ _ _ _ _ h_ => h_), (fun _ _ _ _ _ h_ => h_), trivial⟩ ?_ ?_
    ·skip
     refine ⟨fun a w vs103 hA hS hd => ?_, ?_⟩
     ·skip
      exact opG_of rfl (vv (op_move rfl (hA.ev rfl)) (And.intro rfl rfl))
     refine ⟨fun a w vs103 hA hS hd => ?_, ?_⟩
     ·skip
      exact opG_of rfl (vv (op_move rfl (hA.ev rfl)) (And.intro rfl rfl))
     refine ⟨fun a w vs103 hA hS hd => ?_, ?_⟩
     ·skip
      obtain ⟨e0, rs0, hy0, hp0⟩ := hd 0 (by decide)
      obtain ⟨hv0, hr0⟩ := hy0; subst hr0
      rw [hv0] at e0
      obtain ⟨e1, rs1, hy1, hp1⟩ := hd 1 (by decide)
      obtain ⟨hv1, hr1⟩ := hy1; subst hr1
      rw [hv1] at e1
      exact opG_of rfl (vv (op_indexS rfl un_40 ty_3 (tmp_ev (slot_ev e0 rfl)) (i := k) (tmp_ev (slot_ev e1 rfl)) (hS.sk 1 rfl) (by decide) (by omega)) (And.intro rfl rfl))
     refine ⟨fun a w vs103 hA hS hd => ?_, ?_⟩
     ·skip
      obtain ⟨e2, rs2, hy2, hp2⟩ := hd 2 (by decide)
      obtain ⟨hv2, hr2⟩ := hy2; subst hr2
      rw [hv2] at e2
      exact opG_of rfl (vv (op_load1E rfl ty_3 (tmp_ev (slot_ev e2 rfl)) (hS.sk 1 rfl) (ints_at (by omega))) (And.intro rfl rfl))
     refine ⟨fun a w vs103 hA hS hd => ?_, ?_⟩
     ·skip
      exact opG_of rfl (vv (op_field rfl fd_24_0 (hA.ev rfl)) (And.intro rfl rfl))
     refine ⟨fun a w vs103 hA hS hd => ?_, ?_⟩
     ·skip
      obtain ⟨e4, rs4, hy4, hp4⟩ := hd 4 (by decide)
      obtain ⟨hv4, hr4⟩ := hy4; subst hr4
      rw [hv4] at e4
      exact opG_of rfl (vv (op_load1 rfl ty_22 (tmp_ev (slot_ev e4 rfl)) (hS.bk 0 rfl) rfl) (And.intro rfl rfl))
     refine ⟨fun a w vs103 hA hS hd => ?_, ?_⟩
     ·skip
      exact opG_of rfl (vv (op_move rfl (hA.ev rfl)) (And.intro rfl rfl))
     refine ⟨fun a w vs103 hA hS hd => ?_, ?_⟩
     ·skip
      obtain ⟨e5, rs5, hy5, hp5⟩ := hd 5 (by decide)
      obtain ⟨hv5, hr5⟩ := hy5; subst hr5
      rw [hv5] at e5
      obtain ⟨e6, rs6, hy6, hp6⟩ := hd 6 (by decide)
      obtain ⟨hv6, hr6⟩ := hy6; subst hr6
      rw [hv6] at e6
      exact opG_of rfl (vv (op_indexS rfl un_22 ty_48 (tmp_ev (slot_ev e5 rfl)) (i := k) (tmp_ev (slot_ev e6 rfl)) (hS.sk 2 rfl) (by decide) (by omega)) (And.intro rfl rfl))
     refine ⟨fun a w vs103 hA hS hd => ?_, ?_⟩
     ·skip
      obtain ⟨e7, rs7, hy7, hp7⟩ := hd 7 (by decide)
      obtain ⟨hv7, hr7⟩ := hy7; subst hr7
      rw [hv7] at e7
      exact opG_of rfl (vv (op_fieldS rfl fd_48_0 (tmp_ev (slot_ev e7 rfl)) (hS.sk 2 rfl) (by rw [((hS.sk 2 rfl)).1]; omega)) (And.intro rfl rfl))
     refine ⟨fun a w vs103 hA hS hd => ?_, ?_⟩
     ·skip
      obtain ⟨e8, rs8, hy8, hp8⟩ := hd 8 (by decide)
      obtain ⟨hv8, hr8⟩ := hy8; subst hr8
      rw [hv8] at e8
      exact opG_of rfl (vv (op_load1E rfl ty_3 (tmp_ev (slot_ev e8 rfl)) (hS.sk 2 rfl) (pairs_at0 (by omega))) (And.intro rfl rfl))
     refine ⟨fun a w vs103 hA hS hd => ?_, ?_⟩
     ·skip
      exact opG_of rfl (vv (op_field rfl fd_24_0 (hA.ev rfl)) (And.intro rfl rfl))
     refine ⟨fun a w vs103 hA hS hd => ?_, ?_⟩
     ·skip
      obtain ⟨e10, rs10, hy10, hp10⟩ := hd 10 (by decide)
      obtain ⟨hv10, hr10⟩ := hy10; subst hr10
      rw [hv10] at e10
      exact opG_of rfl (vv (op_load1 rfl ty_22 (tmp_ev (slot_ev e10 rfl)) (hS.bk 0 rfl) rfl) (And.intro rfl rfl))
     refine ⟨fun a w vs103 hA hS hd => ?_, ?_⟩
     ·skip
      exact opG_of rfl (vv (op_move rfl (hA.ev rfl)) (And.intro rfl rfl))
     refine ⟨fun a w vs103 hA hS hd => ?_, ?_⟩
     ·skip
      obtain ⟨e11, rs11, hy11, hp11⟩ := hd 11 (by decide)
      obtain ⟨hv11, hr11⟩ := hy11; subst hr11
      rw [hv11] at e11
      obtain ⟨e12, rs12, hy12, hp12⟩ := hd 12 (by decide)
      obtain ⟨hv12, hr12⟩ := hy12; subst hr12
      rw [hv12] at e12
      exact opG_of rfl (vv (op_indexS rfl un_22 ty_48 (tmp_ev (slot_ev e11 rfl)) (i := k) (tmp_ev (slot_ev e12 rfl)) (hS.sk 2 rfl) (by decide) (by omega)) (And.intro rfl rfl))
     refine ⟨fun a w vs103 hA hS hd => ?_, ?_⟩
     ·skip
      obtain ⟨e13, rs13, hy13, hp13⟩ := hd 13 (by decide)
      obtain ⟨hv13, hr13⟩ := hy13; subst hr13
      rw [hv13] at e13
      exact opG_of rfl (vv (op_fieldS rfl fd_48_1 (tmp_ev (slot_ev e13 rfl)) (hS.sk 2 rfl) (by rw [((hS.sk 2 rfl)).1]; omega)) (And.intro rfl rfl))
     refine ⟨fun a w vs103 hA hS hd => ?_, ?_⟩
     ·skip
      obtain ⟨e14, rs14, hy14, hp14⟩ := hd 14 (by decide)
      obtain ⟨hv14, hr14⟩ := hy14; subst hr14
      rw [hv14] at e14
      exact opG_of rfl (vv (op_load1E rfl ty_3 (tmp_ev (slot_ev e14 rfl)) (hS.sk 2 rfl) (pairs_at1 (by omega))) (And.intro rfl rfl))
     refine ⟨fun a w vs103 hA hS hd => ?_, ?_⟩
     ·skip
      obtain ⟨e3, rs3, hy3, hp3⟩ := hd 3 (by decide)
      obtain ⟨hv3, hr3⟩ := hy3; subst hr3
      rw [hv3] at e3
      obtain ⟨e9, rs9, hy9, hp9⟩ := hd 9 (by decide)
      obtain ⟨hv9, hr9⟩ := hy9; subst hr9
      rw [hv9] at e9
      obtain ⟨e15, rs15, hy15, hp15⟩ := hd 15 (by decide)
      obtain ⟨hv15, hr15⟩ := hy15; subst hr15
      rw [hv15] at e15
      exact opG_of rfl (vv (op_call rfl en_24 (ev3 (tmp_ev (slot_ev e3 rfl)) (tmp_ev (slot_ev e9 rfl)) (tmp_ev (slot_ev e15 rfl))) (In_ok _ _ _ _)) (And.intro (by show Value.bool _ = _; simp only [hb40, decide_true, decide_false, Bool.not_true, Bool.not_false]) rfl))
     refine ⟨fun a w vs103 hA hS hd => ?_, ?_⟩
     ·skip
      obtain ⟨e16, rs16, hy16, hp16⟩ := hd 16 (by decide)
      obtain ⟨hv16, hr16⟩ := hy16; subst hr16
      rw [hv16] at e16
      exact opG_of rfl (vv (op_not rfl (tmp_ev (slot_ev e16 rfl))) (And.intro rfl rfl))
     refine ⟨fun a w vs103 hA hS hd => ?_, ?_⟩
     ·skip
      obtain ⟨e17, rs17, hy17, hp17⟩ := hd 17 (by decide)
      obtain ⟨hv17, hr17⟩ := hy17; subst hr17
      rw [hv17] at e17
      exact opG_of rfl (vv (op_move rfl (tmp_ev (slot_ev e17 rfl))) (And.intro rfl rfl))
     refine ⟨fun a w vs103 hA hS hd => ?_, ?_⟩
     ·skip
      obtain ⟨e18, rs18, hy18, hp18⟩ := hd 18 (by decide)
      obtain ⟨hv18, hr18⟩ := hy18; subst hr18
      rw [hv18] at e18
      exact opG_no rfl rfl (slot_ev e18 rfl) rfl (vskip (And.intro rfl rfl))
     refine ⟨fun a w vs103 hA hS hd => ?_, ?_⟩
     ·skip
      obtain ⟨e18, rs18, hy18, hp18⟩ := hd 18 (by decide)
      obtain ⟨hv18, hr18⟩ := hy18; subst hr18
      rw [hv18] at e18
      obtain ⟨e19, rs19, hy19, hp19⟩ := hd 19 (by decide)
      obtain ⟨hv19, hr19⟩ := hy19; subst hr19
      rw [hv19] at e19
      exact opG_no rfl rfl (slot_ev e18 rfl) rfl (vskip (And.intro rfl rfl))
     refine ⟨fun a w vs103 hA hS hd => ?_, ?_⟩
     ·skip
      obtain ⟨e18, rs18, hy18, hp18⟩ := hd 18 (by decide)
      obtain ⟨hv18, hr18⟩ := hy18; subst hr18
      rw [hv18] at e18
      obtain ⟨e20, rs20, hy20, hp20⟩ := hd 20 (by decide)
      obtain ⟨hv20, hr20⟩ := hy20; subst hr20
      rw [hv20] at e20
      exact opG_no rfl rfl (slot_ev e18 rfl) rfl (vskip (And.intro rfl rfl))
     refine ⟨fun a w vs103 hA hS hd => ?_, ?_⟩
     ·skip
      obtain ⟨e21, rs21, hy21, hp21⟩ := hd 21 (by decide)
      obtain ⟨hv21, hr21⟩ := hy21; subst hr21
      rw [hv21] at e21
      exact opG_noU rfl rfl (slot_ev e21 rfl) (vskip (And.intro rfl rfl))
     refine ⟨fun a w vs103 hA hS hd => ?_, ?_⟩
     ·skip
      obtain ⟨e21, rs21, hy21, hp21⟩ := hd 21 (by decide)
      obtain ⟨hv21, hr21⟩ := hy21; subst hr21
      rw [hv21] at e21
      exact opG_noU rfl rfl (slot_ev e21 rfl) (vskip (And.intro rfl rfl))
     refine ⟨fun a w vs103 hA hS hd => ?_, ?_⟩
     ·skip
      obtain ⟨e21, rs21, hy21, hp21⟩ := hd 21 (by decide)
      obtain ⟨hv21, hr21⟩ := hy21; subst hr21
      rw [hv21] at e21
      obtain ⟨e22, rs22, hy22, hp22⟩ := hd 22 (by decide)
      obtain ⟨hv22, hr22⟩ := hy22; subst hr22
      rw [hv22] at e22
      obtain ⟨e23, rs23, hy23, hp23⟩ := hd 23 (by decide)
      obtain ⟨hv23, hr23⟩ := hy23; subst hr23
      rw [hv23] at e23
      exact opG_noU rfl rfl (slot_ev e21 rfl) (vskip (And.intro rfl rfl))
     refine ⟨fun a w vs103 hA hS hd => ?_, ?_⟩
     ·skip
      obtain ⟨e21, rs21, hy21, hp21⟩ := hd 21 (by decide)
      obtain ⟨hv21, hr21⟩ := hy21; subst hr21
      rw [hv21] at e21
      obtain ⟨e24, rs24, hy24, hp24⟩ := hd 24 (by decide)
      obtain ⟨hv24, hr24⟩ := hy24; subst hr24
      rw [hv24] at e24
      exact opG_noU rfl rfl (slot_ev e21 rfl) (vskip (And.intro rfl rfl))
     refine ⟨fun a w vs103 hA hS hd => ?_, ?_⟩
     ·skip
      obtain ⟨e21, rs21, hy21, hp21⟩ := hd 21 (by decide)
      obtain ⟨hv21, hr21⟩ := hy21; subst hr21
      rw [hv21] at e21
      exact opG_noU rfl rfl (slot_ev e21 rfl) (vskip (And.intro rfl rfl))
     refine ⟨fun a w vs103 hA hS hd => ?_, ?_⟩
     ·skip
      obtain ⟨e21, rs21, hy21, hp21⟩ := hd 21 (by decide)
      obtain ⟨hv21, hr21⟩ := hy21; subst hr21
      rw [hv21] at e21
      exact opG_noU rfl rfl (slot_ev e21 rfl) (vskip (And.intro rfl rfl))
     refine ⟨fun a w vs103 hA hS hd => ?_, ?_⟩
     ·skip
      obtain ⟨e21, rs21, hy21, hp21⟩ := hd 21 (by decide)
      obtain ⟨hv21, hr21⟩ := hy21; subst hr21
      rw [hv21] at e21
      obtain ⟨e27, rs27, hy27, hp27⟩ := hd 27 (by decide)
      obtain ⟨hv27, hr27⟩ := hy27; subst hr27
      rw [hv27] at e27
      exact opG_noU rfl rfl (slot_ev e21 rfl) (vskip (And.intro rfl rfl))
     refine ⟨fun a w vs103 hA hS hd => ?_, ?_⟩
     ·skip
      obtain ⟨e21, rs21, hy21, hp21⟩ := hd 21 (by decide)
      obtain ⟨hv21, hr21⟩ := hy21; subst hr21
      rw [hv21] at e21
      obtain ⟨e26, rs26, hy26, hp26⟩ := hd 26 (by decide)
      obtain ⟨hv26, hr26⟩ := hy26; subst hr26
      rw [hv26] at e26
      obtain ⟨e28, rs28, hy28, hp28⟩ := hd 28 (by decide)
      obtain ⟨hv28, hr28⟩ := hy28; subst hr28
      rw [hv28] at e28
      exact opG_noU rfl rfl (slot_ev e21 rfl) (vskip (And.intro rfl rfl))
     refine ⟨fun a w vs103 hA hS hd => ?_, ?_⟩
     ·skip
      obtain ⟨e21, rs21, hy21, hp21⟩ := hd 21 (by decide)
      obtain ⟨hv21, hr21⟩ := hy21; subst hr21
      rw [hv21] at e21
      obtain ⟨e29, rs29, hy29, hp29⟩ := hd 29 (by decide)
      obtain ⟨hv29, hr29⟩ := hy29; subst hr29
      rw [hv29] at e29
      exact opG_noU rfl rfl (slot_ev e21 rfl) (vskip (And.intro rfl rfl))
     trivial
    intro a104 w105 vs103 rsf109 hA106 hH108 hS107; clear hA102 hS28
    obtain ⟨hs_0, hy_0⟩ := hH108 0 (by decide)
    obtain ⟨hv_0, hr_0⟩ := hy_0
    obtain ⟨hs_1, hy_1⟩ := hH108 1 (by decide)
    obtain ⟨hv_1, hr_1⟩ := hy_1
    obtain ⟨hs_2, hy_2⟩ := hH108 2 (by decide)
    obtain ⟨hv_2, hr_2⟩ := hy_2
    obtain ⟨hs_3, hy_3⟩ := hH108 3 (by decide)
    obtain ⟨hv_3, hr_3⟩ := hy_3
    obtain ⟨hs_4, hy_4⟩ := hH108 4 (by decide)
    obtain ⟨hv_4, hr_4⟩ := hy_4
    obtain ⟨hs_5, hy_5⟩ := hH108 5 (by decide)
    obtain ⟨hv_5, hr_5⟩ := hy_5
    obtain ⟨hs_6, hy_6⟩ := hH108 6 (by decide)
    obtain ⟨hv_6, hr_6⟩ := hy_6
    obtain ⟨hs_7, hy_7⟩ := hH108 7 (by decide)
    obtain ⟨hv_7, hr_7⟩ := hy_7
    obtain ⟨hs_8, hy_8⟩ := hH108 8 (by decide)
    obtain ⟨hv_8, hr_8⟩ := hy_8
    obtain ⟨hs_9, hy_9⟩ := hH108 9 (by decide)
    obtain ⟨hv_9, hr_9⟩ := hy_9
    obtain ⟨hs_10, hy_10⟩ := hH108 10 (by decide)
    obtain ⟨hv_10, hr_10⟩ := hy_10
    obtain ⟨hs_11, hy_11⟩ := hH108 11 (by decide)
    obtain ⟨hv_11, hr_11⟩ := hy_11
    obtain ⟨hs_12, hy_12⟩ := hH108 12 (by decide)
    obtain ⟨hv_12, hr_12⟩ := hy_12
    obtain ⟨hs_13, hy_13⟩ := hH108 13 (by decide)
    obtain ⟨hv_13, hr_13⟩ := hy_13
    obtain ⟨hs_14, hy_14⟩ := hH108 14 (by decide)
    obtain ⟨hv_14, hr_14⟩ := hy_14
    obtain ⟨hs_15, hy_15⟩ := hH108 15 (by decide)
    obtain ⟨hv_15, hr_15⟩ := hy_15
    obtain ⟨hs_16, hy_16⟩ := hH108 16 (by decide)
    obtain ⟨hv_16, hr_16⟩ := hy_16
    obtain ⟨hs_17, hy_17⟩ := hH108 17 (by decide)
    obtain ⟨hv_17, hr_17⟩ := hy_17
    obtain ⟨hs_18, hy_18⟩ := hH108 18 (by decide)
    obtain ⟨hv_18, hr_18⟩ := hy_18
    obtain ⟨hs_19, hy_19⟩ := hH108 19 (by decide)
    obtain ⟨hv_19, hr_19⟩ := hy_19
    obtain ⟨hs_20, hy_20⟩ := hH108 20 (by decide)
    obtain ⟨hv_20, hr_20⟩ := hy_20
    obtain ⟨hs_21, hy_21⟩ := hH108 21 (by decide)
    obtain ⟨hv_21, hr_21⟩ := hy_21
    obtain ⟨hs_22, hy_22⟩ := hH108 22 (by decide)
    obtain ⟨hv_22, hr_22⟩ := hy_22
    obtain ⟨hs_23, hy_23⟩ := hH108 23 (by decide)
    obtain ⟨hv_23, hr_23⟩ := hy_23
    obtain ⟨hs_24, hy_24⟩ := hH108 24 (by decide)
    obtain ⟨hv_24, hr_24⟩ := hy_24
    obtain ⟨hs_25, hy_25⟩ := hH108 25 (by decide)
    obtain ⟨hv_25, hr_25⟩ := hy_25
    obtain ⟨hs_26, hy_26⟩ := hH108 26 (by decide)
    obtain ⟨hv_26, hr_26⟩ := hy_26
    obtain ⟨hs_27, hy_27⟩ := hH108 27 (by decide)
    obtain ⟨hv_27, hr_27⟩ := hy_27
    obtain ⟨hs_28, hy_28⟩ := hH108 28 (by decide)
    obtain ⟨hv_28, hr_28⟩ := hy_28
    obtain ⟨hs_29, hy_29⟩ := hH108 29 (by decide)
    obtain ⟨hv_29, hr_29⟩ := hy_29
    obtain ⟨hs_30, hy_30⟩ := hH108 30 (by decide)
    obtain ⟨hv_30, hr_30⟩ := hy_30
    have hS110 : Sep NoB w w105 [(blk b4 24 [vr]), (sl xl 1 l.length (ints l)), (sl vr 2 R.length (pairs R))] := by rw [show catR rsf109 0 31 = ([] : List Res) by (try simp only [catR, hr_0, hr_1, hr_2, hr_3, hr_4, hr_5, hr_6, hr_7, hr_8, hr_9, hr_10, hr_11, hr_12, hr_13, hr_14, hr_15, hr_16, hr_17, hr_18, hr_19, hr_20, hr_21, hr_22, hr_23, hr_24, hr_25, hr_26, hr_27, hr_28, hr_29, hr_30]); (try rfl)] at hS107; exact hS107
    rw [hv_18] at hs_18
    have hA111 : Fr 52 [] [(36, (Value.bool (!false))), (5, (Value.int .i64 (k : Int))), (2, (bptr b4 0)), (1, xl)] a104 := hA106.add (slot_ev hs_18 rfl); clear hA106
    rw [hv_21] at hs_21
    have hA112 : Fr 52 [] [(39, undef), (36, (Value.bool (!false))), (5, (Value.int .i64 (k : Int))), (2, (bptr b4 0)), (1, xl)] a104 := hA111.add (slot_ev hs_21 rfl); clear hA111
    rw [hv_25] at hs_25
    have hA113 : Fr 52 [] [(43, undef), (39, undef), (36, (Value.bool (!false))), (5, (Value.int .i64 (k : Int))), (2, (bptr b4 0)), (1, xl)] a104 := hA112.add (slot_ev hs_25 rfl); clear hA112
    rw [hv_30] at hs_30
    have hA114 : Fr 52 [] [(48, undef), (43, undef), (39, undef), (36, (Value.bool (!false))), (5, (Value.int .i64 (k : Int))), (2, (bptr b4 0)), (1, xl)] a104 := hA113.add (slot_ev hs_30 rfl); clear hA113
    clear hH108 hS107 hs_0 hs_1 hs_2 hs_3 hs_4 hs_5 hs_6 hs_7 hs_8 hs_9 hs_10 hs_11 hs_12 hs_13 hs_14 hs_15 hs_16 hs_17 hs_18 hs_19 hs_20 hs_21 hs_22 hs_23 hs_24 hs_25 hs_26 hs_27 hs_28 hs_29 hs_30
    clear hr_0
    clear hv_0
    clear hr_1
    clear hv_1
    clear hr_2
    clear hv_2
    clear hr_3
    clear hv_3
    clear hr_4
    clear hv_4
    clear hr_5
    clear hv_5
    clear hr_6
    clear hv_6
    clear hr_7
    clear hv_7
    clear hr_8
    clear hv_8
    clear hr_9
    clear hv_9
    clear hr_10
    clear hv_10
    clear hr_11
    clear hv_11
    clear hr_12
    clear hv_12
    clear hr_13
    clear hv_13
    clear hr_14
    clear hv_14
    clear hr_15
    clear hv_15
    clear hr_16
    clear hv_16
    clear hr_17
    clear hv_17
    clear hr_18
    clear hv_18
    clear hr_19
    clear hv_19
    clear hr_20
    clear hv_20
    clear hr_21
    clear hv_21
    clear hr_22
    clear hv_22
    clear hr_23
    clear hv_23
    clear hr_24
    clear hv_24
    clear hr_25
    clear hv_25
    clear hr_26
    clear hv_26
    clear hr_27
    clear hv_27
    clear hr_28
    clear hv_28
    clear hr_29
    clear hv_29
    clear hr_30
    clear hv_30
    refine skpU hA114 rfl rfl rfl rfl (by decide) fun a115 hA116 => ?_; clear hA114 a104
    refine skp hA116 rfl rfl rfl rfl rfl (by decide) fun a117 hA118 => ?_; clear hA116 a115
    refine st hA118 (op_pick_t rfl (hA118.ev rfl) (evc _ _)) rfl rfl (by decide) fun a119 hA120 => ?_; clear hA118 a117
    refine wl_nil ?_
    refine then_n ?_
    refine c_true hA120 rfl ?_
    refine c_seq ?_
    have hA121 := hA120.as [] rfl; clear hA120
    refine c_region ?_
    refine st hA121 (op_assign rfl (evc _ _)) rfl rfl (by decide) fun a122 hA123 => ?_; clear hA121 a119
    refine wl_nil ?_
    refine then_n ?_
    refine c_ret ?_
    refine blk_ret ?_
    refine then_ret ?_
    refine then_ret ?_
    refine blk_ret ?_
    refine then_ret ?_
    refine fin_run hA123 (.inl rfl) (run_results1 hA123 rfl (.tmp rfl)) ?_
    exact ⟨congrArg Value.bool (Eq.symm (by first | exact areB_len (by omega) | exact areB_no (k := k) (by omega) (rateAt_n1 (by omega)) | exact areB_no (k := k) (by omega) (rateAt_n2 (by omega) (by assumption)))), hS110.ext⟩
  ·skip
   rw [decide_eq_false hb37] at hA36
   refine c_false hA36 rfl ?_
   refine c_exit ?_
   refine then_exit ?_
   refine then_exit ?_
   refine blk_hit ?_
   refine then_n ?_
   refine c_seq ?_
   have hA124 := hA36.as [] rfl; clear hA36
   refine c_region ?_
   refine st hA124 (op_assign rfl (evc _ _)) rfl rfl (by decide) fun a125 hA126 => ?_; clear hA124 a35
   refine wl_nil ?_
   refine then_n ?_
   refine c_ret ?_
   refine fin_run hA126 (.inl rfl) (run_results1 hA126 rfl (.tmp rfl)) ?_
   exact ⟨congrArg Value.bool (Eq.symm (areB_yes (by omega) (fun i hi => hra_ i (by omega)))), hS28.ext⟩
 ·skip
  rw [decide_eq_false hb20] at hA19
  refine c_true hA19 rfl ?_
  refine c_seq ?_
  have hA127 := hA19.as [] rfl; clear hA19
  refine c_region ?_
  refine st hA127 (op_assign rfl (evc _ _)) rfl rfl (by decide) fun a128 hA129 => ?_; clear hA127 a18
  refine wl_nil ?_
  refine then_n ?_
  refine c_ret ?_
  refine then_ret ?_
  refine fin_run hA129 (.inl rfl) (run_results1 hA129 rfl (.tmp rfl)) ?_
  exact ⟨congrArg Value.bool (Eq.symm (by first | exact areB_len (by omega) | exact areB_no (k := k) (by omega) (rateAt_n1 (by omega)) | exact areB_no (k := k) (by omega) (rateAt_n2 (by omega) (by assumption)))), hS5.ext⟩
theorem list_ok (w : World) (l : List Int) (xl : Value) (hxl : SlAt w xl 1 l.length (ints l)) (hlen : l.length ≤ 1000000) :
  Calls Try.prog 39 #[xl] w (Ret fun v w' => Ext NoB w w' ∧ w'.ownsRow w.heap.size 3 1 v l.length (ints l)) := by
 refine calls_enter Try.func39 rfl fun a0 hA0 => ?_
 replace hA0 : Fr 5 [] [(0, xl)] a0 := hA0
 have hS0 : Sep NoB w w [(sl xl 1 l.length (ints l))] := sep_ro ⟨rfl, hxl, trivial⟩
 refine c_seq ?_
 refine c_region ?_
 refine st hA0 (op_assign rfl (evc _ _)) rfl rfl (by decide) fun a1 hA2 => ?_; clear hA0 a0
 refine wl_nil ?_
 refine then_n ?_
 refine c_seq ?_
 refine c_region ?_
 refine st hA2 (op_move rfl (hA2.ev rfl)) rfl rfl (by decide) fun a3 hA4 => ?_; clear hA2 a1
 have hS5 := hS0.nil_row 3 1; clear hS0
 refine stw hA4 (op_append hS5 rfl un_40 el_3 (evc _ _) (hA4.ev rfl) (i := 0) rfl (hS5.sk 1 rfl) (ints_one _) (by simp only [maxLen]; omega) (by omega)) rfl rfl (by decide) ?_
 intro a6 v9 w8 hS10 hA7
 have hS11 := hS10.row_say (i := 0) rfl (n' := l.length) (xs' := (ints l)) (by simp) (by simp); clear hS10 hA4 hS5 a3
 refine st hA7 (op_assign rfl (hA7.ev rfl)) rfl rfl (by decide) fun a12 hA13 => ?_; clear hA7 a6
 refine wl_nil ?_
 refine then_n ?_
 refine c_ret ?_
 refine fin_run hA13 (.inl rfl) (run_results1 hA13 rfl (.tmp rfl)) ?_
 exact ⟨hS11.ext, hS11.row_new (i := 0) rfl⟩
end Go.Proofs.Ytkkglkdnnfegkaa

namespace Go.Proofs.Ytkkglkdnnfegkaa
open Go.RowKit Go.Eng
def padU (l : List Int) (k : Nat) : List Int := (List.range 3).map fun i => if i < k then l.getD i 0 else 0
def padF (l : List Int) : List Int := padU l l.length
theorem padU_len (l : List Int) (k : Nat) : (padU l k).length = 3 := by simp [padU]
theorem padU_succ {l : List Int} {k : Nat} (h : k < 3) : (padU l k).set k (l.getD k 0) = padU l (k + 1) := by
  apply List.ext_getElem (by simp [padU])
  intro i h1 h2
  by_cases e : i = k
  · subst e; simp [padU]
  · rw [List.getElem_set_ne (fun h => e h.symm)]
    simp only [padU, List.getElem_map, List.getElem_range]
    by_cases h3 : i < k
    · rw [if_pos h3, if_pos (by omega)]
    · rw [if_neg h3, if_neg (by omega)]
end Go.Proofs.Ytkkglkdnnfegkaa

namespace Go.Proofs.Ytkkglkdnnfegkaa
open Go.RowKit Go.Shelf Go.Eng
set_option maxHeartbeats 1000000 in
theorem own_ok (w : World) (R : List (Int × Int)) (vr : Value) (hm : SlAt w vr 2 R.length (pairs R)) (l : List Int) (xl : Value) (hxl : SlAt w xl 1 l.length (ints l)) (hR3 : R.length ≤ 3) :
  Calls Try.prog 67 #[(Value.agg #[vr]), xl] w (Ret fun v w' => ∃ arr, arr.length = 3 ∧ (areB R l = true → arr = padF l) ∧ v = .tuple #[.agg (ints arr).toArray, .bool (areB R l)] ∧ Ext NoB w w') := by
 refine calls_enter Try.func67 rfl fun a0 hA0 => ?_
 replace hA0 : Fr 56 [] [(0, (Value.agg #[vr])), (1, xl)] a0 := hA0
 have hS0 : Sep NoB w w [(sl xl 1 l.length (ints l)), (sl vr 2 R.length (pairs R))] := sep_ro ⟨rfl, hxl, rfl, hm, trivial⟩
 refine c_seq ?_
 refine c_region ?_
 refine stw hA0 (op_box hS0 rfl (hA0.ev rfl) (cs := [vr]) rfl) rfl rfl (by decide) ?_
 rintro a1 _ w3 ⟨b4, rfl, hS5⟩ hA2; clear hA0 hS0 a0
 refine stw hA2 (op_alloc hS5 rfl ze_104 (cs := (ints ([0, 0, 0]))) rfl) rfl rfl (by decide) ?_
 rintro a6 _ w8 ⟨b9, rfl, hS10⟩ hA7; clear hA2 hS5 a1
 refine st hA7 (op_assign rfl (evc _ _)) rfl rfl (by decide) fun a11 hA12 => ?_; clear hA7 a6
 refine wl_nil ?_
 refine then_n ?_
 refine c_seq ?_
 refine c_seq ?_
 refine c_region ?_
 refine st hA12 (op_move rfl (hA12.ev rfl)) rfl rfl (by decide) fun a13 hA14 => ?_; clear hA12 a11
 refine st hA14 (op_lenS rfl un_40 (hA14.ev rfl) (hS10.sk 2 rfl)) rfl rfl (by decide) fun a15 hA16 => ?_; clear hA14 a13
 refine st hA16 (op_field rfl fd_33_0 (hA16.ev rfl)) rfl rfl (by decide) fun a17 hA18 => ?_; clear hA16 a15
 refine st hA18 (op_load1 rfl ty_28 (hA18.ev rfl) (hS10.bk 1 rfl) rfl) rfl rfl (by decide) fun a19 hA20 => ?_; clear hA18 a17
 refine st hA20 (op_lenS rfl un_28 (hA20.ev rfl) (hS10.sk 3 rfl)) rfl rfl (by decide) fun a21 hA22 => ?_; clear hA20 a19
 refine st hA22 (op_neq rfl (hA22.ev rfl) (hA22.ev rfl)) rfl rfl (by decide) fun a23 hA24 => ?_; clear hA22 a21
 refine wl_nil ?_
 refine then_n ?_
 by_cases hb25 : (l.length : Int) = (R.length : Int)
 ·skip
  rw [decide_eq_true hb25] at hA24
  refine c_false hA24 rfl ?_
  refine c_skip ?_
  refine then_n ?_
  refine c_seq ?_
  refine c_seq ?_
  have hA26 := hA24.as [(4, (bptr b9 0)), (2, (bptr b4 0)), (1, xl)] rfl; clear hA24
  refine c_region ?_
  refine st hA26 (op_move rfl (hA26.ev rfl)) rfl rfl (by decide) fun a27 hA28 => ?_; clear hA26 a23
  refine st hA28 (op_lenS rfl un_40 (hA28.ev rfl) (hS10.sk 2 rfl)) rfl rfl (by decide) fun a29 hA30 => ?_; clear hA28 a27
  refine st hA30 (op_move rfl (evc _ _)) rfl rfl (by decide) fun a31 hA32 => ?_; clear hA30 a29
  refine wl_nil ?_
  refine then_n ?_
  refine c_block ?_
  have hA33 := hA32.as [(17, (Value.int .i64 0)), (16, (Value.int .i64 (l.length : Int))), (15, xl), (4, (bptr b9 0)), (2, (bptr b4 0)), (1, xl)] rfl; clear hA32
  refine c_loop (G := Nat) (fun (k : Nat) a_ w_ => Fr 56 [] [(17, (Value.int .i64 (k : Int))), (16, (Value.int .i64 (l.length : Int))), (15, xl), (4, (bptr b9 0)), (2, (bptr b4 0)), (1, xl)] a_ ∧ Sep NoB w w_ [(blk b9 104 (ints (padU l k))), (blk b4 33 [vr]), (sl xl 1 l.length (ints l)), (sl vr 2 R.length (pairs R))] ∧ (k ≤ l.length) ∧ (l.length = R.length) ∧ (∀ i, i < k → rateAt R l i = true)) (fun k => l.length - k) 0 ⟨hA33.as _ rfl, hS10, by omega, by omega, (fun _ h => absurd h (Nat.not_lt_zero _))⟩ ?_
  clear hA33 hS10 a31
  rintro k a34 w36 ⟨hA35, hS37, hkk, hln, hra_⟩
  refine c_seq ?_
  refine c_region ?_
  refine st hA35 (op_lss rfl (hA35.ev rfl) (hA35.ev rfl)) rfl rfl (by decide) fun a38 hA39 => ?_; clear hA35 a34
  refine wl_nil ?_
  refine then_n ?_
  refine c_seq ?_
  by_cases hb40 : (k : Int) < (l.length : Int)
  ·skip
   rw [decide_eq_true hb40] at hA39
   refine c_true hA39 rfl ?_
   refine c_skip ?_
   refine then_n ?_
   refine c_seq ?_
   refine c_block ?_
   refine c_seq ?_
   refine c_region ?_
   refine st hA39 (op_move rfl (hA39.ev rfl)) rfl rfl (by decide) fun a41 hA42 => ?_; clear hA39 a38
   refine st hA42 (op_indexS rfl un_40 ty_3 (hA42.ev rfl) (i := k) (hA42.ev rfl) (hS37.sk 2 rfl) (by decide) (by omega)) rfl rfl (by decide) fun a43 hA44 => ?_; clear hA42 a41
   refine st hA44 (op_load1E rfl ty_3 (hA44.ev rfl) (hS37.sk 2 rfl) (ints_at (by omega))) rfl rfl (by decide) fun a45 hA46 => ?_; clear hA44 a43
   refine st hA46 (op_assign rfl (hA46.ev rfl)) rfl rfl (by decide) fun a47 hA48 => ?_; clear hA46 a45
   refine st hA48 (op_assign rfl (hA48.ev rfl)) rfl rfl (by decide) fun a49 hA50 => ?_; clear hA48 a47
   refine wl_nil ?_
   refine then_n ?_
   refine c_seq ?_
   refine c_seq ?_
   have hA51 := hA50.as [(7, (Value.int .i64 (l.getD k 0))), (6, (Value.int .i64 (k : Int))), (17, (Value.int .i64 (k : Int))), (16, (Value.int .i64 (l.length : Int))), (15, xl), (4, (bptr b9 0)), (2, (bptr b4 0)), (1, xl)] rfl; clear hA50
   rcases Bool.eq_false_or_eq_true ((decide (((R.getD k (0, 0)).1) ≤ (l.getD k 0)) && decide ((l.getD k 0) ≤ ((R.getD k (0, 0)).2)))) with hb53 | hb53
   ·skip
    have hq54 := hb53; simp only [Bool.and_eq_true, Bool.and_eq_false_iff, decide_eq_true_eq, decide_eq_false_iff_not] at hq54
    have hA55 := hA51.as [(7, (Value.int .i64 (l.getD k 0))), (6, (Value.int .i64 (k : Int))), (17, (Value.int .i64 (k : Int))), (16, (Value.int .i64 (l.length : Int))), (15, xl), (4, (bptr b9 0)), (2, (bptr b4 0)), (1, xl)] rfl; clear hA51
    by_cases hb57 : 0 < (k : Int)
    ·skip
     have hA58 := hA55.as [(7, (Value.int .i64 (l.getD k 0))), (6, (Value.int .i64 (k : Int))), (17, (Value.int .i64 (k : Int))), (16, (Value.int .i64 (l.length : Int))), (15, xl), (4, (bptr b9 0)), (2, (bptr b4 0)), (1, xl)] rfl; clear hA55
     refine c_drawV mixed hA58 hS37 25 [[], [], [1], [], [2, 3], [4], [5], [], [7], [], [8, 9], [10], [11], [0, 6, 12], [13], [14], [15], [15, 16], [15, 17], [18], [18], [18], [18, 21], [18, 20, 22], [18, 23]] [(fun (vs59 : Nat → Value) (v_ : Value) (rs_ : List Res) => v_ = (Value.int .i64 (l.getD k 0)) ∧ rs_ = []), (fun (vs59 : Nat → Value) (v_ : Value) (rs_ : List Res) => v_ = (bptr b4 0) ∧ rs_ = []), (fun (vs59 : Nat → Value) (v_ : Value) (rs_ : List Res) => v_ = vr ∧ rs_ = []), (fun (vs59 : Nat → Value) (v_ : Value) (rs_ : List Res) => v_ = (Value.int .i64 (k : Int)) ∧ rs_ = []), (fun (vs59 : Nat → Value) (v_ : Value) (rs_ : List Res) => v_ = (eptr vr (k * 2)) ∧ rs_ = []), (fun (vs59 : Nat → Value) (v_ : Value) (rs_ : List Res) => v_ = (eptr vr (k * 2 + 0)) ∧ rs_ = []), (fun (vs59 : Nat → Value) (v_ : Value) (rs_ : List Res) => v_ = (Value.int .i64 ((R.getD k (0, 0)).1)) ∧ rs_ = []), (fun (vs59 : Nat → Value) (v_ : Value) (rs_ : List Res) => v_ = (bptr b4 0) ∧ rs_ = []), (fun (vs59 : Nat → Value) (v_ : Value) (rs_ : List Res) => v_ = vr ∧ rs_ = []), (fun (vs59 : Nat → Value) (v_ : Value) (rs_ : List Res) => v_ = (Value.int .i64 (k : Int)) ∧ rs_ = []), (fun (vs59 : Nat → Value) (v_ : Value) (rs_ : List Res) => v_ = (eptr vr (k * 2)) ∧ rs_ = []), (fun (vs59 : Nat → Value) (v_ : Value) (rs_ : List Res) => v_ = (eptr vr (k * 2 + 1)) ∧ rs_ = []), (fun (vs59 : Nat → Value) (v_ : Value) (rs_ : List Res) => v_ = (Value.int .i64 ((R.getD k (0, 0)).2)) ∧ rs_ = []), (fun (vs59 : Nat → Value) (v_ : Value) (rs_ : List Res) => v_ = (Value.bool true) ∧ rs_ = []), (fun (vs59 : Nat → Value) (v_ : Value) (rs_ : List Res) => v_ = (Value.bool (!true)) ∧ rs_ = []), (fun (vs59 : Nat → Value) (v_ : Value) (rs_ : List Res) => v_ = (Value.bool (!true)) ∧ rs_ = []), (fun (vs59 : Nat → Value) (v_ : Value) (rs_ : List Res) => v_ = (Value.int .i64 (k : Int)) ∧ rs_ = []), (fun (vs59 : Nat → Value) (v_ : Value) (rs_ : List Res) => v_ = (Value.bool true) ∧ rs_ = []), (fun (vs59 : Nat → Value) (v_ : Value) (rs_ : List Res) => v_ = (Value.bool true) ∧ rs_ = []), (fun (vs59 : Nat → Value) (v_ : Value) (rs_ : List Res) => v_ = (Value.int .i64 (l.getD k 0)) ∧ rs_ = []), (fun (vs59 : Nat → Value) (v_ : Value) (rs_ : List Res) => v_ = xl ∧ rs_ = []), (fun (vs59 : Nat → Value) (v_ : Value) (rs_ : List Res) => v_ = (Value.int .i64 (k : Int)) ∧ rs_ = []), (fun (vs59 : Nat → Value) (v_ : Value) (rs_ : List Res) => v_ = (Value.int .i64 ((k : Int) - 1)) ∧ rs_ = []), (fun (vs59 : Nat → Value) (v_ : Value) (rs_ : List Res) => v_ = (eptr xl (((k : Int) - 1).toNat * 1)) ∧ rs_ = []), (fun (vs59 : Nat → Value) (v_ : Value) (rs_ : List Res) => v_ = (Value.int .i64 (l.getD (((k : Int) - 1).toNat) 0)) ∧ rs_ = [])] (by decide +kernel) (by decide +kernel) rfl rfl ⟨(fun _ _ _ _ _ h_ => h_), (fun _ _ _ _ _ h_ => h_), (fun _ _ _ _ _ h_ => h_), (fun _ _ _ _ _ h_ => h_), (fun _ _ _ _ _ h_ => h_), (fun _ _ _ _ _ h_ => h_), (fun _ _ _ _ _ h_ => h_), (fun _ _ _ _ _ h_ => h_), (fun _ _ _ _ _ h_ => h_), (fun _ _ _ _ _ h_ => h_), (fun _ _ _ _ _ h_ => h_), (fun _ _ _ _ _ h_ => h_), (fun _ _ _ _ _ h_ => h_), (fun _ _ _ _ _ h_ => h_), (fun _ _ _ _ _ h_ => h_), (fun _ _ _ _ _ h_ => h_), (fun _ _ _ _ _ h_ => h_), (fun _ _ _ _ _ h_ => h_), (fun _ _ _ _ _ h_ => h_), (fun _ _ _ _ _ h_ => h_), (fun _ _ _ _ _ h_ => h_), (fun _ _ _ _ _ h_ => h_), (fun _ _ _ _ _ h_ => h_), (fun _ _ _ _ _ h_ => h_), (fun _ _ _ _ _ h_ => h_), trivial⟩ ?_ ?_
     ·skip
      refine ⟨fun a w vs59 hA hS hd => ?_, ?_⟩
      ·skip
       exact opG_of rfl (vv (op_move rfl (hA.ev rfl)) (And.intro rfl rfl))
      refine ⟨fun a w vs59 hA hS hd => ?_, ?_⟩
      ·skip
       exact opG_of rfl (vv (op_field rfl fd_33_0 (hA.ev rfl)) (And.intro rfl rfl))
      refine ⟨fun a w vs59 hA hS hd => ?_, ?_⟩
      ·skip
       obtain ⟨e1, rs1, hy1, hp1⟩ := hd 1 (by decide)
       obtain ⟨hv1, hr1⟩ := hy1; subst hr1
       rw [hv1] at e1
       exact opG_of rfl (vv (op_load1 rfl ty_28 (tmp_ev (slot_ev e1 rfl)) (hS.bk 1 rfl) rfl) (And.intro rfl rfl))
      refine ⟨fun a w vs59 hA hS hd => ?_, ?_⟩
      ·skip
       exact opG_of rfl (vv (op_move rfl (hA.ev rfl)) (And.intro rfl rfl))
      refine ⟨fun a w vs59 hA hS hd => ?_, ?_⟩
      ·skip
       obtain ⟨e2, rs2, hy2, hp2⟩ := hd 2 (by decide)
       obtain ⟨hv2, hr2⟩ := hy2; subst hr2
       rw [hv2] at e2
       obtain ⟨e3, rs3, hy3, hp3⟩ := hd 3 (by decide)
       obtain ⟨hv3, hr3⟩ := hy3; subst hr3
       rw [hv3] at e3
       exact opG_of rfl (vv (op_indexS rfl un_28 ty_42 (tmp_ev (slot_ev e2 rfl)) (i := k) (tmp_ev (slot_ev e3 rfl)) (hS.sk 3 rfl) (by decide) (by omega)) (And.intro rfl rfl))
      refine ⟨fun a w vs59 hA hS hd => ?_, ?_⟩
      ·skip
       obtain ⟨e4, rs4, hy4, hp4⟩ := hd 4 (by decide)
       obtain ⟨hv4, hr4⟩ := hy4; subst hr4
       rw [hv4] at e4
       exact opG_of rfl (vv (op_fieldS rfl fd_42_0 (tmp_ev (slot_ev e4 rfl)) (hS.sk 3 rfl) (by rw [((hS.sk 3 rfl)).1]; omega)) (And.intro rfl rfl))
      refine ⟨fun a w vs59 hA hS hd => ?_, ?_⟩
      ·skip
       obtain ⟨e5, rs5, hy5, hp5⟩ := hd 5 (by decide)
       obtain ⟨hv5, hr5⟩ := hy5; subst hr5
       rw [hv5] at e5
       exact opG_of rfl (vv (op_load1E rfl ty_3 (tmp_ev (slot_ev e5 rfl)) (hS.sk 3 rfl) (pairs_at0 (by omega))) (And.intro rfl rfl))
      refine ⟨fun a w vs59 hA hS hd => ?_, ?_⟩
      ·skip
       exact opG_of rfl (vv (op_field rfl fd_33_0 (hA.ev rfl)) (And.intro rfl rfl))
      refine ⟨fun a w vs59 hA hS hd => ?_, ?_⟩
      ·skip
       obtain ⟨e7, rs7, hy7, hp7⟩ := hd 7 (by decide)
       obtain ⟨hv7, hr7⟩ := hy7; subst hr7
       rw [hv7] at e7
       exact opG_of rfl (vv (op_load1 rfl ty_28 (tmp_ev (slot_ev e7 rfl)) (hS.bk 1 rfl) rfl) (And.intro rfl rfl))
      refine ⟨fun a w vs59 hA hS hd => ?_, ?_⟩
      ·skip
       exact opG_of rfl (vv (op_move rfl (hA.ev rfl)) (And.intro rfl rfl))
      refine ⟨fun a w vs59 hA hS hd => ?_, ?_⟩
      ·skip
       obtain ⟨e8, rs8, hy8, hp8⟩ := hd 8 (by decide)
       obtain ⟨hv8, hr8⟩ := hy8; subst hr8
       rw [hv8] at e8
       obtain ⟨e9, rs9, hy9, hp9⟩ := hd 9 (by decide)
       obtain ⟨hv9, hr9⟩ := hy9; subst hr9
       rw [hv9] at e9
       exact opG_of rfl (vv (op_indexS rfl un_28 ty_42 (tmp_ev (slot_ev e8 rfl)) (i := k) (tmp_ev (slot_ev e9 rfl)) (hS.sk 3 rfl) (by decide) (by omega)) (And.intro rfl rfl))
      refine ⟨fun a w vs59 hA hS hd => ?_, ?_⟩
      ·skip
       obtain ⟨e10, rs10, hy10, hp10⟩ := hd 10 (by decide)
       obtain ⟨hv10, hr10⟩ := hy10; subst hr10
       rw [hv10] at e10
       exact opG_of rfl (vv (op_fieldS rfl fd_42_1 (tmp_ev (slot_ev e10 rfl)) (hS.sk 3 rfl) (by rw [((hS.sk 3 rfl)).1]; omega)) (And.intro rfl rfl))
      refine ⟨fun a w vs59 hA hS hd => ?_, ?_⟩
      ·skip
       obtain ⟨e11, rs11, hy11, hp11⟩ := hd 11 (by decide)
       obtain ⟨hv11, hr11⟩ := hy11; subst hr11
       rw [hv11] at e11
       exact opG_of rfl (vv (op_load1E rfl ty_3 (tmp_ev (slot_ev e11 rfl)) (hS.sk 3 rfl) (pairs_at1 (by omega))) (And.intro rfl rfl))
      refine ⟨fun a w vs59 hA hS hd => ?_, ?_⟩
      ·skip
       obtain ⟨e0, rs0, hy0, hp0⟩ := hd 0 (by decide)
       obtain ⟨hv0, hr0⟩ := hy0; subst hr0
       rw [hv0] at e0
       obtain ⟨e6, rs6, hy6, hp6⟩ := hd 6 (by decide)
       obtain ⟨hv6, hr6⟩ := hy6; subst hr6
       rw [hv6] at e6
       obtain ⟨e12, rs12, hy12, hp12⟩ := hd 12 (by decide)
       obtain ⟨hv12, hr12⟩ := hy12; subst hr12
       rw [hv12] at e12
       exact opG_of rfl (vv (op_call rfl en_56 (ev3 (tmp_ev (slot_ev e0 rfl)) (tmp_ev (slot_ev e6 rfl)) (tmp_ev (slot_ev e12 rfl))) (within_ok _ _ _ _)) (And.intro (by show Value.bool _ = _; simp only [hb53, decide_true, decide_false, Bool.not_true, Bool.not_false]) rfl))
      refine ⟨fun a w vs59 hA hS hd => ?_, ?_⟩
      ·skip
       obtain ⟨e13, rs13, hy13, hp13⟩ := hd 13 (by decide)
       obtain ⟨hv13, hr13⟩ := hy13; subst hr13
       rw [hv13] at e13
       exact opG_of rfl (vv (op_not rfl (tmp_ev (slot_ev e13 rfl))) (And.intro rfl rfl))
      refine ⟨fun a w vs59 hA hS hd => ?_, ?_⟩
      ·skip
       obtain ⟨e14, rs14, hy14, hp14⟩ := hd 14 (by decide)
       obtain ⟨hv14, hr14⟩ := hy14; subst hr14
       rw [hv14] at e14
       exact opG_of rfl (vv (op_move rfl (tmp_ev (slot_ev e14 rfl))) (And.intro rfl rfl))
      refine ⟨fun a w vs59 hA hS hd => ?_, ?_⟩
      ·skip
       obtain ⟨e15, rs15, hy15, hp15⟩ := hd 15 (by decide)
       obtain ⟨hv15, hr15⟩ := hy15; subst hr15
       rw [hv15] at e15
       exact opG_yes rfl rfl (slot_ev e15 rfl) (vv (op_move rfl (hA.ev rfl)) (And.intro rfl rfl))
      refine ⟨fun a w vs59 hA hS hd => ?_, ?_⟩
      ·skip
       obtain ⟨e15, rs15, hy15, hp15⟩ := hd 15 (by decide)
       obtain ⟨hv15, hr15⟩ := hy15; subst hr15
       rw [hv15] at e15
       obtain ⟨e16, rs16, hy16, hp16⟩ := hd 16 (by decide)
       obtain ⟨hv16, hr16⟩ := hy16; subst hr16
       rw [hv16] at e16
       exact opG_yes rfl rfl (slot_ev e15 rfl) (vv (op_gtr rfl (tmp_ev (slot_ev e16 rfl)) (evc _ _)) (And.intro (by show Value.bool _ = _; simp only [decide_eq_true hb57, decide_true, decide_false, Bool.not_true, Bool.not_false]) rfl))
      refine ⟨fun a w vs59 hA hS hd => ?_, ?_⟩
      ·skip
       obtain ⟨e15, rs15, hy15, hp15⟩ := hd 15 (by decide)
       obtain ⟨hv15, hr15⟩ := hy15; subst hr15
       rw [hv15] at e15
       obtain ⟨e17, rs17, hy17, hp17⟩ := hd 17 (by decide)
       obtain ⟨hv17, hr17⟩ := hy17; subst hr17
       rw [hv17] at e17
       exact opG_yes rfl rfl (slot_ev e15 rfl) (vv (op_move rfl (tmp_ev (slot_ev e17 rfl))) (And.intro rfl rfl))
      refine ⟨fun a w vs59 hA hS hd => ?_, ?_⟩
      ·skip
       obtain ⟨e18, rs18, hy18, hp18⟩ := hd 18 (by decide)
       obtain ⟨hv18, hr18⟩ := hy18; subst hr18
       rw [hv18] at e18
       exact opG_yes rfl rfl (slot_ev e18 rfl) (vv (op_move rfl (hA.ev rfl)) (And.intro rfl rfl))
      refine ⟨fun a w vs59 hA hS hd => ?_, ?_⟩
      ·skip
       obtain ⟨e18, rs18, hy18, hp18⟩ := hd 18 (by decide)
       obtain ⟨hv18, hr18⟩ := hy18; subst hr18
       rw [hv18] at e18
       exact opG_yes rfl rfl (slot_ev e18 rfl) (vv (op_move rfl (hA.ev rfl)) (And.intro rfl rfl))
      refine ⟨fun a w vs59 hA hS hd => ?_, ?_⟩
      ·skip
       obtain ⟨e18, rs18, hy18, hp18⟩ := hd 18 (by decide)
       obtain ⟨hv18, hr18⟩ := hy18; subst hr18
       rw [hv18] at e18
       exact opG_yes rfl rfl (slot_ev e18 rfl) (vv (op_move rfl (hA.ev rfl)) (And.intro rfl rfl))
      refine ⟨fun a w vs59 hA hS hd => ?_, ?_⟩
      ·skip
       obtain ⟨e18, rs18, hy18, hp18⟩ := hd 18 (by decide)
       obtain ⟨hv18, hr18⟩ := hy18; subst hr18
       rw [hv18] at e18
       obtain ⟨e21, rs21, hy21, hp21⟩ := hd 21 (by decide)
       obtain ⟨hv21, hr21⟩ := hy21; subst hr21
       rw [hv21] at e21
       exact opG_yes rfl rfl (slot_ev e18 rfl) (vv (op_sub rfl (tmp_ev (slot_ev e21 rfl)) (evc _ _) (by omega) (by omega)) (And.intro rfl rfl))
      refine ⟨fun a w vs59 hA hS hd => ?_, ?_⟩
      ·skip
       obtain ⟨e18, rs18, hy18, hp18⟩ := hd 18 (by decide)
       obtain ⟨hv18, hr18⟩ := hy18; subst hr18
       rw [hv18] at e18
       obtain ⟨e20, rs20, hy20, hp20⟩ := hd 20 (by decide)
       obtain ⟨hv20, hr20⟩ := hy20; subst hr20
       rw [hv20] at e20
       obtain ⟨e22, rs22, hy22, hp22⟩ := hd 22 (by decide)
       obtain ⟨hv22, hr22⟩ := hy22; subst hr22
       rw [hv22] at e22
       exact opG_yes rfl rfl (slot_ev e18 rfl) (vv (op_indexS rfl un_40 ty_3 (tmp_ev (slot_ev e20 rfl)) (i := ((k : Int) - 1).toNat) ((tmp_ev (slot_ev e22 rfl)).trans (int_nat (by omega))) (hS.sk 2 rfl) (by decide) (by omega)) (And.intro rfl rfl))
      refine ⟨fun a w vs59 hA hS hd => ?_, ?_⟩
      ·skip
       obtain ⟨e18, rs18, hy18, hp18⟩ := hd 18 (by decide)
       obtain ⟨hv18, hr18⟩ := hy18; subst hr18
       rw [hv18] at e18
       obtain ⟨e23, rs23, hy23, hp23⟩ := hd 23 (by decide)
       obtain ⟨hv23, hr23⟩ := hy23; subst hr23
       rw [hv23] at e23
       exact opG_yes rfl rfl (slot_ev e18 rfl) (vv (op_load1E rfl ty_3 (tmp_ev (slot_ev e23 rfl)) (hS.sk 2 rfl) (ints_at (by omega))) (And.intro rfl rfl))
      trivial
     intro a60 w61 vs59 rsf65 hA62 hH64 hS63; clear hA58 hS37
     obtain ⟨hs_0, hy_0⟩ := hH64 0 (by decide)
     obtain ⟨hv_0, hr_0⟩ := hy_0
     obtain ⟨hs_1, hy_1⟩ := hH64 1 (by decide)
     obtain ⟨hv_1, hr_1⟩ := hy_1
     obtain ⟨hs_2, hy_2⟩ := hH64 2 (by decide)
     obtain ⟨hv_2, hr_2⟩ := hy_2
     obtain ⟨hs_3, hy_3⟩ := hH64 3 (by decide)
     obtain ⟨hv_3, hr_3⟩ := hy_3
     obtain ⟨hs_4, hy_4⟩ := hH64 4 (by decide)
     obtain ⟨hv_4, hr_4⟩ := hy_4
     obtain ⟨hs_5, hy_5⟩ := hH64 5 (by decide)
     obtain ⟨hv_5, hr_5⟩ := hy_5
     obtain ⟨hs_6, hy_6⟩ := hH64 6 (by decide)
     obtain ⟨hv_6, hr_6⟩ := hy_6
     obtain ⟨hs_7, hy_7⟩ := hH64 7 (by decide)
     obtain ⟨hv_7, hr_7⟩ := hy_7
     obtain ⟨hs_8, hy_8⟩ := hH64 8 (by decide)
     obtain ⟨hv_8, hr_8⟩ := hy_8
     obtain ⟨hs_9, hy_9⟩ := hH64 9 (by decide)
     obtain ⟨hv_9, hr_9⟩ := hy_9
     obtain ⟨hs_10, hy_10⟩ := hH64 10 (by decide)
     obtain ⟨hv_10, hr_10⟩ := hy_10
     obtain ⟨hs_11, hy_11⟩ := hH64 11 (by decide)
     obtain ⟨hv_11, hr_11⟩ := hy_11
     obtain ⟨hs_12, hy_12⟩ := hH64 12 (by decide)
     obtain ⟨hv_12, hr_12⟩ := hy_12
     obtain ⟨hs_13, hy_13⟩ := hH64 13 (by decide)
     obtain ⟨hv_13, hr_13⟩ := hy_13
     obtain ⟨hs_14, hy_14⟩ := hH64 14 (by decide)
     obtain ⟨hv_14, hr_14⟩ := hy_14
     obtain ⟨hs_15, hy_15⟩ := hH64 15 (by decide)
     obtain ⟨hv_15, hr_15⟩ := hy_15
     obtain ⟨hs_16, hy_16⟩ := hH64 16 (by decide)
     obtain ⟨hv_16, hr_16⟩ := hy_16
     obtain ⟨hs_17, hy_17⟩ := hH64 17 (by decide)
     obtain ⟨hv_17, hr_17⟩ := hy_17
     obtain ⟨hs_18, hy_18⟩ := hH64 18 (by decide)
     obtain ⟨hv_18, hr_18⟩ := hy_18
     obtain ⟨hs_19, hy_19⟩ := hH64 19 (by decide)
     obtain ⟨hv_19, hr_19⟩ := hy_19
     obtain ⟨hs_20, hy_20⟩ := hH64 20 (by decide)
     obtain ⟨hv_20, hr_20⟩ := hy_20
     obtain ⟨hs_21, hy_21⟩ := hH64 21 (by decide)
     obtain ⟨hv_21, hr_21⟩ := hy_21
     obtain ⟨hs_22, hy_22⟩ := hH64 22 (by decide)
     obtain ⟨hv_22, hr_22⟩ := hy_22
     obtain ⟨hs_23, hy_23⟩ := hH64 23 (by decide)
     obtain ⟨hv_23, hr_23⟩ := hy_23
     obtain ⟨hs_24, hy_24⟩ := hH64 24 (by decide)
     obtain ⟨hv_24, hr_24⟩ := hy_24
     have hS66 : Sep NoB w w61 [(blk b9 104 (ints (padU l k))), (blk b4 33 [vr]), (sl xl 1 l.length (ints l)), (sl vr 2 R.length (pairs R))] := by rw [show catR rsf65 0 25 = ([] : List Res) by (try simp only [catR, hr_0, hr_1, hr_2, hr_3, hr_4, hr_5, hr_6, hr_7, hr_8, hr_9, hr_10, hr_11, hr_12, hr_13, hr_14, hr_15, hr_16, hr_17, hr_18, hr_19, hr_20, hr_21, hr_22, hr_23, hr_24]); (try rfl)] at hS63; exact hS63
     rw [hv_15] at hs_15
     have hA67 : Fr 56 [] [(37, (Value.bool (!true))), (7, (Value.int .i64 (l.getD k 0))), (6, (Value.int .i64 (k : Int))), (17, (Value.int .i64 (k : Int))), (16, (Value.int .i64 (l.length : Int))), (15, xl), (4, (bptr b9 0)), (2, (bptr b4 0)), (1, xl)] a60 := hA62.add (slot_ev hs_15 rfl); clear hA62
     rw [hv_18] at hs_18
     have hA68 : Fr 56 [] [(40, (Value.bool true)), (37, (Value.bool (!true))), (7, (Value.int .i64 (l.getD k 0))), (6, (Value.int .i64 (k : Int))), (17, (Value.int .i64 (k : Int))), (16, (Value.int .i64 (l.length : Int))), (15, xl), (4, (bptr b9 0)), (2, (bptr b4 0)), (1, xl)] a60 := hA67.add (slot_ev hs_18 rfl); clear hA67
     rw [hv_19] at hs_19
     have hA69 : Fr 56 [] [(41, (Value.int .i64 (l.getD k 0))), (40, (Value.bool true)), (37, (Value.bool (!true))), (7, (Value.int .i64 (l.getD k 0))), (6, (Value.int .i64 (k : Int))), (17, (Value.int .i64 (k : Int))), (16, (Value.int .i64 (l.length : Int))), (15, xl), (4, (bptr b9 0)), (2, (bptr b4 0)), (1, xl)] a60 := hA68.add (slot_ev hs_19 rfl); clear hA68
     rw [hv_24] at hs_24
     have hA70 : Fr 56 [] [(46, (Value.int .i64 (l.getD (((k : Int) - 1).toNat) 0))), (41, (Value.int .i64 (l.getD k 0))), (40, (Value.bool true)), (37, (Value.bool (!true))), (7, (Value.int .i64 (l.getD k 0))), (6, (Value.int .i64 (k : Int))), (17, (Value.int .i64 (k : Int))), (16, (Value.int .i64 (l.length : Int))), (15, xl), (4, (bptr b9 0)), (2, (bptr b4 0)), (1, xl)] a60 := hA69.add (slot_ev hs_24 rfl); clear hA69
     clear hH64 hS63 hs_0 hs_1 hs_2 hs_3 hs_4 hs_5 hs_6 hs_7 hs_8 hs_9 hs_10 hs_11 hs_12 hs_13 hs_14 hs_15 hs_16 hs_17 hs_18 hs_19 hs_20 hs_21 hs_22 hs_23 hs_24
     clear hr_0
     clear hv_0
     clear hr_1
     clear hv_1
     clear hr_2
     clear hv_2
     clear hr_3
     clear hv_3
     clear hr_4
     clear hv_4
     clear hr_5
     clear hv_5
     clear hr_6
     clear hv_6
     clear hr_7
     clear hv_7
     clear hr_8
     clear hv_8
     clear hr_9
     clear hv_9
     clear hr_10
     clear hv_10
     clear hr_11
     clear hv_11
     clear hr_12
     clear hv_12
     clear hr_13
     clear hv_13
     clear hr_14
     clear hv_14
     clear hr_15
     clear hv_15
     clear hr_16
     clear hv_16
     clear hr_17
     clear hv_17
     clear hr_18
     clear hv_18
     clear hr_19
     clear hv_19
     clear hr_20
     clear hv_20
     clear hr_21
     clear hv_21
     clear hr_22
     clear hv_22
     clear hr_23
     clear hv_23
     clear hr_24
     clear hv_24
     refine stg hA70 (op_lss rfl (hA70.ev rfl) (hA70.ev rfl)) rfl rfl rfl rfl (by decide) fun a71 hA72 => ?_; clear hA70 a60
     refine stg hA72 (op_pick_t rfl (hA72.ev rfl) (hA72.ev rfl)) rfl rfl rfl rfl (by decide) fun a73 hA74 => ?_; clear hA72 a71
     refine st hA74 (op_pick_f rfl (hA74.ev rfl) (hA74.ev rfl)) rfl rfl (by decide) fun a75 hA76 => ?_; clear hA74 a73
     refine wl_nil ?_
     refine then_n ?_
     by_cases hb77 : (l.getD k 0) < (l.getD (((k : Int) - 1).toNat) 0)
     ·skip
      rw [decide_eq_true hb77] at hA76
      refine c_true hA76 rfl ?_
      refine c_seq ?_
      have hA78 := hA76.as [(4, (bptr b9 0))] rfl; clear hA76
      refine c_region ?_
      refine st hA78 (op_loadA rfl ty_104 (hA78.ev rfl) (hS66.bk 0 rfl) (l := (ints (padU l k))) (drop_take_all _ _ (by rw [ints, List.length_map, padU_len])) (by rw [ints, List.length_map, padU_len])) rfl rfl (by decide) fun a79 hA80 => ?_; clear hA78 a75
      refine sts hA80 (op_store hS66 rfl ty_104 (hA80.ev rfl) (hA80.ev rfl) (i := 0) rfl (vs := (ints (padU l k))) rfl (by rw [ints, List.length_map, padU_len]) (ints_one _) (by rw [ints, List.length_map, padU_len]; omega)) rfl rfl ?_
      intro _ w81 hS82 hA84; have hS83 := hS82.blk_say (i := 0) rfl (cs' := (ints (padU l k))) (setFrom_all _ _ (by rfl)); clear hS82 hA80 hS66
      refine st hA84 (op_assign rfl (evc _ _)) rfl rfl (by decide) fun a85 hA86 => ?_; clear hA84 a79
      refine wl_nil ?_
      refine then_n ?_
      refine c_ret ?_
      refine then_ret ?_
      refine blk_ret ?_
      refine then_ret ?_
      refine then_ret ?_
      refine blk_ret ?_
      refine then_ret ?_
      refine fin_run hA86 (.inl rfl) (run_results2 hA86 rfl (.cellA rfl ty_104 (hS83.bk 0 rfl) (l := (ints (padU l k))) (drop_take_all _ _ (by rw [ints, List.length_map, padU_len])) (by rw [ints, List.length_map, padU_len])) (.tmp rfl)) ?_
      have hz : areB R l = false := by first | exact areB_len (by omega) | exact areB_no (k := k) (by omega) (rateAt_n1 (by omega)) | exact areB_no (k := k) (by omega) (rateAt_n2 (by omega) (by assumption))
      exact ⟨(padU l k), (by first | rfl | exact padU_len _ _), (fun h => absurd (hz.symm.trans h) (by decide)), by rw [hz], hS83.ext⟩
     ·skip
      rw [decide_eq_false hb77] at hA76
      refine c_false hA76 rfl ?_
      refine c_skip ?_
      refine then_n ?_
      have hA87 := hA76.as [(7, (Value.int .i64 (l.getD k 0))), (6, (Value.int .i64 (k : Int))), (17, (Value.int .i64 (k : Int))), (16, (Value.int .i64 (l.length : Int))), (15, xl), (4, (bptr b9 0)), (2, (bptr b4 0)), (1, xl)] rfl; clear hA76
      refine c_region ?_
      refine st hA87 (op_move rfl (hA87.ev rfl)) rfl rfl (by decide) fun a88 hA89 => ?_; clear hA87 a75
      refine st hA89 (op_move rfl (hA89.ev rfl)) rfl rfl (by decide) fun a90 hA91 => ?_; clear hA89 a88
      refine st hA91 (op_indexA rfl un_104 ty_3 (hA91.ev rfl) (i := k) (hA91.ev rfl) (by omega)) rfl rfl (by decide) fun a92 hA93 => ?_; clear hA91 a90
      refine sts hA93 (op_store hS66 rfl ty_3 (hA93.ev rfl) (hA93.ev rfl) (i := 0) rfl (vs := [(Value.int .i64 (l.getD k 0))]) rfl rfl rfl (by rw [ints, List.length_map, padU_len]; omega)) rfl rfl ?_
      intro _ w94 hS95 hA97; have hS96 := hS95.blk_say (i := 0) rfl (cs' := (ints (padU l (k + 1)))) (by rw [setFrom_one, Nat.mul_one, Nat.zero_add, ints_set, padU_succ (by omega)]); clear hS95 hA93 hS66
      refine wl_nil ?_
      refine blk_n ?_
      refine then_n ?_
      refine c_region ?_
      refine st hA97 (op_add rfl (hA97.ev rfl) (evc _ _) (by omega) (by omega)) rfl rfl (by decide) fun a98 hA99 => ?_; clear hA97 a92
      refine st hA99 (op_move rfl (hA99.ev rfl)) rfl rfl (by decide) fun a100 hA101 => ?_; clear hA99 a98
      refine wl_nil ?_
      exact then_n ⟨k + 1, ⟨hA101.as _ rfl, hS96, by omega, hln, (fun i hi => by rcases Nat.lt_succ_iff_lt_or_eq.1 hi with h | h; exact hra_ i h; subst h; exact rateAt_y1 (by omega) (by first | exact .inr (.inr (by assumption)) | exact .inr (.inl (by omega))))⟩, by omega⟩
    ·skip
     have hA102 := hA55.as [(7, (Value.int .i64 (l.getD k 0))), (6, (Value.int .i64 (k : Int))), (17, (Value.int .i64 (k : Int))), (16, (Value.int .i64 (l.length : Int))), (15, xl), (4, (bptr b9 0)), (2, (bptr b4 0)), (1, xl)] rfl; clear hA55
     refine c_drawV mixed hA102 hS37 25 [[], [], [1], [], [2, 3], [4], [5], [], [7], [], [8, 9], [10], [11], [0, 6, 12], [13], [14], [15], [15, 16], [15, 17], [18], [18], [18], [18, 21], [18, 20, 22], [18, 23]] [(fun (vs103 : Nat → Value) (v_ : Value) (rs_ : List Res) => v_ = (Value.int .i64 (l.getD k 0)) ∧ rs_ = []), (fun (vs103 : Nat → Value) (v_ : Value) (rs_ : List Res) => v_ = (bptr b4 0) ∧ rs_ = []), (fun (vs103 : Nat → Value) (v_ : Value) (rs_ : List Res) => v_ = vr ∧ rs_ = []), (fun (vs103 : Nat → Value) (v_ : Value) (rs_ : List Res) => v_ = (Value.int .i64 (k : Int)) ∧ rs_ = []), (fun (vs103 : Nat → Value) (v_ : Value) (rs_ : List Res) => v_ = (eptr vr (k * 2)) ∧ rs_ = []), (fun (vs103 : Nat → Value) (v_ : Value) (rs_ : List Res) => v_ = (eptr vr (k * 2 + 0)) ∧ rs_ = []), (fun (vs103 : Nat → Value) (v_ : Value) (rs_ : List Res) => v_ = (Value.int .i64 ((R.getD k (0, 0)).1)) ∧ rs_ = []), (fun (vs103 : Nat → Value) (v_ : Value) (rs_ : List Res) => v_ = (bptr b4 0) ∧ rs_ = []), (fun (vs103 : Nat → Value) (v_ : Value) (rs_ : List Res) => v_ = vr ∧ rs_ = []), (fun (vs103 : Nat → Value) (v_ : Value) (rs_ : List Res) => v_ = (Value.int .i64 (k : Int)) ∧ rs_ = []), (fun (vs103 : Nat → Value) (v_ : Value) (rs_ : List Res) => v_ = (eptr vr (k * 2)) ∧ rs_ = []), (fun (vs103 : Nat → Value) (v_ : Value) (rs_ : List Res) => v_ = (eptr vr (k * 2 + 1)) ∧ rs_ = []), (fun (vs103 : Nat → Value) (v_ : Value) (rs_ : List Res) => v_ = (Value.int .i64 ((R.getD k (0, 0)).2)) ∧ rs_ = []), (fun (vs103 : Nat → Value) (v_ : Value) (rs_ : List Res) => v_ = (Value.bool true) ∧ rs_ = []), (fun (vs103 : Nat → Value) (v_ : Value) (rs_ : List Res) => v_ = (Value.bool (!true)) ∧ rs_ = []), (fun (vs103 : Nat → Value) (v_ : Value) (rs_ : List Res) => v_ = (Value.bool (!true)) ∧ rs_ = []), (fun (vs103 : Nat → Value) (v_ : Value) (rs_ : List Res) => v_ = (Value.int .i64 (k : Int)) ∧ rs_ = []), (fun (vs103 : Nat → Value) (v_ : Value) (rs_ : List Res) => v_ = (Value.bool false) ∧ rs_ = []), (fun (vs103 : Nat → Value) (v_ : Value) (rs_ : List Res) => v_ = (Value.bool false) ∧ rs_ = []), (fun (vs103 : Nat → Value) (v_ : Value) (rs_ : List Res) => v_ = undef ∧ rs_ = []), (fun (vs103 : Nat → Value) (v_ : Value) (rs_ : List Res) => v_ = undef ∧ rs_ = []), (fun (vs103 : Nat → Value) (v_ : Value) (rs_ : List Res) => v_ = undef ∧ rs_ = []), (fun (vs103 : Nat → Value) (v_ : Value) (rs_ : List Res) => v_ = undef ∧ rs_ = []), (fun (vs103 : Nat → Value) (v_ : Value) (rs_ : List Res) => v_ = undef ∧ rs_ = []), (fun (vs103 : Nat → Value) (v_ : Value) (rs_ : List Res) => v_ = undef ∧ rs_ = [])] (by decide +kernel) (by decide +kernel) rfl rfl ⟨(fun _ _ _ _ _ h_ => h_), (fun _ _ _ _ _ h_ => h_), (fun _ _ _ _ _ h_ => h_), (fun _ _ _ _ _ h_ => h_), (fun _ _ _ _ _ h_ => h_), (fun _ _ _ _ _ h_ => h_), (fun _ _ _ _ _ h_ => h_), (fun _ _ _ _ _ h_ => h_), (fun _ _ _ _ _ h_ => h_), (fun _ _ _ _ _ h_ => h_), (fun _ _ _ _ _ h_ => h_), (fun _ _ _ _ _ h_ => h_), (fun _ _ _ _ _ h_ => h_), (fun _ _ _ _ _ h_ => h_), (fun _ _ _ _ _ h_ => h_), (fun _ _ _ _ _ h_ => h_), (fun _ _ _ _ _ h_ => h_), (fun _ _ _ _ _ h_ => h_), (fun _ _ _ _ _ h_ => h_), (fun _ _ _ _ _ h_ => h_), (fun _ _ _ _ _ h_ => h_), (fun _ _ _ _ _ h_ => h_), (fun _ _ _ _ _ h_ => h_), (fun _ _ _ _ _ h_ => h_), (fun _ _ _ _ _ h_ => h_), trivial⟩ ?_ ?_
     ·skip
      refine ⟨fun a w vs103 hA hS hd => ?_, ?_⟩
      ·skip
       exact opG_of rfl (vv (op_move rfl (hA.ev rfl)) (And.intro rfl rfl))
      refine ⟨fun a w vs103 hA hS hd => ?_, ?_⟩
      ·skip
       exact opG_of rfl (vv (op_field rfl fd_33_0 (hA.ev rfl)) (And.intro rfl rfl))
      refine ⟨fun a w vs103 hA hS hd => ?_, ?_⟩
      ·skip
       obtain ⟨e1, rs1, hy1, hp1⟩ := hd 1 (by decide)
       obtain ⟨hv1, hr1⟩ := hy1; subst hr1
       rw [hv1] at e1
       exact opG_of rfl (vv (op_load1 rfl ty_28 (tmp_ev (slot_ev e1 rfl)) (hS.bk 1 rfl) rfl) (And.intro rfl rfl))
      refine ⟨fun a w vs103 hA hS hd => ?_, ?_⟩
      ·skip
       exact opG_of rfl (vv (op_move rfl (hA.ev rfl)) (And.intro rfl rfl))
      refine ⟨fun a w vs103 hA hS hd => ?_, ?_⟩
      ·skip
       obtain ⟨e2, rs2, hy2, hp2⟩ := hd 2 (by decide)
       obtain ⟨hv2, hr2⟩ := hy2; subst hr2
       rw [hv2] at e2
       obtain ⟨e3, rs3, hy3, hp3⟩ := hd 3 (by decide)
       obtain ⟨hv3, hr3⟩ := hy3; subst hr3
       rw [hv3] at e3
       exact opG_of rfl (vv (op_indexS rfl un_28 ty_42 (tmp_ev (slot_ev e2 rfl)) (i := k) (tmp_ev (slot_ev e3 rfl)) (hS.sk 3 rfl) (by decide) (by omega)) (And.intro rfl rfl))
      refine ⟨fun a w vs103 hA hS hd => ?_, ?_⟩
      ·skip
       obtain ⟨e4, rs4, hy4, hp4⟩ := hd 4 (by decide)
       obtain ⟨hv4, hr4⟩ := hy4; subst hr4
       rw [hv4] at e4
       exact opG_of rfl (vv (op_fieldS rfl fd_42_0 (tmp_ev (slot_ev e4 rfl)) (hS.sk 3 rfl) (by rw [((hS.sk 3 rfl)).1]; omega)) (And.intro rfl rfl))
      refine ⟨fun a w vs103 hA hS hd => ?_, ?_⟩
      ·skip
       obtain ⟨e5, rs5, hy5, hp5⟩ := hd 5 (by decide)
       obtain ⟨hv5, hr5⟩ := hy5; subst hr5
       rw [hv5] at e5
       exact opG_of rfl (vv (op_load1E rfl ty_3 (tmp_ev (slot_ev e5 rfl)) (hS.sk 3 rfl) (pairs_at0 (by omega))) (And.intro rfl rfl))
      refine ⟨fun a w vs103 hA hS hd => ?_, ?_⟩
      ·skip
       exact opG_of rfl (vv (op_field rfl fd_33_0 (hA.ev rfl)) (And.intro rfl rfl))
      refine ⟨fun a w vs103 hA hS hd => ?_, ?_⟩
      ·skip
       obtain ⟨e7, rs7, hy7, hp7⟩ := hd 7 (by decide)
       obtain ⟨hv7, hr7⟩ := hy7; subst hr7
       rw [hv7] at e7
       exact opG_of rfl (vv (op_load1 rfl ty_28 (tmp_ev (slot_ev e7 rfl)) (hS.bk 1 rfl) rfl) (And.intro rfl rfl))
      refine ⟨fun a w vs103 hA hS hd => ?_, ?_⟩
      ·skip
       exact opG_of rfl (vv (op_move rfl (hA.ev rfl)) (And.intro rfl rfl))
      refine ⟨fun a w vs103 hA hS hd => ?_, ?_⟩
      ·skip
       obtain ⟨e8, rs8, hy8, hp8⟩ := hd 8 (by decide)
       obtain ⟨hv8, hr8⟩ := hy8; subst hr8
       rw [hv8] at e8
       obtain ⟨e9, rs9, hy9, hp9⟩ := hd 9 (by decide)
       obtain ⟨hv9, hr9⟩ := hy9; subst hr9
       rw [hv9] at e9
       exact opG_of rfl (vv (op_indexS rfl un_28 ty_42 (tmp_ev (slot_ev e8 rfl)) (i := k) (tmp_ev (slot_ev e9 rfl)) (hS.sk 3 rfl) (by decide) (by omega)) (And.intro rfl rfl))
      refine ⟨fun a w vs103 hA hS hd => ?_, ?_⟩
      ·skip
       obtain ⟨e10, rs10, hy10, hp10⟩ := hd 10 (by decide)
       obtain ⟨hv10, hr10⟩ := hy10; subst hr10
       rw [hv10] at e10
       exact opG_of rfl (vv (op_fieldS rfl fd_42_1 (tmp_ev (slot_ev e10 rfl)) (hS.sk 3 rfl) (by rw [((hS.sk 3 rfl)).1]; omega)) (And.intro rfl rfl))
      refine ⟨fun a w vs103 hA hS hd => ?_, ?_⟩
      ·skip
       obtain ⟨e11, rs11, hy11, hp11⟩ := hd 11 (by decide)
       obtain ⟨hv11, hr11⟩ := hy11; subst hr11
       rw [hv11] at e11
       exact opG_of rfl (vv (op_load1E rfl ty_3 (tmp_ev (slot_ev e11 rfl)) (hS.sk 3 rfl) (pairs_at1 (by omega))) (And.intro rfl rfl))
      refine ⟨fun a w vs103 hA hS hd => ?_, ?_⟩
      ·skip
       obtain ⟨e0, rs0, hy0, hp0⟩ := hd 0 (by decide)
       obtain ⟨hv0, hr0⟩ := hy0; subst hr0
       rw [hv0] at e0
       obtain ⟨e6, rs6, hy6, hp6⟩ := hd 6 (by decide)
       obtain ⟨hv6, hr6⟩ := hy6; subst hr6
       rw [hv6] at e6
       obtain ⟨e12, rs12, hy12, hp12⟩ := hd 12 (by decide)
       obtain ⟨hv12, hr12⟩ := hy12; subst hr12
       rw [hv12] at e12
       exact opG_of rfl (vv (op_call rfl en_56 (ev3 (tmp_ev (slot_ev e0 rfl)) (tmp_ev (slot_ev e6 rfl)) (tmp_ev (slot_ev e12 rfl))) (within_ok _ _ _ _)) (And.intro (by show Value.bool _ = _; simp only [hb53, decide_true, decide_false, Bool.not_true, Bool.not_false]) rfl))
      refine ⟨fun a w vs103 hA hS hd => ?_, ?_⟩
      ·skip
       obtain ⟨e13, rs13, hy13, hp13⟩ := hd 13 (by decide)
       obtain ⟨hv13, hr13⟩ := hy13; subst hr13
       rw [hv13] at e13
       exact opG_of rfl (vv (op_not rfl (tmp_ev (slot_ev e13 rfl))) (And.intro rfl rfl))
      refine ⟨fun a w vs103 hA hS hd => ?_, ?_⟩
      ·skip
       obtain ⟨e14, rs14, hy14, hp14⟩ := hd 14 (by decide)
       obtain ⟨hv14, hr14⟩ := hy14; subst hr14
       rw [hv14] at e14
       exact opG_of rfl (vv (op_move rfl (tmp_ev (slot_ev e14 rfl))) (And.intro rfl rfl))
      refine ⟨fun a w vs103 hA hS hd => ?_, ?_⟩
      ·skip
       obtain ⟨e15, rs15, hy15, hp15⟩ := hd 15 (by decide)
       obtain ⟨hv15, hr15⟩ := hy15; subst hr15
       rw [hv15] at e15
       exact opG_yes rfl rfl (slot_ev e15 rfl) (vv (op_move rfl (hA.ev rfl)) (And.intro rfl rfl))
      refine ⟨fun a w vs103 hA hS hd => ?_, ?_⟩
      ·skip
       obtain ⟨e15, rs15, hy15, hp15⟩ := hd 15 (by decide)
       obtain ⟨hv15, hr15⟩ := hy15; subst hr15
       rw [hv15] at e15
       obtain ⟨e16, rs16, hy16, hp16⟩ := hd 16 (by decide)
       obtain ⟨hv16, hr16⟩ := hy16; subst hr16
       rw [hv16] at e16
       exact opG_yes rfl rfl (slot_ev e15 rfl) (vv (op_gtr rfl (tmp_ev (slot_ev e16 rfl)) (evc _ _)) (And.intro (by show Value.bool _ = _; simp only [decide_eq_false hb57, decide_true, decide_false, Bool.not_true, Bool.not_false]) rfl))
      refine ⟨fun a w vs103 hA hS hd => ?_, ?_⟩
      ·skip
       obtain ⟨e15, rs15, hy15, hp15⟩ := hd 15 (by decide)
       obtain ⟨hv15, hr15⟩ := hy15; subst hr15
       rw [hv15] at e15
       obtain ⟨e17, rs17, hy17, hp17⟩ := hd 17 (by decide)
       obtain ⟨hv17, hr17⟩ := hy17; subst hr17
       rw [hv17] at e17
       exact opG_yes rfl rfl (slot_ev e15 rfl) (vv (op_move rfl (tmp_ev (slot_ev e17 rfl))) (And.intro rfl rfl))
      refine ⟨fun a w vs103 hA hS hd => ?_, ?_⟩
      ·skip
       obtain ⟨e18, rs18, hy18, hp18⟩ := hd 18 (by decide)
       obtain ⟨hv18, hr18⟩ := hy18; subst hr18
       rw [hv18] at e18
       exact opG_no rfl rfl (slot_ev e18 rfl) rfl (vskip (And.intro rfl rfl))
      refine ⟨fun a w vs103 hA hS hd => ?_, ?_⟩
      ·skip
       obtain ⟨e18, rs18, hy18, hp18⟩ := hd 18 (by decide)
       obtain ⟨hv18, hr18⟩ := hy18; subst hr18
       rw [hv18] at e18
       exact opG_no rfl rfl (slot_ev e18 rfl) rfl (vskip (And.intro rfl rfl))
      refine ⟨fun a w vs103 hA hS hd => ?_, ?_⟩
      ·skip
       obtain ⟨e18, rs18, hy18, hp18⟩ := hd 18 (by decide)
       obtain ⟨hv18, hr18⟩ := hy18; subst hr18
       rw [hv18] at e18
       exact opG_no rfl rfl (slot_ev e18 rfl) rfl (vskip (And.intro rfl rfl))
      refine ⟨fun a w vs103 hA hS hd => ?_, ?_⟩
      ·skip
       obtain ⟨e18, rs18, hy18, hp18⟩ := hd 18 (by decide)
       obtain ⟨hv18, hr18⟩ := hy18; subst hr18
       rw [hv18] at e18
       obtain ⟨e21, rs21, hy21, hp21⟩ := hd 21 (by decide)
       obtain ⟨hv21, hr21⟩ := hy21; subst hr21
       rw [hv21] at e21
       exact opG_no rfl rfl (slot_ev e18 rfl) rfl (vskip (And.intro rfl rfl))
      refine ⟨fun a w vs103 hA hS hd => ?_, ?_⟩
      ·skip
       obtain ⟨e18, rs18, hy18, hp18⟩ := hd 18 (by decide)
       obtain ⟨hv18, hr18⟩ := hy18; subst hr18
       rw [hv18] at e18
       obtain ⟨e20, rs20, hy20, hp20⟩ := hd 20 (by decide)
       obtain ⟨hv20, hr20⟩ := hy20; subst hr20
       rw [hv20] at e20
       obtain ⟨e22, rs22, hy22, hp22⟩ := hd 22 (by decide)
       obtain ⟨hv22, hr22⟩ := hy22; subst hr22
       rw [hv22] at e22
       exact opG_no rfl rfl (slot_ev e18 rfl) rfl (vskip (And.intro rfl rfl))
      refine ⟨fun a w vs103 hA hS hd => ?_, ?_⟩
      ·skip
       obtain ⟨e18, rs18, hy18, hp18⟩ := hd 18 (by decide)
       obtain ⟨hv18, hr18⟩ := hy18; subst hr18
       rw [hv18] at e18
       obtain ⟨e23, rs23, hy23, hp23⟩ := hd 23 (by decide)
       obtain ⟨hv23, hr23⟩ := hy23; subst hr23
       rw [hv23] at e23
       exact opG_no rfl rfl (slot_ev e18 rfl) rfl (vskip (And.intro rfl rfl))
      trivial
     intro a104 w105 vs103 rsf109 hA106 hH108 hS107; clear hA102 hS37
     obtain ⟨hs_0, hy_0⟩ := hH108 0 (by decide)
     obtain ⟨hv_0, hr_0⟩ := hy_0
     obtain ⟨hs_1, hy_1⟩ := hH108 1 (by decide)
     obtain ⟨hv_1, hr_1⟩ := hy_1
     obtain ⟨hs_2, hy_2⟩ := hH108 2 (by decide)
     obtain ⟨hv_2, hr_2⟩ := hy_2
     obtain ⟨hs_3, hy_3⟩ := hH108 3 (by decide)
     obtain ⟨hv_3, hr_3⟩ := hy_3
     obtain ⟨hs_4, hy_4⟩ := hH108 4 (by decide)
     obtain ⟨hv_4, hr_4⟩ := hy_4
     obtain ⟨hs_5, hy_5⟩ := hH108 5 (by decide)
     obtain ⟨hv_5, hr_5⟩ := hy_5
     obtain ⟨hs_6, hy_6⟩ := hH108 6 (by decide)
     obtain ⟨hv_6, hr_6⟩ := hy_6
     obtain ⟨hs_7, hy_7⟩ := hH108 7 (by decide)
     obtain ⟨hv_7, hr_7⟩ := hy_7
     obtain ⟨hs_8, hy_8⟩ := hH108 8 (by decide)
     obtain ⟨hv_8, hr_8⟩ := hy_8
     obtain ⟨hs_9, hy_9⟩ := hH108 9 (by decide)
     obtain ⟨hv_9, hr_9⟩ := hy_9
     obtain ⟨hs_10, hy_10⟩ := hH108 10 (by decide)
     obtain ⟨hv_10, hr_10⟩ := hy_10
     obtain ⟨hs_11, hy_11⟩ := hH108 11 (by decide)
     obtain ⟨hv_11, hr_11⟩ := hy_11
     obtain ⟨hs_12, hy_12⟩ := hH108 12 (by decide)
     obtain ⟨hv_12, hr_12⟩ := hy_12
     obtain ⟨hs_13, hy_13⟩ := hH108 13 (by decide)
     obtain ⟨hv_13, hr_13⟩ := hy_13
     obtain ⟨hs_14, hy_14⟩ := hH108 14 (by decide)
     obtain ⟨hv_14, hr_14⟩ := hy_14
     obtain ⟨hs_15, hy_15⟩ := hH108 15 (by decide)
     obtain ⟨hv_15, hr_15⟩ := hy_15
     obtain ⟨hs_16, hy_16⟩ := hH108 16 (by decide)
     obtain ⟨hv_16, hr_16⟩ := hy_16
     obtain ⟨hs_17, hy_17⟩ := hH108 17 (by decide)
     obtain ⟨hv_17, hr_17⟩ := hy_17
     obtain ⟨hs_18, hy_18⟩ := hH108 18 (by decide)
     obtain ⟨hv_18, hr_18⟩ := hy_18
     obtain ⟨hs_19, hy_19⟩ := hH108 19 (by decide)
     obtain ⟨hv_19, hr_19⟩ := hy_19
     obtain ⟨hs_20, hy_20⟩ := hH108 20 (by decide)
     obtain ⟨hv_20, hr_20⟩ := hy_20
     obtain ⟨hs_21, hy_21⟩ := hH108 21 (by decide)
     obtain ⟨hv_21, hr_21⟩ := hy_21
     obtain ⟨hs_22, hy_22⟩ := hH108 22 (by decide)
     obtain ⟨hv_22, hr_22⟩ := hy_22
     obtain ⟨hs_23, hy_23⟩ := hH108 23 (by decide)
     obtain ⟨hv_23, hr_23⟩ := hy_23
     obtain ⟨hs_24, hy_24⟩ := hH108 24 (by decide)
     obtain ⟨hv_24, hr_24⟩ := hy_24
     have hS110 : Sep NoB w w105 [(blk b9 104 (ints (padU l k))), (blk b4 33 [vr]), (sl xl 1 l.length (ints l)), (sl vr 2 R.length (pairs R))] := by rw [show catR rsf109 0 25 = ([] : List Res) by (try simp only [catR, hr_0, hr_1, hr_2, hr_3, hr_4, hr_5, hr_6, hr_7, hr_8, hr_9, hr_10, hr_11, hr_12, hr_13, hr_14, hr_15, hr_16, hr_17, hr_18, hr_19, hr_20, hr_21, hr_22, hr_23, hr_24]); (try rfl)] at hS107; exact hS107
     rw [hv_15] at hs_15
     have hA111 : Fr 56 [] [(37, (Value.bool (!true))), (7, (Value.int .i64 (l.getD k 0))), (6, (Value.int .i64 (k : Int))), (17, (Value.int .i64 (k : Int))), (16, (Value.int .i64 (l.length : Int))), (15, xl), (4, (bptr b9 0)), (2, (bptr b4 0)), (1, xl)] a104 := hA106.add (slot_ev hs_15 rfl); clear hA106
     rw [hv_18] at hs_18
     have hA112 : Fr 56 [] [(40, (Value.bool false)), (37, (Value.bool (!true))), (7, (Value.int .i64 (l.getD k 0))), (6, (Value.int .i64 (k : Int))), (17, (Value.int .i64 (k : Int))), (16, (Value.int .i64 (l.length : Int))), (15, xl), (4, (bptr b9 0)), (2, (bptr b4 0)), (1, xl)] a104 := hA111.add (slot_ev hs_18 rfl); clear hA111
     rw [hv_19] at hs_19
     have hA113 : Fr 56 [] [(41, undef), (40, (Value.bool false)), (37, (Value.bool (!true))), (7, (Value.int .i64 (l.getD k 0))), (6, (Value.int .i64 (k : Int))), (17, (Value.int .i64 (k : Int))), (16, (Value.int .i64 (l.length : Int))), (15, xl), (4, (bptr b9 0)), (2, (bptr b4 0)), (1, xl)] a104 := hA112.add (slot_ev hs_19 rfl); clear hA112
     rw [hv_24] at hs_24
     have hA114 : Fr 56 [] [(46, undef), (41, undef), (40, (Value.bool false)), (37, (Value.bool (!true))), (7, (Value.int .i64 (l.getD k 0))), (6, (Value.int .i64 (k : Int))), (17, (Value.int .i64 (k : Int))), (16, (Value.int .i64 (l.length : Int))), (15, xl), (4, (bptr b9 0)), (2, (bptr b4 0)), (1, xl)] a104 := hA113.add (slot_ev hs_24 rfl); clear hA113
     clear hH108 hS107 hs_0 hs_1 hs_2 hs_3 hs_4 hs_5 hs_6 hs_7 hs_8 hs_9 hs_10 hs_11 hs_12 hs_13 hs_14 hs_15 hs_16 hs_17 hs_18 hs_19 hs_20 hs_21 hs_22 hs_23 hs_24
     clear hr_0
     clear hv_0
     clear hr_1
     clear hv_1
     clear hr_2
     clear hv_2
     clear hr_3
     clear hv_3
     clear hr_4
     clear hv_4
     clear hr_5
     clear hv_5
     clear hr_6
     clear hv_6
     clear hr_7
     clear hv_7
     clear hr_8
     clear hv_8
     clear hr_9
     clear hv_9
     clear hr_10
     clear hv_10
     clear hr_11
     clear hv_11
     clear hr_12
     clear hv_12
     clear hr_13
     clear hv_13
     clear hr_14
     clear hv_14
     clear hr_15
     clear hv_15
     clear hr_16
     clear hv_16
     clear hr_17
     clear hv_17
     clear hr_18
     clear hv_18
     clear hr_19
     clear hv_19
     clear hr_20
     clear hv_20
     clear hr_21
     clear hv_21
     clear hr_22
     clear hv_22
     clear hr_23
     clear hv_23
     clear hr_24
     clear hv_24
     refine skp hA114 rfl rfl rfl rfl rfl (by decide) fun a115 hA116 => ?_; clear hA114 a104
     refine stg hA116 (op_pick_f rfl (hA116.ev rfl) (evc _ _)) rfl rfl rfl rfl (by decide) fun a117 hA118 => ?_; clear hA116 a115
     refine st hA118 (op_pick_f rfl (hA118.ev rfl) (hA118.ev rfl)) rfl rfl (by decide) fun a119 hA120 => ?_; clear hA118 a117
     refine wl_nil ?_
     refine then_n ?_
     refine c_false hA120 rfl ?_
     refine c_skip ?_
     refine then_n ?_
     have hA121 := hA120.as [(7, (Value.int .i64 (l.getD k 0))), (6, (Value.int .i64 (k : Int))), (17, (Value.int .i64 (k : Int))), (16, (Value.int .i64 (l.length : Int))), (15, xl), (4, (bptr b9 0)), (2, (bptr b4 0)), (1, xl)] rfl; clear hA120
     refine c_region ?_
     refine st hA121 (op_move rfl (hA121.ev rfl)) rfl rfl (by decide) fun a122 hA123 => ?_; clear hA121 a119
     refine st hA123 (op_move rfl (hA123.ev rfl)) rfl rfl (by decide) fun a124 hA125 => ?_; clear hA123 a122
     refine st hA125 (op_indexA rfl un_104 ty_3 (hA125.ev rfl) (i := k) (hA125.ev rfl) (by omega)) rfl rfl (by decide) fun a126 hA127 => ?_; clear hA125 a124
     refine sts hA127 (op_store hS110 rfl ty_3 (hA127.ev rfl) (hA127.ev rfl) (i := 0) rfl (vs := [(Value.int .i64 (l.getD k 0))]) rfl rfl rfl (by rw [ints, List.length_map, padU_len]; omega)) rfl rfl ?_
     intro _ w128 hS129 hA131; have hS130 := hS129.blk_say (i := 0) rfl (cs' := (ints (padU l (k + 1)))) (by rw [setFrom_one, Nat.mul_one, Nat.zero_add, ints_set, padU_succ (by omega)]); clear hS129 hA127 hS110
     refine wl_nil ?_
     refine blk_n ?_
     refine then_n ?_
     refine c_region ?_
     refine st hA131 (op_add rfl (hA131.ev rfl) (evc _ _) (by omega) (by omega)) rfl rfl (by decide) fun a132 hA133 => ?_; clear hA131 a126
     refine st hA133 (op_move rfl (hA133.ev rfl)) rfl rfl (by decide) fun a134 hA135 => ?_; clear hA133 a132
     refine wl_nil ?_
     exact then_n ⟨k + 1, ⟨hA135.as _ rfl, hS130, by omega, hln, (fun i hi => by rcases Nat.lt_succ_iff_lt_or_eq.1 hi with h | h; exact hra_ i h; subst h; exact rateAt_y1 (by omega) (by first | exact .inr (.inr (by assumption)) | exact .inr (.inl (by omega))))⟩, by omega⟩
   ·skip
    have hq136 := hb53; simp only [Bool.and_eq_true, Bool.and_eq_false_iff, decide_eq_true_eq, decide_eq_false_iff_not] at hq136
    have hA137 := hA51.as [(7, (Value.int .i64 (l.getD k 0))), (6, (Value.int .i64 (k : Int))), (17, (Value.int .i64 (k : Int))), (16, (Value.int .i64 (l.length : Int))), (15, xl), (4, (bptr b9 0)), (2, (bptr b4 0)), (1, xl)] rfl; clear hA51
    refine c_drawV mixed hA137 hS37 25 [[], [], [1], [], [2, 3], [4], [5], [], [7], [], [8, 9], [10], [11], [0, 6, 12], [13], [14], [15], [15, 16], [15, 17], [18], [18], [18], [18, 21], [18, 20, 22], [18, 23]] [(fun (vs138 : Nat → Value) (v_ : Value) (rs_ : List Res) => v_ = (Value.int .i64 (l.getD k 0)) ∧ rs_ = []), (fun (vs138 : Nat → Value) (v_ : Value) (rs_ : List Res) => v_ = (bptr b4 0) ∧ rs_ = []), (fun (vs138 : Nat → Value) (v_ : Value) (rs_ : List Res) => v_ = vr ∧ rs_ = []), (fun (vs138 : Nat → Value) (v_ : Value) (rs_ : List Res) => v_ = (Value.int .i64 (k : Int)) ∧ rs_ = []), (fun (vs138 : Nat → Value) (v_ : Value) (rs_ : List Res) => v_ = (eptr vr (k * 2)) ∧ rs_ = []), (fun (vs138 : Nat → Value) (v_ : Value) (rs_ : List Res) => v_ = (eptr vr (k * 2 + 0)) ∧ rs_ = []), (fun (vs138 : Nat → Value) (v_ : Value) (rs_ : List Res) => v_ = (Value.int .i64 ((R.getD k (0, 0)).1)) ∧ rs_ = []), (fun (vs138 : Nat → Value) (v_ : Value) (rs_ : List Res) => v_ = (bptr b4 0) ∧ rs_ = []), (fun (vs138 : Nat → Value) (v_ : Value) (rs_ : List Res) => v_ = vr ∧ rs_ = []), (fun (vs138 : Nat → Value) (v_ : Value) (rs_ : List Res) => v_ = (Value.int .i64 (k : Int)) ∧ rs_ = []), (fun (vs138 : Nat → Value) (v_ : Value) (rs_ : List Res) => v_ = (eptr vr (k * 2)) ∧ rs_ = []), (fun (vs138 : Nat → Value) (v_ : Value) (rs_ : List Res) => v_ = (eptr vr (k * 2 + 1)) ∧ rs_ = []), (fun (vs138 : Nat → Value) (v_ : Value) (rs_ : List Res) => v_ = (Value.int .i64 ((R.getD k (0, 0)).2)) ∧ rs_ = []), (fun (vs138 : Nat → Value) (v_ : Value) (rs_ : List Res) => v_ = (Value.bool false) ∧ rs_ = []), (fun (vs138 : Nat → Value) (v_ : Value) (rs_ : List Res) => v_ = (Value.bool (!false)) ∧ rs_ = []), (fun (vs138 : Nat → Value) (v_ : Value) (rs_ : List Res) => v_ = (Value.bool (!false)) ∧ rs_ = []), (fun (vs138 : Nat → Value) (v_ : Value) (rs_ : List Res) => v_ = undef ∧ rs_ = []), (fun (vs138 : Nat → Value) (v_ : Value) (rs_ : List Res) => v_ = undef ∧ rs_ = []), (fun (vs138 : Nat → Value) (v_ : Value) (rs_ : List Res) => v_ = undef ∧ rs_ = []), (fun (vs138 : Nat → Value) (v_ : Value) (rs_ : List Res) => v_ = undef ∧ rs_ = []), (fun (vs138 : Nat → Value) (v_ : Value) (rs_ : List Res) => v_ = undef ∧ rs_ = []), (fun (vs138 : Nat → Value) (v_ : Value) (rs_ : List Res) => v_ = undef ∧ rs_ = []), (fun (vs138 : Nat → Value) (v_ : Value) (rs_ : List Res) => v_ = undef ∧ rs_ = []), (fun (vs138 : Nat → Value) (v_ : Value) (rs_ : List Res) => v_ = undef ∧ rs_ = []), (fun (vs138 : Nat → Value) (v_ : Value) (rs_ : List Res) => v_ = undef ∧ rs_ = [])] (by decide +kernel) (by decide +kernel) rfl rfl ⟨(fun _ _ _ _ _ h_ => h_), (fun _ _ _ _ _ h_ => h_), (fun _ _ _ _ _ h_ => h_), (fun _ _ _ _ _ h_ => h_), (fun _ _ _ _ _ h_ => h_), (fun _ _ _ _ _ h_ => h_), (fun _ _ _ _ _ h_ => h_), (fun _ _ _ _ _ h_ => h_), (fun _ _ _ _ _ h_ => h_), (fun _ _ _ _ _ h_ => h_), (fun _ _ _ _ _ h_ => h_), (fun _ _ _ _ _ h_ => h_), (fun _ _ _ _ _ h_ => h_), (fun _ _ _ _ _ h_ => h_), (fun _ _ _ _ _ h_ => h_), (fun _ _ _ _ _ h_ => h_), (fun _ _ _ _ _ h_ => h_), (fun _ _ _ _ _ h_ => h_), (fun _ _ _ _ _ h_ => h_), (fun _ _ _ _ _ h_ => h_), (fun _ _ _ _ _ h_ => h_), (fun _ _ _ _ _ h_ => h_), (fun _ _ _ _ _ h_ => h_), (fun _ _ _ _ _ h_ => h_), (fun _ _ _ _ _ h_ => h_), trivial⟩ ?_ ?_
    ·skip
     refine ⟨fun a w vs138 hA hS hd => ?_, ?_⟩
     ·skip
      exact opG_of rfl (vv (op_move rfl (hA.ev rfl)) (And.intro rfl rfl))
     refine ⟨fun a w vs138 hA hS hd => ?_, ?_⟩
     ·skip
      exact opG_of rfl (vv (op_field rfl fd_33_0 (hA.ev rfl)) (And.intro rfl rfl))
     refine ⟨fun a w vs138 hA hS hd => ?_, ?_⟩
     ·skip
      obtain ⟨e1, rs1, hy1, hp1⟩ := hd 1 (by decide)
      obtain ⟨hv1, hr1⟩ := hy1; subst hr1
      rw [hv1] at e1
      exact opG_of rfl (vv (op_load1 rfl ty_28 (tmp_ev (slot_ev e1 rfl)) (hS.bk 1 rfl) rfl) (And.intro rfl rfl))
     refine ⟨fun a w vs138 hA hS hd => ?_, ?_⟩
     ·skip
      exact opG_of rfl (vv (op_move rfl (hA.ev rfl)) (And.intro rfl rfl))
     refine ⟨fun a w vs138 hA hS hd => ?_, ?_⟩
     ·skip
      obtain ⟨e2, rs2, hy2, hp2⟩ := hd 2 (by decide)
      obtain ⟨hv2, hr2⟩ := hy2; subst hr2
      rw [hv2] at e2
      obtain ⟨e3, rs3, hy3, hp3⟩ := hd 3 (by decide)
      obtain ⟨hv3, hr3⟩ := hy3; subst hr3
      rw [hv3] at e3
      exact opG_of rfl (vv (op_indexS rfl un_28 ty_42 (tmp_ev (slot_ev e2 rfl)) (i := k) (tmp_ev (slot_ev e3 rfl)) (hS.sk 3 rfl) (by decide) (by omega)) (And.intro rfl rfl))
     refine ⟨fun a w vs138 hA hS hd => ?_, ?_⟩
     ·skip
      obtain ⟨e4, rs4, hy4, hp4⟩ := hd 4 (by decide)
      obtain ⟨hv4, hr4⟩ := hy4; subst hr4
      rw [hv4] at e4
      exact opG_of rfl (vv (op_fieldS rfl fd_42_0 (tmp_ev (slot_ev e4 rfl)) (hS.sk 3 rfl) (by rw [((hS.sk 3 rfl)).1]; omega)) (And.intro rfl rfl))
     refine ⟨fun a w vs138 hA hS hd => ?_, ?_⟩
     ·skip
      obtain ⟨e5, rs5, hy5, hp5⟩ := hd 5 (by decide)
      obtain ⟨hv5, hr5⟩ := hy5; subst hr5
      rw [hv5] at e5
      exact opG_of rfl (vv (op_load1E rfl ty_3 (tmp_ev (slot_ev e5 rfl)) (hS.sk 3 rfl) (pairs_at0 (by omega))) (And.intro rfl rfl))
     refine ⟨fun a w vs138 hA hS hd => ?_, ?_⟩
     ·skip
      exact opG_of rfl (vv (op_field rfl fd_33_0 (hA.ev rfl)) (And.intro rfl rfl))
     refine ⟨fun a w vs138 hA hS hd => ?_, ?_⟩
     ·skip
      obtain ⟨e7, rs7, hy7, hp7⟩ := hd 7 (by decide)
      obtain ⟨hv7, hr7⟩ := hy7; subst hr7
      rw [hv7] at e7
      exact opG_of rfl (vv (op_load1 rfl ty_28 (tmp_ev (slot_ev e7 rfl)) (hS.bk 1 rfl) rfl) (And.intro rfl rfl))
     refine ⟨fun a w vs138 hA hS hd => ?_, ?_⟩
     ·skip
      exact opG_of rfl (vv (op_move rfl (hA.ev rfl)) (And.intro rfl rfl))
     refine ⟨fun a w vs138 hA hS hd => ?_, ?_⟩
     ·skip
      obtain ⟨e8, rs8, hy8, hp8⟩ := hd 8 (by decide)
      obtain ⟨hv8, hr8⟩ := hy8; subst hr8
      rw [hv8] at e8
      obtain ⟨e9, rs9, hy9, hp9⟩ := hd 9 (by decide)
      obtain ⟨hv9, hr9⟩ := hy9; subst hr9
      rw [hv9] at e9
      exact opG_of rfl (vv (op_indexS rfl un_28 ty_42 (tmp_ev (slot_ev e8 rfl)) (i := k) (tmp_ev (slot_ev e9 rfl)) (hS.sk 3 rfl) (by decide) (by omega)) (And.intro rfl rfl))
     refine ⟨fun a w vs138 hA hS hd => ?_, ?_⟩
     ·skip
      obtain ⟨e10, rs10, hy10, hp10⟩ := hd 10 (by decide)
      obtain ⟨hv10, hr10⟩ := hy10; subst hr10
      rw [hv10] at e10
      exact opG_of rfl (vv (op_fieldS rfl fd_42_1 (tmp_ev (slot_ev e10 rfl)) (hS.sk 3 rfl) (by rw [((hS.sk 3 rfl)).1]; omega)) (And.intro rfl rfl))
     refine ⟨fun a w vs138 hA hS hd => ?_, ?_⟩
     ·skip
      obtain ⟨e11, rs11, hy11, hp11⟩ := hd 11 (by decide)
      obtain ⟨hv11, hr11⟩ := hy11; subst hr11
      rw [hv11] at e11
      exact opG_of rfl (vv (op_load1E rfl ty_3 (tmp_ev (slot_ev e11 rfl)) (hS.sk 3 rfl) (pairs_at1 (by omega))) (And.intro rfl rfl))
     refine ⟨fun a w vs138 hA hS hd => ?_, ?_⟩
     ·skip
      obtain ⟨e0, rs0, hy0, hp0⟩ := hd 0 (by decide)
      obtain ⟨hv0, hr0⟩ := hy0; subst hr0
      rw [hv0] at e0
      obtain ⟨e6, rs6, hy6, hp6⟩ := hd 6 (by decide)
      obtain ⟨hv6, hr6⟩ := hy6; subst hr6
      rw [hv6] at e6
      obtain ⟨e12, rs12, hy12, hp12⟩ := hd 12 (by decide)
      obtain ⟨hv12, hr12⟩ := hy12; subst hr12
      rw [hv12] at e12
      exact opG_of rfl (vv (op_call rfl en_56 (ev3 (tmp_ev (slot_ev e0 rfl)) (tmp_ev (slot_ev e6 rfl)) (tmp_ev (slot_ev e12 rfl))) (within_ok _ _ _ _)) (And.intro (by show Value.bool _ = _; simp only [hb53, decide_true, decide_false, Bool.not_true, Bool.not_false]) rfl))
     refine ⟨fun a w vs138 hA hS hd => ?_, ?_⟩
     ·skip
      obtain ⟨e13, rs13, hy13, hp13⟩ := hd 13 (by decide)
      obtain ⟨hv13, hr13⟩ := hy13; subst hr13
      rw [hv13] at e13
      exact opG_of rfl (vv (op_not rfl (tmp_ev (slot_ev e13 rfl))) (And.intro rfl rfl))
     refine ⟨fun a w vs138 hA hS hd => ?_, ?_⟩
     ·skip
      obtain ⟨e14, rs14, hy14, hp14⟩ := hd 14 (by decide)
      obtain ⟨hv14, hr14⟩ := hy14; subst hr14
      rw [hv14] at e14
      exact opG_of rfl (vv (op_move rfl (tmp_ev (slot_ev e14 rfl))) (And.intro rfl rfl))
     refine ⟨fun a w vs138 hA hS hd => ?_, ?_⟩
     ·skip
      obtain ⟨e15, rs15, hy15, hp15⟩ := hd 15 (by decide)
      obtain ⟨hv15, hr15⟩ := hy15; subst hr15
      rw [hv15] at e15
      exact opG_no rfl rfl (slot_ev e15 rfl) rfl (vskip (And.intro rfl rfl))
     refine ⟨fun a w vs138 hA hS hd => ?_, ?_⟩
     ·skip
      obtain ⟨e15, rs15, hy15, hp15⟩ := hd 15 (by decide)
      obtain ⟨hv15, hr15⟩ := hy15; subst hr15
      rw [hv15] at e15
      obtain ⟨e16, rs16, hy16, hp16⟩ := hd 16 (by decide)
      obtain ⟨hv16, hr16⟩ := hy16; subst hr16
      rw [hv16] at e16
      exact opG_no rfl rfl (slot_ev e15 rfl) rfl (vskip (And.intro rfl rfl))
     refine ⟨fun a w vs138 hA hS hd => ?_, ?_⟩
     ·skip
      obtain ⟨e15, rs15, hy15, hp15⟩ := hd 15 (by decide)
      obtain ⟨hv15, hr15⟩ := hy15; subst hr15
      rw [hv15] at e15
      obtain ⟨e17, rs17, hy17, hp17⟩ := hd 17 (by decide)
      obtain ⟨hv17, hr17⟩ := hy17; subst hr17
      rw [hv17] at e17
      exact opG_no rfl rfl (slot_ev e15 rfl) rfl (vskip (And.intro rfl rfl))
     refine ⟨fun a w vs138 hA hS hd => ?_, ?_⟩
     ·skip
      obtain ⟨e18, rs18, hy18, hp18⟩ := hd 18 (by decide)
      obtain ⟨hv18, hr18⟩ := hy18; subst hr18
      rw [hv18] at e18
      exact opG_noU rfl rfl (slot_ev e18 rfl) (vskip (And.intro rfl rfl))
     refine ⟨fun a w vs138 hA hS hd => ?_, ?_⟩
     ·skip
      obtain ⟨e18, rs18, hy18, hp18⟩ := hd 18 (by decide)
      obtain ⟨hv18, hr18⟩ := hy18; subst hr18
      rw [hv18] at e18
      exact opG_noU rfl rfl (slot_ev e18 rfl) (vskip (And.intro rfl rfl))
     refine ⟨fun a w vs138 hA hS hd => ?_, ?_⟩
     ·skip
      obtain ⟨e18, rs18, hy18, hp18⟩ := hd 18 (by decide)
      obtain ⟨hv18, hr18⟩ := hy18; subst hr18
      rw [hv18] at e18
      exact opG_noU rfl rfl (slot_ev e18 rfl) (vskip (And.intro rfl rfl))
     refine ⟨fun a w vs138 hA hS hd => ?_, ?_⟩
     ·skip
      obtain ⟨e18, rs18, hy18, hp18⟩ := hd 18 (by decide)
      obtain ⟨hv18, hr18⟩ := hy18; subst hr18
      rw [hv18] at e18
      obtain ⟨e21, rs21, hy21, hp21⟩ := hd 21 (by decide)
      obtain ⟨hv21, hr21⟩ := hy21; subst hr21
      rw [hv21] at e21
      exact opG_noU rfl rfl (slot_ev e18 rfl) (vskip (And.intro rfl rfl))
     refine ⟨fun a w vs138 hA hS hd => ?_, ?_⟩
     ·skip
      obtain ⟨e18, rs18, hy18, hp18⟩ := hd 18 (by decide)
      obtain ⟨hv18, hr18⟩ := hy18; subst hr18
      rw [hv18] at e18
      obtain ⟨e20, rs20, hy20, hp20⟩ := hd 20 (by decide)
      obtain ⟨hv20, hr20⟩ := hy20; subst hr20
      rw [hv20] at e20
      obtain ⟨e22, rs22, hy22, hp22⟩ := hd 22 (by decide)
      obtain ⟨hv22, hr22⟩ := hy22; subst hr22
      rw [hv22] at e22
      exact opG_noU rfl rfl (slot_ev e18 rfl) (vskip (And.intro rfl rfl))
     refine ⟨fun a w vs138 hA hS hd => ?_, ?_⟩
     ·skip
      obtain ⟨e18, rs18, hy18, hp18⟩ := hd 18 (by decide)
      obtain ⟨hv18, hr18⟩ := hy18; subst hr18
      rw [hv18] at e18
      obtain ⟨e23, rs23, hy23, hp23⟩ := hd 23 (by decide)
      obtain ⟨hv23, hr23⟩ := hy23; subst hr23
      rw [hv23] at e23
      exact opG_noU rfl rfl (slot_ev e18 rfl) (vskip (And.intro rfl rfl))
     trivial
    intro a139 w140 vs138 rsf144 hA141 hH143 hS142; clear hA137 hS37
    obtain ⟨hs_0, hy_0⟩ := hH143 0 (by decide)
    obtain ⟨hv_0, hr_0⟩ := hy_0
    obtain ⟨hs_1, hy_1⟩ := hH143 1 (by decide)
    obtain ⟨hv_1, hr_1⟩ := hy_1
    obtain ⟨hs_2, hy_2⟩ := hH143 2 (by decide)
    obtain ⟨hv_2, hr_2⟩ := hy_2
    obtain ⟨hs_3, hy_3⟩ := hH143 3 (by decide)
    obtain ⟨hv_3, hr_3⟩ := hy_3
    obtain ⟨hs_4, hy_4⟩ := hH143 4 (by decide)
    obtain ⟨hv_4, hr_4⟩ := hy_4
    obtain ⟨hs_5, hy_5⟩ := hH143 5 (by decide)
    obtain ⟨hv_5, hr_5⟩ := hy_5
    obtain ⟨hs_6, hy_6⟩ := hH143 6 (by decide)
    obtain ⟨hv_6, hr_6⟩ := hy_6
    obtain ⟨hs_7, hy_7⟩ := hH143 7 (by decide)
    obtain ⟨hv_7, hr_7⟩ := hy_7
    obtain ⟨hs_8, hy_8⟩ := hH143 8 (by decide)
    obtain ⟨hv_8, hr_8⟩ := hy_8
    obtain ⟨hs_9, hy_9⟩ := hH143 9 (by decide)
    obtain ⟨hv_9, hr_9⟩ := hy_9
    obtain ⟨hs_10, hy_10⟩ := hH143 10 (by decide)
    obtain ⟨hv_10, hr_10⟩ := hy_10
    obtain ⟨hs_11, hy_11⟩ := hH143 11 (by decide)
    obtain ⟨hv_11, hr_11⟩ := hy_11
    obtain ⟨hs_12, hy_12⟩ := hH143 12 (by decide)
    obtain ⟨hv_12, hr_12⟩ := hy_12
    obtain ⟨hs_13, hy_13⟩ := hH143 13 (by decide)
    obtain ⟨hv_13, hr_13⟩ := hy_13
    obtain ⟨hs_14, hy_14⟩ := hH143 14 (by decide)
    obtain ⟨hv_14, hr_14⟩ := hy_14
    obtain ⟨hs_15, hy_15⟩ := hH143 15 (by decide)
    obtain ⟨hv_15, hr_15⟩ := hy_15
    obtain ⟨hs_16, hy_16⟩ := hH143 16 (by decide)
    obtain ⟨hv_16, hr_16⟩ := hy_16
    obtain ⟨hs_17, hy_17⟩ := hH143 17 (by decide)
    obtain ⟨hv_17, hr_17⟩ := hy_17
    obtain ⟨hs_18, hy_18⟩ := hH143 18 (by decide)
    obtain ⟨hv_18, hr_18⟩ := hy_18
    obtain ⟨hs_19, hy_19⟩ := hH143 19 (by decide)
    obtain ⟨hv_19, hr_19⟩ := hy_19
    obtain ⟨hs_20, hy_20⟩ := hH143 20 (by decide)
    obtain ⟨hv_20, hr_20⟩ := hy_20
    obtain ⟨hs_21, hy_21⟩ := hH143 21 (by decide)
    obtain ⟨hv_21, hr_21⟩ := hy_21
    obtain ⟨hs_22, hy_22⟩ := hH143 22 (by decide)
    obtain ⟨hv_22, hr_22⟩ := hy_22
    obtain ⟨hs_23, hy_23⟩ := hH143 23 (by decide)
    obtain ⟨hv_23, hr_23⟩ := hy_23
    obtain ⟨hs_24, hy_24⟩ := hH143 24 (by decide)
    obtain ⟨hv_24, hr_24⟩ := hy_24
    have hS145 : Sep NoB w w140 [(blk b9 104 (ints (padU l k))), (blk b4 33 [vr]), (sl xl 1 l.length (ints l)), (sl vr 2 R.length (pairs R))] := by rw [show catR rsf144 0 25 = ([] : List Res) by (try simp only [catR, hr_0, hr_1, hr_2, hr_3, hr_4, hr_5, hr_6, hr_7, hr_8, hr_9, hr_10, hr_11, hr_12, hr_13, hr_14, hr_15, hr_16, hr_17, hr_18, hr_19, hr_20, hr_21, hr_22, hr_23, hr_24]); (try rfl)] at hS142; exact hS142
    rw [hv_15] at hs_15
    have hA146 : Fr 56 [] [(37, (Value.bool (!false))), (7, (Value.int .i64 (l.getD k 0))), (6, (Value.int .i64 (k : Int))), (17, (Value.int .i64 (k : Int))), (16, (Value.int .i64 (l.length : Int))), (15, xl), (4, (bptr b9 0)), (2, (bptr b4 0)), (1, xl)] a139 := hA141.add (slot_ev hs_15 rfl); clear hA141
    rw [hv_18] at hs_18
    have hA147 : Fr 56 [] [(40, undef), (37, (Value.bool (!false))), (7, (Value.int .i64 (l.getD k 0))), (6, (Value.int .i64 (k : Int))), (17, (Value.int .i64 (k : Int))), (16, (Value.int .i64 (l.length : Int))), (15, xl), (4, (bptr b9 0)), (2, (bptr b4 0)), (1, xl)] a139 := hA146.add (slot_ev hs_18 rfl); clear hA146
    rw [hv_19] at hs_19
    have hA148 : Fr 56 [] [(41, undef), (40, undef), (37, (Value.bool (!false))), (7, (Value.int .i64 (l.getD k 0))), (6, (Value.int .i64 (k : Int))), (17, (Value.int .i64 (k : Int))), (16, (Value.int .i64 (l.length : Int))), (15, xl), (4, (bptr b9 0)), (2, (bptr b4 0)), (1, xl)] a139 := hA147.add (slot_ev hs_19 rfl); clear hA147
    rw [hv_24] at hs_24
    have hA149 : Fr 56 [] [(46, undef), (41, undef), (40, undef), (37, (Value.bool (!false))), (7, (Value.int .i64 (l.getD k 0))), (6, (Value.int .i64 (k : Int))), (17, (Value.int .i64 (k : Int))), (16, (Value.int .i64 (l.length : Int))), (15, xl), (4, (bptr b9 0)), (2, (bptr b4 0)), (1, xl)] a139 := hA148.add (slot_ev hs_24 rfl); clear hA148
    clear hH143 hS142 hs_0 hs_1 hs_2 hs_3 hs_4 hs_5 hs_6 hs_7 hs_8 hs_9 hs_10 hs_11 hs_12 hs_13 hs_14 hs_15 hs_16 hs_17 hs_18 hs_19 hs_20 hs_21 hs_22 hs_23 hs_24
    clear hr_0
    clear hv_0
    clear hr_1
    clear hv_1
    clear hr_2
    clear hv_2
    clear hr_3
    clear hv_3
    clear hr_4
    clear hv_4
    clear hr_5
    clear hv_5
    clear hr_6
    clear hv_6
    clear hr_7
    clear hv_7
    clear hr_8
    clear hv_8
    clear hr_9
    clear hv_9
    clear hr_10
    clear hv_10
    clear hr_11
    clear hv_11
    clear hr_12
    clear hv_12
    clear hr_13
    clear hv_13
    clear hr_14
    clear hv_14
    clear hr_15
    clear hv_15
    clear hr_16
    clear hv_16
    clear hr_17
    clear hv_17
    clear hr_18
    clear hv_18
    clear hr_19
    clear hv_19
    clear hr_20
    clear hv_20
    clear hr_21
    clear hv_21
    clear hr_22
    clear hv_22
    clear hr_23
    clear hv_23
    clear hr_24
    clear hv_24
    refine skpU hA149 rfl rfl rfl rfl (by decide) fun a150 hA151 => ?_; clear hA149 a139
    refine skp hA151 rfl rfl rfl rfl rfl (by decide) fun a152 hA153 => ?_; clear hA151 a150
    refine st hA153 (op_pick_t rfl (hA153.ev rfl) (evc _ _)) rfl rfl (by decide) fun a154 hA155 => ?_; clear hA153 a152
    refine wl_nil ?_
    refine then_n ?_
    refine c_true hA155 rfl ?_
    refine c_seq ?_
    have hA156 := hA155.as [(4, (bptr b9 0))] rfl; clear hA155
    refine c_region ?_
    refine st hA156 (op_loadA rfl ty_104 (hA156.ev rfl) (hS145.bk 0 rfl) (l := (ints (padU l k))) (drop_take_all _ _ (by rw [ints, List.length_map, padU_len])) (by rw [ints, List.length_map, padU_len])) rfl rfl (by decide) fun a157 hA158 => ?_; clear hA156 a154
    refine sts hA158 (op_store hS145 rfl ty_104 (hA158.ev rfl) (hA158.ev rfl) (i := 0) rfl (vs := (ints (padU l k))) rfl (by rw [ints, List.length_map, padU_len]) (ints_one _) (by rw [ints, List.length_map, padU_len]; omega)) rfl rfl ?_
    intro _ w159 hS160 hA162; have hS161 := hS160.blk_say (i := 0) rfl (cs' := (ints (padU l k))) (setFrom_all _ _ (by rfl)); clear hS160 hA158 hS145
    refine st hA162 (op_assign rfl (evc _ _)) rfl rfl (by decide) fun a163 hA164 => ?_; clear hA162 a157
    refine wl_nil ?_
    refine then_n ?_
    refine c_ret ?_
    refine then_ret ?_
    refine blk_ret ?_
    refine then_ret ?_
    refine then_ret ?_
    refine blk_ret ?_
    refine then_ret ?_
    refine fin_run hA164 (.inl rfl) (run_results2 hA164 rfl (.cellA rfl ty_104 (hS161.bk 0 rfl) (l := (ints (padU l k))) (drop_take_all _ _ (by rw [ints, List.length_map, padU_len])) (by rw [ints, List.length_map, padU_len])) (.tmp rfl)) ?_
    have hz : areB R l = false := by first | exact areB_len (by omega) | exact areB_no (k := k) (by omega) (rateAt_n1 (by omega)) | exact areB_no (k := k) (by omega) (rateAt_n2 (by omega) (by assumption))
    exact ⟨(padU l k), (by first | rfl | exact padU_len _ _), (fun h => absurd (hz.symm.trans h) (by decide)), by rw [hz], hS161.ext⟩
  ·skip
   rw [decide_eq_false hb40] at hA39
   refine c_false hA39 rfl ?_
   refine c_exit ?_
   refine then_exit ?_
   refine then_exit ?_
   refine blk_hit ?_
   refine then_n ?_
   refine c_seq ?_
   have hA165 := hA39.as [(4, (bptr b9 0))] rfl; clear hA39
   refine c_region ?_
   refine st hA165 (op_loadA rfl ty_104 (hA165.ev rfl) (hS37.bk 0 rfl) (l := (ints (padU l k))) (drop_take_all _ _ (by rw [ints, List.length_map, padU_len])) (by rw [ints, List.length_map, padU_len])) rfl rfl (by decide) fun a166 hA167 => ?_; clear hA165 a38
   refine sts hA167 (op_store hS37 rfl ty_104 (hA167.ev rfl) (hA167.ev rfl) (i := 0) rfl (vs := (ints (padU l k))) rfl (by rw [ints, List.length_map, padU_len]) (ints_one _) (by rw [ints, List.length_map, padU_len]; omega)) rfl rfl ?_
   intro _ w168 hS169 hA171; have hS170 := hS169.blk_say (i := 0) rfl (cs' := (ints (padU l k))) (setFrom_all _ _ (by rfl)); clear hS169 hA167 hS37
   refine st hA171 (op_assign rfl (evc _ _)) rfl rfl (by decide) fun a172 hA173 => ?_; clear hA171 a166
   refine wl_nil ?_
   refine then_n ?_
   refine c_ret ?_
   refine fin_run hA173 (.inl rfl) (run_results2 hA173 rfl (.cellA rfl ty_104 (hS170.bk 0 rfl) (l := (ints (padU l k))) (drop_take_all _ _ (by rw [ints, List.length_map, padU_len])) (by rw [ints, List.length_map, padU_len])) (.tmp rfl)) ?_
   have hz := areB_yes (R := R) (l := l) (by omega) (fun i hi => hra_ i (by omega))
   exact ⟨(padU l k), (by first | rfl | exact padU_len _ _), (fun _ => by rw [padF, show l.length = k by omega]), by rw [hz], hS170.ext⟩
 ·skip
  rw [decide_eq_false hb25] at hA24
  refine c_true hA24 rfl ?_
  refine c_seq ?_
  have hA174 := hA24.as [(4, (bptr b9 0))] rfl; clear hA24
  refine c_region ?_
  refine st hA174 (op_loadA rfl ty_104 (hA174.ev rfl) (hS10.bk 0 rfl) (l := (ints ([0, 0, 0]))) (drop_take_all _ _ rfl) rfl) rfl rfl (by decide) fun a175 hA176 => ?_; clear hA174 a23
  refine sts hA176 (op_store hS10 rfl ty_104 (hA176.ev rfl) (hA176.ev rfl) (i := 0) rfl (vs := (ints ([0, 0, 0]))) rfl rfl (ints_one _) (by first | (simp only [ints, List.length_map, List.length_set]; omega) | (have h2_ := (show (ints ([0, 0, 0])).length = 3 from rfl); omega))) rfl rfl ?_
  intro _ w177 hS178 hA180; have hS179 := hS178.blk_say (i := 0) rfl (cs' := (ints ([0, 0, 0]))) (setFrom_all _ _ (by first | (simp only [ints, List.length_map, List.length_set]; omega) | (have h1_ := (show (ints ([0, 0, 0])).length = 3 from rfl); have h2_ := (show (ints ([0, 0, 0])).length = 3 from rfl); omega))); clear hS178 hA176 hS10
  refine st hA180 (op_assign rfl (evc _ _)) rfl rfl (by decide) fun a181 hA182 => ?_; clear hA180 a175
  refine wl_nil ?_
  refine then_n ?_
  refine c_ret ?_
  refine then_ret ?_
  refine fin_run hA182 (.inl rfl) (run_results2 hA182 rfl (.cellA rfl ty_104 (hS179.bk 0 rfl) (l := (ints ([0, 0, 0]))) (drop_take_all _ _ rfl) rfl) (.tmp rfl)) ?_
  have hz : areB R l = false := by first | exact areB_len (by omega) | exact areB_no (k := k) (by omega) (rateAt_n1 (by omega)) | exact areB_no (k := k) (by omega) (rateAt_n2 (by omega) (by assumption))
  exact ⟨[0, 0, 0], (by first | rfl | exact padU_len _ _), (fun h => absurd (hz.symm.trans h) (by decide)), by rw [hz], hS179.ext⟩
end Go.Proofs.Ytkkglkdnnfegkaa

namespace Go.Proofs.Ytkkglkdnnfegkaa
open Go.RowKit Go.Shelf Go.Eng
theorem padF_len (l : List Int) : (ints (padF l)).length = 3 := by rw [ints, List.length_map]; exact padU_len l l.length
theorem allows_bad (R : List (Int × Int)) (rs : List RunD) (lv : List Value) (vr vu : Value) (w : World) (hm : SlAt w vr 2 R.length (pairs R)) (hx : RunsAt w vu lv rs) (hlen : R.length ≤ 1000000) (hrl : rs.length ≤ 1000000) (l : List Int) (xl : Value) (hxl : SlAt w xl 1 l.length (ints l)) (hlen2 : l.length ≤ 1000000) (he : enterF R rs ≠ 0) :
  Calls Try.prog 38 #[(Value.agg #[vr]), vu, xl] w (Ret fun v w' => v = .tuple #[.bool false, .int .i64 (enterF R rs)] ∧ Ext NoB w w') := by
 refine calls_enter Try.func38 rfl fun a0 hA0 => ?_
 replace hA0 : Fr 32 [] [(0, (Value.agg #[vr])), (1, vu), (2, xl)] a0 := hA0
 have hS0 : Sep NoB w w [(sl vr 2 R.length (pairs R)), (sl vu 3 rs.length (vtrips (runV lv rs))), (segsR false lv rs), (sl xl 1 l.length (ints l))] := sep_ro ⟨rfl, hm, rfl, hx.runs, rfl, ⟨hx.len, hx.segs⟩, rfl, hxl, trivial⟩
 refine c_seq ?_
 refine c_region ?_
 refine stw hA0 (op_box hS0 rfl (hA0.ev rfl) (cs := [vr]) rfl) rfl rfl (by decide) ?_
 rintro a1 _ w3 ⟨b4, rfl, hS5⟩ hA2; clear hA0 hS0 a0
 refine st hA2 (op_assign rfl (evc _ _)) rfl rfl (by decide) fun a6 hA7 => ?_; clear hA2 a1
 refine st hA7 (op_assign rfl (evc _ _)) rfl rfl (by decide) fun a8 hA9 => ?_; clear hA7 a6
 refine wl_nil ?_
 refine then_n ?_
 refine c_seq ?_
 refine c_region ?_
 refine st hA9 (op_loadA rfl ty_33 (hA9.ev rfl) (hS5.bk 0 rfl) (l := [vr]) rfl rfl) rfl rfl (by decide) fun a10 hA11 => ?_; clear hA9 a8
 refine st hA11 (op_move rfl (hA11.ev rfl)) rfl rfl (by decide) fun a12 hA13 => ?_; clear hA11 a10
 refine stw hA13 (op_call rfl en_66 (ev2 (hA13.ev rfl) (hA13.ev rfl)) (enter_bad R rs lv vr vu _ (hm.step hS5.ext) (hx.step hS5.ext) (by omega) (by omega) he)) rfl rfl (by decide) ?_
 rintro a14 _ w16 ⟨rfl, hE17⟩ hA15; have hS18 := hS5.step hE17; clear hE17 hA13 hS5 a12
 refine st hA15 (op_move rfl (hA15.ev rfl)) rfl rfl (by decide) fun a19 hA20 => ?_; clear hA15 a14
 refine st hA20 (op_extract rfl (hA20.ev rfl) rfl) rfl rfl (by decide) fun a21 hA22 => ?_; clear hA20 a19
 refine st hA22 (op_extract rfl (hA22.ev rfl) rfl) rfl rfl (by decide) fun a23 hA24 => ?_; clear hA22 a21
 refine st hA24 (op_assign rfl (hA24.ev rfl)) rfl rfl (by decide) fun a25 hA26 => ?_; clear hA24 a23
 refine st hA26 (op_assign rfl (hA26.ev rfl)) rfl rfl (by decide) fun a27 hA28 => ?_; clear hA26 a25
 refine wl_nil ?_
 refine then_n ?_
 refine c_seq ?_
 refine c_seq ?_
 have hA29 := hA28.as [(9, (Value.int .i64 (enterF R rs))), (8, (Value.pointer none)), (3, (bptr b4 0)), (2, xl)] rfl; clear hA28
 refine c_region ?_
 refine st hA29 (op_move rfl (hA29.ev rfl)) rfl rfl (by decide) fun a30 hA31 => ?_; clear hA29 a27
 refine st hA31 (op_neq rfl (hA31.ev rfl) (evc _ _)) rfl rfl (by decide) fun a32 hA33 => ?_; clear hA31 a30
 have hd34 : ¬ ((enterF R rs) = 0) := he
 rw [decide_eq_false hd34] at hA33
 refine wl_nil ?_
 refine then_n ?_
 refine c_true hA33 rfl ?_
 refine c_seq ?_
 refine c_region ?_
 refine st hA33 (op_move rfl (hA33.ev rfl)) rfl rfl (by decide) fun a35 hA36 => ?_; clear hA33 a32
 refine st hA36 (op_assign rfl (evc _ _)) rfl rfl (by decide) fun a37 hA38 => ?_; clear hA36 a35
 refine st hA38 (op_assign rfl (hA38.ev rfl)) rfl rfl (by decide) fun a39 hA40 => ?_; clear hA38 a37
 refine wl_nil ?_
 refine then_n ?_
 refine c_ret ?_
 refine then_ret ?_
 refine fin_run hA40 (.inl rfl) (run_results2 hA40 rfl (.tmp rfl) (.tmp rfl)) ?_
 exact ⟨rfl, hS18.ext⟩
theorem allows_yes (R : List (Int × Int)) (rs : List RunD) (lv : List Value) (vr vu : Value) (w : World) (hm : SlAt w vr 2 R.length (pairs R)) (hx : RunsAt w vu lv rs) (hlen : R.length ≤ 1000000) (hrl : rs.length ≤ 1000000) (l : List Int) (xl : Value) (hxl : SlAt w xl 1 l.length (ints l)) (hlen2 : l.length ≤ 1000000) (he : enterF R rs = 0) (hb : areB R l = true) (hpr : RatesV (padF l)) :
  Calls Try.prog 38 #[(Value.agg #[vr]), vu, xl] w (Ret fun v w' => v = .tuple #[.bool (allowB rs (padF l)), .int .i64 0] ∧ Ext NoB w w') := by
 refine calls_enter Try.func38 rfl fun a0 hA0 => ?_
 replace hA0 : Fr 32 [] [(0, (Value.agg #[vr])), (1, vu), (2, xl)] a0 := hA0
 have hR := (check_mat (enter_mat he)).1
 have hV := enter_runs he
 have hS0 : Sep NoB w w [(sl vr 2 R.length (pairs R)), (sl vu 3 rs.length (vtrips (runV lv rs))), (segsR false lv rs), (sl xl 1 l.length (ints l))] := sep_ro ⟨rfl, hm, rfl, hx.runs, rfl, ⟨hx.len, hx.segs⟩, rfl, hxl, trivial⟩
 refine c_seq ?_
 refine c_region ?_
 refine stw hA0 (op_box hS0 rfl (hA0.ev rfl) (cs := [vr]) rfl) rfl rfl (by decide) ?_
 rintro a1 _ w3 ⟨b4, rfl, hS5⟩ hA2; clear hA0 hS0 a0
 refine st hA2 (op_assign rfl (evc _ _)) rfl rfl (by decide) fun a6 hA7 => ?_; clear hA2 a1
 refine st hA7 (op_assign rfl (evc _ _)) rfl rfl (by decide) fun a8 hA9 => ?_; clear hA7 a6
 refine wl_nil ?_
 refine then_n ?_
 refine c_seq ?_
 refine c_region ?_
 refine st hA9 (op_loadA rfl ty_33 (hA9.ev rfl) (hS5.bk 0 rfl) (l := [vr]) rfl rfl) rfl rfl (by decide) fun a10 hA11 => ?_; clear hA9 a8
 refine st hA11 (op_move rfl (hA11.ev rfl)) rfl rfl (by decide) fun a12 hA13 => ?_; clear hA11 a10
 refine stw hA13 (op_call rfl en_66 (ev2 (hA13.ev rfl) (hA13.ev rfl)) (enter_ok R rs lv vr vu _ (hm.step hS5.ext) (hx.step hS5.ext) (by omega) (by omega) he)) rfl rfl (by decide) ?_
 rintro a14 _ w16 ⟨bj19, bm20, rfl, hT17⟩ hA15; have hS18 := hS5.callS hT17 rfl; clear hT17 hA13 hS5 a12
 refine st hA15 (op_move rfl (hA15.ev rfl)) rfl rfl (by decide) fun a21 hA22 => ?_; clear hA15 a14
 refine st hA22 (op_extract rfl (hA22.ev rfl) rfl) rfl rfl (by decide) fun a23 hA24 => ?_; clear hA22 a21
 refine st hA24 (op_extract rfl (hA24.ev rfl) rfl) rfl rfl (by decide) fun a25 hA26 => ?_; clear hA24 a23
 refine st hA26 (op_assign rfl (hA26.ev rfl)) rfl rfl (by decide) fun a27 hA28 => ?_; clear hA26 a25
 refine st hA28 (op_assign rfl (hA28.ev rfl)) rfl rfl (by decide) fun a29 hA30 => ?_; clear hA28 a27
 refine wl_nil ?_
 refine then_n ?_
 refine c_seq ?_
 refine c_seq ?_
 have hA31 := hA30.as [(9, (Value.int .i64 0)), (8, (bptr bj19 0)), (3, (bptr b4 0)), (2, xl)] rfl; clear hA30
 refine c_region ?_
 refine st hA31 (op_move rfl (hA31.ev rfl)) rfl rfl (by decide) fun a32 hA33 => ?_; clear hA31 a29
 refine st hA33 (op_neq rfl (hA33.ev rfl) (evc _ _)) rfl rfl (by decide) fun a34 hA35 => ?_; clear hA33 a32
 refine wl_nil ?_
 refine then_n ?_
 refine c_false hA35 rfl ?_
 refine c_skip ?_
 refine then_n ?_
 refine c_seq ?_
 refine c_region ?_
 refine st hA35 (op_loadA rfl ty_33 (hA35.ev rfl) (hS18.bk 2 rfl) (l := [vr]) rfl rfl) rfl rfl (by decide) fun a36 hA37 => ?_; clear hA35 a34
 refine st hA37 (op_move rfl (hA37.ev rfl)) rfl rfl (by decide) fun a38 hA39 => ?_; clear hA37 a36
 refine stw hA39 (op_call rfl en_67 (ev2 (hA39.ev rfl) (hA39.ev rfl)) (own_ok _ R _ (hS18.sk 3 rfl) l _ (hS18.sk 6 rfl) hR.1)) rfl rfl (by decide) ?_
 rintro a40 _ w42 ⟨arr43, hal_, har44, rfl, hE45⟩ hA41; have hS46 := hS18.step hE45; clear hE45 hA39 hS18 a38
 obtain rfl := har44 hb; rw [hb] at hA41
 refine st hA41 (op_move rfl (hA41.ev rfl)) rfl rfl (by decide) fun a47 hA48 => ?_; clear hA41 a40
 refine st hA48 (op_extract rfl (hA48.ev rfl) rfl) rfl rfl (by decide) fun a49 hA50 => ?_; clear hA48 a47
 refine st hA50 (op_extract rfl (hA50.ev rfl) rfl) rfl rfl (by decide) fun a51 hA52 => ?_; clear hA50 a49
 refine stw hA52 (op_alloc hS46 rfl ze_104 (cs := [(Value.int .i64 0), (Value.int .i64 0), (Value.int .i64 0)]) rfl) rfl rfl (by decide) ?_
 rintro a53 _ w55 ⟨b56, rfl, hS57⟩ hA54; clear hA52 hS46 a51
 refine sts hA54 (op_store hS57 rfl ty_104 (hA54.ev rfl) (hA54.ev rfl) (i := 0) rfl (vs := (ints (padF l))) rfl (padF_len l) (ints_one _) (by decide)) rfl rfl ?_
 intro _ w58 hS59 hA61; have hS60 := hS59.blk_say (i := 0) rfl (cs' := (ints (padF l))) (setFrom_all _ _ (Eq.symm (padF_len l))); clear hS59 hA54 hS57
 refine st hA61 (op_assign rfl (hA61.ev rfl)) rfl rfl (by decide) fun a62 hA63 => ?_; clear hA61 a53
 refine wl_nil ?_
 refine then_n ?_
 refine c_seq ?_
 refine c_seq ?_
 have hA64 := hA63.as [(11, (Value.bool true)), (10, (bptr b56 0)), (8, (bptr bj19 0))] rfl; clear hA63
 refine c_region ?_
 refine st hA64 (op_move rfl (hA64.ev rfl)) rfl rfl (by decide) fun a65 hA66 => ?_; clear hA64 a62
 refine st hA66 (op_not rfl (hA66.ev rfl)) rfl rfl (by decide) fun a67 hA68 => ?_; clear hA66 a65
 refine wl_nil ?_
 refine then_n ?_
 refine c_false hA68 rfl ?_
 refine c_skip ?_
 refine then_n ?_
 refine c_seq ?_
 refine c_region ?_
 refine st hA68 (op_move rfl (hA68.ev rfl)) rfl rfl (by decide) fun a69 hA70 => ?_; clear hA68 a67
 refine st hA70 (op_loadA rfl ty_104 (hA70.ev rfl) (hS60.bk 0 rfl) (l := (ints (padF l))) (drop_take_all _ _ (padF_len l)) (padF_len l)) rfl rfl (by decide) fun a71 hA72 => ?_; clear hA70 a69
 refine stw hA72 (op_call rfl en_68 (ev2 (hA72.ev rfl) (hA72.ev rfl)) (allowed_ok _ _ (padF l) R rs lv vr vu R.length _ hR.1 hpr hV hx.len (hS60.lendM (i := 2) rfl [1, 4, 5, 6] ⟨rfl, by decide, hS60.bk 1 rfl, ⟨_, rfl, fun _ hz => hz⟩, rfl, by decide, hS60.sk 4 rfl, ⟨_, rfl, fun _ hz => hz⟩, rfl, by decide, hS60.sk 5 rfl, ⟨_, rfl, fun _ hz => hz⟩, rfl, by decide, hS60.ok 6 _ rfl, ⟨_, rfl, fun _ hz => hz⟩, trivial⟩))) rfl rfl (by decide) ?_
 rintro a73 _ w75 ⟨rfl, hE76, hM77⟩ hA74; have hS78 := hS60.updM (i := 2) rfl hE76 hM77; clear hE76 hM77 hA72 hS60 a71
 refine st hA74 (op_assign rfl (hA74.ev rfl)) rfl rfl (by decide) fun a79 hA80 => ?_; clear hA74 a73
 refine st hA80 (op_assign rfl (evc _ _)) rfl rfl (by decide) fun a81 hA82 => ?_; clear hA80 a79
 refine wl_nil ?_
 refine then_n ?_
 refine c_ret ?_
 refine fin_run hA82 (.inl rfl) (run_results2 hA82 rfl (.tmp rfl) (.tmp rfl)) ?_
 exact ⟨rfl, hS78.ext⟩
theorem allows_no (R : List (Int × Int)) (rs : List RunD) (lv : List Value) (vr vu : Value) (w : World) (hm : SlAt w vr 2 R.length (pairs R)) (hx : RunsAt w vu lv rs) (hlen : R.length ≤ 1000000) (hrl : rs.length ≤ 1000000) (l : List Int) (xl : Value) (hxl : SlAt w xl 1 l.length (ints l)) (hlen2 : l.length ≤ 1000000) (he : enterF R rs = 0) (hb : areB R l = false) :
  Calls Try.prog 38 #[(Value.agg #[vr]), vu, xl] w (Ret fun v w' => v = .tuple #[.bool false, .int .i64 2] ∧ Ext NoB w w') := by
 refine calls_enter Try.func38 rfl fun a0 hA0 => ?_
 replace hA0 : Fr 32 [] [(0, (Value.agg #[vr])), (1, vu), (2, xl)] a0 := hA0
 have hR := (check_mat (enter_mat he)).1
 have hV := enter_runs he
 have hS0 : Sep NoB w w [(sl vr 2 R.length (pairs R)), (sl vu 3 rs.length (vtrips (runV lv rs))), (segsR false lv rs), (sl xl 1 l.length (ints l))] := sep_ro ⟨rfl, hm, rfl, hx.runs, rfl, ⟨hx.len, hx.segs⟩, rfl, hxl, trivial⟩
 refine c_seq ?_
 refine c_region ?_
 refine stw hA0 (op_box hS0 rfl (hA0.ev rfl) (cs := [vr]) rfl) rfl rfl (by decide) ?_
 rintro a1 _ w3 ⟨b4, rfl, hS5⟩ hA2; clear hA0 hS0 a0
 refine st hA2 (op_assign rfl (evc _ _)) rfl rfl (by decide) fun a6 hA7 => ?_; clear hA2 a1
 refine st hA7 (op_assign rfl (evc _ _)) rfl rfl (by decide) fun a8 hA9 => ?_; clear hA7 a6
 refine wl_nil ?_
 refine then_n ?_
 refine c_seq ?_
 refine c_region ?_
 refine st hA9 (op_loadA rfl ty_33 (hA9.ev rfl) (hS5.bk 0 rfl) (l := [vr]) rfl rfl) rfl rfl (by decide) fun a10 hA11 => ?_; clear hA9 a8
 refine st hA11 (op_move rfl (hA11.ev rfl)) rfl rfl (by decide) fun a12 hA13 => ?_; clear hA11 a10
 refine stw hA13 (op_call rfl en_66 (ev2 (hA13.ev rfl) (hA13.ev rfl)) (enter_ok R rs lv vr vu _ (hm.step hS5.ext) (hx.step hS5.ext) (by omega) (by omega) he)) rfl rfl (by decide) ?_
 rintro a14 _ w16 ⟨bj19, bm20, rfl, hT17⟩ hA15; have hS18 := hS5.callS hT17 rfl; clear hT17 hA13 hS5 a12
 refine st hA15 (op_move rfl (hA15.ev rfl)) rfl rfl (by decide) fun a21 hA22 => ?_; clear hA15 a14
 refine st hA22 (op_extract rfl (hA22.ev rfl) rfl) rfl rfl (by decide) fun a23 hA24 => ?_; clear hA22 a21
 refine st hA24 (op_extract rfl (hA24.ev rfl) rfl) rfl rfl (by decide) fun a25 hA26 => ?_; clear hA24 a23
 refine st hA26 (op_assign rfl (hA26.ev rfl)) rfl rfl (by decide) fun a27 hA28 => ?_; clear hA26 a25
 refine st hA28 (op_assign rfl (hA28.ev rfl)) rfl rfl (by decide) fun a29 hA30 => ?_; clear hA28 a27
 refine wl_nil ?_
 refine then_n ?_
 refine c_seq ?_
 refine c_seq ?_
 have hA31 := hA30.as [(9, (Value.int .i64 0)), (8, (bptr bj19 0)), (3, (bptr b4 0)), (2, xl)] rfl; clear hA30
 refine c_region ?_
 refine st hA31 (op_move rfl (hA31.ev rfl)) rfl rfl (by decide) fun a32 hA33 => ?_; clear hA31 a29
 refine st hA33 (op_neq rfl (hA33.ev rfl) (evc _ _)) rfl rfl (by decide) fun a34 hA35 => ?_; clear hA33 a32
 refine wl_nil ?_
 refine then_n ?_
 refine c_false hA35 rfl ?_
 refine c_skip ?_
 refine then_n ?_
 refine c_seq ?_
 refine c_region ?_
 refine st hA35 (op_loadA rfl ty_33 (hA35.ev rfl) (hS18.bk 2 rfl) (l := [vr]) rfl rfl) rfl rfl (by decide) fun a36 hA37 => ?_; clear hA35 a34
 refine st hA37 (op_move rfl (hA37.ev rfl)) rfl rfl (by decide) fun a38 hA39 => ?_; clear hA37 a36
 refine stw hA39 (op_call rfl en_67 (ev2 (hA39.ev rfl) (hA39.ev rfl)) (own_ok _ R _ (hS18.sk 3 rfl) l _ (hS18.sk 6 rfl) hR.1)) rfl rfl (by decide) ?_
 rintro a40 _ w42 ⟨arr43, hal_, har44, rfl, hE45⟩ hA41; have hS46 := hS18.step hE45; clear hE45 hA39 hS18 a38
 rw [hb] at hA41
 refine st hA41 (op_move rfl (hA41.ev rfl)) rfl rfl (by decide) fun a47 hA48 => ?_; clear hA41 a40
 refine st hA48 (op_extract rfl (hA48.ev rfl) rfl) rfl rfl (by decide) fun a49 hA50 => ?_; clear hA48 a47
 refine st hA50 (op_extract rfl (hA50.ev rfl) rfl) rfl rfl (by decide) fun a51 hA52 => ?_; clear hA50 a49
 refine stw hA52 (op_alloc hS46 rfl ze_104 (cs := [(Value.int .i64 0), (Value.int .i64 0), (Value.int .i64 0)]) rfl) rfl rfl (by decide) ?_
 rintro a53 _ w55 ⟨b56, rfl, hS57⟩ hA54; clear hA52 hS46 a51
 refine sts hA54 (op_store hS57 rfl ty_104 (hA54.ev rfl) (hA54.ev rfl) (i := 0) rfl (vs := (ints arr43)) rfl (by rw [ints, List.length_map]; exact hal_) (ints_one _) (by decide)) rfl rfl ?_
 intro _ w58 hS59 hA61; have hS60 := hS59.blk_say (i := 0) rfl (cs' := (ints arr43)) (setFrom_all _ _ (Eq.symm (by rw [ints, List.length_map]; exact hal_))); clear hS59 hA54 hS57
 refine st hA61 (op_assign rfl (hA61.ev rfl)) rfl rfl (by decide) fun a62 hA63 => ?_; clear hA61 a53
 refine wl_nil ?_
 refine then_n ?_
 refine c_seq ?_
 refine c_seq ?_
 have hA64 := hA63.as [(11, (Value.bool false)), (10, (bptr b56 0)), (8, (bptr bj19 0))] rfl; clear hA63
 refine c_region ?_
 refine st hA64 (op_move rfl (hA64.ev rfl)) rfl rfl (by decide) fun a65 hA66 => ?_; clear hA64 a62
 refine st hA66 (op_not rfl (hA66.ev rfl)) rfl rfl (by decide) fun a67 hA68 => ?_; clear hA66 a65
 refine wl_nil ?_
 refine then_n ?_
 refine c_true hA68 rfl ?_
 refine c_seq ?_
 refine c_region ?_
 refine st hA68 (op_assign rfl (evc _ _)) rfl rfl (by decide) fun a69 hA70 => ?_; clear hA68 a67
 refine st hA70 (op_assign rfl (evc _ _)) rfl rfl (by decide) fun a71 hA72 => ?_; clear hA70 a69
 refine wl_nil ?_
 refine then_n ?_
 refine c_ret ?_
 refine then_ret ?_
 refine fin_run hA72 (.inl rfl) (run_results2 hA72 rfl (.tmp rfl) (.tmp rfl)) ?_
 exact ⟨rfl, hS60.ext⟩
end Go.Proofs.Ytkkglkdnnfegkaa

namespace Go.Proofs.Ytkkglkdnnfegkaa
open Go.RowKit Go.Eng
theorem getD_ge {l : List Int} {i : Nat} (h : l.length ≤ i) : l.getD i 0 = 0 := by simp [List.getD, List.getElem?_eq_none h]
theorem padF_at {l : List Int} (h : l.length ≤ 3) (i : Nat) : (padF l).getD i 0 = l.getD i 0 := by
  by_cases hi : i < 3
  · have e : (padF l).getD i 0 = if i < l.length then l.getD i 0 else 0 := by simp [padF, padU, List.getD, hi]
    rw [e]
    by_cases h2 : i < l.length
    · rw [if_pos h2]
    · rw [if_neg h2, getD_ge (by omega)]
  · rw [getD_ge (by rw [padF, padU_len]; omega), getD_ge (by omega)]
theorem areB_is {R : List (Int × Int)} {l : List Int} (h : areB R l = true) : l.length = R.length ∧ ∀ i, i < l.length → rateAt R l i = true := by
  simp only [areB, Bool.and_eq_true, decide_eq_true_eq] at h
  exact ⟨h.1, fun i hi => List.all_eq_true.1 h.2 i (List.mem_range.2 hi)⟩
theorem rateAt_is {R : List (Int × Int)} {l : List Int} {i : Nat} (h : rateAt R l i = true) : ((R.getD i (0, 0)).1 ≤ l.getD i 0 ∧ l.getD i 0 ≤ (R.getD i (0, 0)).2) ∧ (i = 0 ∨ l.getD (i - 1) 0 ≤ l.getD i 0) := by
  simpa only [rateAt, Bool.and_eq_true, Bool.or_eq_true, decide_eq_true_eq] using h
theorem rateAt_of {R : List (Int × Int)} {l : List Int} {i : Nat} (h : ((R.getD i (0, 0)).1 ≤ l.getD i 0 ∧ l.getD i 0 ≤ (R.getD i (0, 0)).2) ∧ (i = 0 ∨ l.getD (i - 1) 0 ≤ l.getD i 0)) : rateAt R l i = true := by
  simpa only [rateAt, Bool.and_eq_true, Bool.or_eq_true, decide_eq_true_eq] using h
theorem are_small {R : List (Int × Int)} {l : List Int} (hR : MatV R) (h : areB R l = true) (i : Nat) : 0 ≤ l.getD i 0 ∧ l.getD i 0 ≤ 1000 := by
  obtain ⟨h1, h2⟩ := areB_is h
  by_cases hi : i < l.length
  · have := rateAt_is (h2 i hi)
    have := hR.2 i
    omega
  · rw [getD_ge (by omega)]; decide
theorem are_len {R : List (Int × Int)} {l : List Int} (hR : MatV R) (h : areB R l = true) : l.length ≤ 3 := by
  have := (areB_is h).1
  have := hR.1
  omega
theorem pad_rates {R : List (Int × Int)} {l : List Int} (hR : MatV R) (h : areB R l = true) : RatesV (padF l) :=
  ⟨padU_len _ _, fun i => by rw [padF_at (are_len hR h)]; exact are_small hR h i⟩
theorem allow_pad {R : List (Int × Int)} {rs : List RunD} {l : List Int} (hR : MatV R) (hV : RunsV R.length rs) (h : areB R l = true) : allowB rs (padF l) = allowB rs l :=
  allowB_congr (n := R.length) (fun i _ => padF_at (are_len hR h) i) hV
theorem getD_takeI {l p : List Int} (h : l.take p.length = p) {i : Nat} (hi : i < p.length) : l.getD i 0 = p.getD i 0 := by
  rw [← take_getD hi, h]
theorem take_ext {l p : List Int} (h : l.take p.length = p) (hl : p.length < l.length) : l.take (p ++ [l.getD p.length 0]).length = p ++ [l.getD p.length 0] := by
  have e : l[p.length]? = some l[p.length] := List.getElem?_eq_getElem hl
  simp only [List.length_append, List.length_cons, List.length_nil, Nat.zero_add]
  rw [List.take_add_one, h, e]
  simp [List.getD, e]
theorem take_of_ext {l p : List Int} {x : Int} (h : l.take (p ++ [x]).length = p ++ [x]) : l.take p.length = p ∧ l.getD p.length 0 = x ∧ p.length < l.length := by
  have hlen : p.length + 1 ≤ l.length := by
    have := congrArg List.length h
    simp only [List.length_take, List.length_append, List.length_cons, List.length_nil] at this
    omega
  refine ⟨?_, ?_, by omega⟩
  · have e := congrArg (List.take p.length) h
    rw [List.take_take, List.length_append, Nat.min_eq_left (Nat.le_add_right ..)] at e
    rw [e]; simp
  · rw [getD_takeI h (i := p.length) (by simp)]; simp [List.getD]
theorem low_is {R : List (Int × Int)} {l p : List Int} (h : l.take p.length = p) : lowF R p p.length = lowF R l p.length := (lowF_take h).symm
theorem rateAt_low {R : List (Int × Int)} {l : List Int} {b : Nat} : rateAt R l b = true ↔ lowF R l b ≤ l.getD b 0 ∧ l.getD b 0 ≤ (R.getD b (0, 0)).2 := by
  constructor
  · intro h
    have := rateAt_is h
    unfold lowF
    split <;> omega
  · intro h
    apply rateAt_of
    unfold lowF at h
    split at h <;> omega
theorem mem_rl {R : List (Int × Int)} : ∀ (m : Nat) (p l : List Int), p.length + m = R.length → (l ∈ rlF R m p ↔ l.take p.length = p ∧ l.length = R.length ∧ ∀ i, p.length ≤ i → i < R.length → rateAt R l i = true)
  | 0, p, l, hb => by
    simp only [rlF, List.mem_singleton]
    constructor
    · rintro rfl
      exact ⟨List.take_length, by omega, fun i h1 h2 => by omega⟩
    · rintro ⟨h1, h2, _⟩
      rw [← h1, List.take_of_length_le (by omega)]
  | m + 1, p, l, hb => by
    simp only [rlF, List.mem_flatMap, List.mem_range]
    constructor
    · rintro ⟨t, ht, hl⟩
      obtain ⟨h1, h2, h3⟩ := (mem_rl m _ l (by simp; omega)).1 hl
      obtain ⟨e1, e2, e3⟩ := take_of_ext h1
      refine ⟨e1, h2, fun i hi hi2 => ?_⟩
      by_cases hp : i = p.length
      · subst hp
        rw [rateAt_low, ← low_is e1, e2]
        unfold cntF at ht; omega
      · exact h3 i (by simp; omega) hi2
    · rintro ⟨h1, h2, h3⟩
      have hr := rateAt_low.1 (h3 p.length (Nat.le_refl _) (by omega))
      rw [← low_is h1] at hr
      have e : lowF R p p.length + (((l.getD p.length 0 - lowF R p p.length).toNat : Nat) : Int) = l.getD p.length 0 := by omega
      refine ⟨(l.getD p.length 0 - lowF R p p.length).toNat, by unfold cntF; omega, ?_⟩
      rw [e]
      exact (mem_rl m _ l (by simp; omega)).2 ⟨take_ext h1 (by omega), h2, fun i hi hi2 => h3 i (by simp at hi; omega) hi2⟩
theorem mem_rlists {R : List (Int × Int)} {l : List Int} : l ∈ rlistsF R ↔ areB R l = true := by
  unfold rlistsF
  rw [mem_rl R.length [] l (by simp)]
  constructor
  · rintro ⟨_, h2, h3⟩
    exact areB_yes h2 (fun i hi => h3 i (Nat.zero_le _) (by omega))
  · intro h
    obtain ⟨h1, h2⟩ := areB_is h
    exact ⟨by simp, h1, fun i _ hi => h2 i (by omega)⟩
theorem mem_rallow {R : List (Int × Int)} {rs : List RunD} {l : List Int} : l ∈ rallowF R rs ↔ areB R l = true ∧ allowB rs l = true := by
  unfold rallowF
  rw [List.mem_filter, mem_rlists]
theorem getD_memL {A : List (List Int)} {k : Nat} (h : k < A.length) : A.getD k [] ∈ A := by
  simp only [List.getD, List.getElem?_eq_getElem h, Option.getD_some]
  exact List.getElem_mem h
theorem allow_take {R : List (Int × Int)} {rs : List RunD} (hR : MatV R) (hV : RunsV R.length rs) {k : Nat} (h : k < (allowedF R rs).length) : areB R (((allowedF R rs).getD k []).take R.length) = true ∧ allowB rs (((allowedF R rs).getD k []).take R.length) = true := by
  have hl := rallow_len hR hV
  rw [← rallow_at hR hV (k := k) (by omega)]
  exact mem_rallow.1 (getD_memL (by omega))
section
variable {plan : List Seg} {A : List (List Int)}
theorem least_mem : ∀ q, 0 < q → ∃ k, k < q ∧ leastF plan A q = A.getD k []
  | q + 1, _ => by
    unfold leastF; split
    · exact ⟨q, by omega, rfl⟩
    · rename_i h
      obtain ⟨k, hk, e⟩ := least_mem q (by omega)
      exact ⟨k, by omega, e⟩
theorem most_mem : ∀ q, 0 < q → ∃ k, k < q ∧ mostF plan A q = A.getD k []
  | q + 1, _ => by
    unfold mostF; split
    · exact ⟨q, by omega, rfl⟩
    · rename_i h
      obtain ⟨k, hk, e⟩ := most_mem q (by omega)
      exact ⟨k, by omega, e⟩
theorem least_le : ∀ q k, k < q → stLo plan (leastF plan A q) ≤ stLo plan (A.getD k [])
  | q + 1, k, hk => by
    unfold leastF; split
    · rename_i h
      by_cases e : k = q
      · subst e; exact Int.le_refl _
      · rcases h with h | h
        · omega
        · have := least_le q k (by omega); omega
    · rename_i h
      by_cases e : k = q
      · subst e; omega
      · exact least_le q k (by omega)
theorem most_ge : ∀ q k, k < q → stHi plan (A.getD k []) ≤ stHi plan (mostF plan A q)
  | q + 1, k, hk => by
    unfold mostF; split
    · rename_i h
      by_cases e : k = q
      · subst e; exact Int.le_refl _
      · rcases h with h | h
        · omega
        · have := most_ge q k (by omega); omega
    · rename_i h
      by_cases e : k = q
      · subst e; omega
      · exact most_ge q k (by omega)
def strU (plan : List Seg) (A : List (List Int)) : Nat → Int × Int
  | 0 => (stLo plan (A.getD 0 []), stHi plan (A.getD 0 []))
  | i + 1 => (min (strU plan A i).1 (stLo plan (A.getD i [])), max (strU plan A i).2 (stHi plan (A.getD i [])))
theorem strU_bd : ∀ q, (∀ k, k < q → (strU plan A q).1 ≤ stLo plan (A.getD k []) ∧ stHi plan (A.getD k []) ≤ (strU plan A q).2) ∧ (∃ k, (k < q ∨ k = 0) ∧ (strU plan A q).1 = stLo plan (A.getD k [])) ∧ (∃ k, (k < q ∨ k = 0) ∧ (strU plan A q).2 = stHi plan (A.getD k []))
  | 0 => ⟨fun k hk => by omega, ⟨0, .inr rfl, rfl⟩, ⟨0, .inr rfl, rfl⟩⟩
  | q + 1 => by
    obtain ⟨h1, ⟨k2, h2, e2⟩, ⟨k3, h3, e3⟩⟩ := strU_bd q
    refine ⟨fun k hk => ?_, ?_, ?_⟩
    · simp only [strU]
      by_cases e : k = q
      · subst e; omega
      · have := h1 k (by omega); omega
    · simp only [strU]
      by_cases h : (strU plan A q).1 ≤ stLo plan (A.getD q [])
      · exact ⟨k2, by omega, by rw [Int.min_eq_left h]; exact e2⟩
      · exact ⟨q, by omega, Int.min_eq_right (by omega)⟩
    · simp only [strU]
      by_cases h : stHi plan (A.getD q []) ≤ (strU plan A q).2
      · exact ⟨k3, by omega, by rw [Int.max_eq_left h]; exact e3⟩
      · exact ⟨q, by omega, Int.max_eq_right (by omega)⟩
theorem strU_ends {q : Nat} (hq : 0 < q) : (strU plan A q).1 = stLo plan (leastF plan A q) ∧ (strU plan A q).2 = stHi plan (mostF plan A q) := by
  obtain ⟨h1, ⟨k2, h2, e2⟩, ⟨k3, h3, e3⟩⟩ := strU_bd (plan := plan) (A := A) q
  obtain ⟨k4, h4, e4⟩ := least_mem (plan := plan) (A := A) q hq
  obtain ⟨k5, h5, e5⟩ := most_mem (plan := plan) (A := A) q hq
  constructor
  · have a := least_le (plan := plan) (A := A) q k2 (by omega)
    have b := (h1 k4 h4).1
    rw [← e4] at b; omega
  · have a := most_ge (plan := plan) (A := A) q k3 (by omega)
    have b := (h1 k5 h5).2
    rw [← e5] at b; omega
theorem strU_congr {B : List (List Int)} (h : ∀ i, i < A.length → stLo plan (A.getD i []) = stLo plan (B.getD i []) ∧ stHi plan (A.getD i []) = stHi plan (B.getD i [])) (h0 : 0 < A.length) : ∀ q, q ≤ A.length → strU plan A q = strU plan B q
  | 0, _ => by simp only [strU]; rw [(h 0 h0).1, (h 0 h0).2]
  | q + 1, hq => by simp only [strU]; rw [strU_congr h h0 q (by omega), (h q (by omega)).1, (h q (by omega)).2]
end
section
variable {R : List (Int × Int)} {rs : List RunD} {plan : List Seg} (hR : MatV R) (hV : RunsV R.length rs) (hpos : 0 < (allowedF R rs).length) (hs : ∀ i, i < plan.length → SegV R.length (plan.getD i (0, 0, 0)))
include hs in
theorem st_take (l : List Int) : stLo plan (l.take R.length) = stLo plan l ∧ stHi plan (l.take R.length) = stHi plan l := st_congr (n := R.length) (fun _ hi => take_getD hi) hs
include hR hV hpos hs
theorem str_ends {m : Nat} (hm : m = (rallowF R rs).length) : (strU plan (rallowF R rs) m).1 = stLo plan (leastR R rs plan) ∧ (strU plan (rallowF R rs) m).2 = stHi plan (mostR R rs plan) := by
  subst hm
  have hl := rallow_len hR hV
  rw [strU_congr (B := allowedF R rs) (fun i hi => by rw [rallow_at hR hV hi]; exact st_take hs _) (by omega) _ (Nat.le_refl _), hl]
  exact strU_ends hpos
omit hs
omit hR hV in
theorem leastR_mem (plan : List Seg) : ∃ k, k < (allowedF R rs).length ∧ leastR R rs plan = (allowedF R rs).getD k [] := least_mem _ hpos
omit hR hV in
theorem mostR_mem (plan : List Seg) : ∃ k, k < (allowedF R rs).length ∧ mostR R rs plan = (allowedF R rs).getD k [] := most_mem _ hpos
theorem leastR_are (plan : List Seg) : areB R ((leastR R rs plan).take R.length) = true ∧ allowB rs ((leastR R rs plan).take R.length) = true := by
  obtain ⟨k, hk, e⟩ := leastR_mem hpos plan
  rw [e]; exact allow_take hR hV hk
theorem mostR_are (plan : List Seg) : areB R ((mostR R rs plan).take R.length) = true ∧ allowB rs ((mostR R rs plan).take R.length) = true := by
  obtain ⟨k, hk, e⟩ := mostR_mem hpos plan
  rw [e]; exact allow_take hR hV hk
end
end Go.Proofs.Ytkkglkdnnfegkaa

namespace Go.Proofs.Ytkkglkdnnfegkaa
open Go.RowKit Go.Eng
end Go.Proofs.Ytkkglkdnnfegkaa

namespace Go.Proofs.Ytkkglkdnnfegkaa
open Go.RowKit Go.Eng
def Sub (A B : List (List Int)) : Prop := ∀ k, k < A.length → ∃ j, j < B.length ∧ A.getD k [] = B.getD j []
section
variable {R : List (Int × Int)} {rs rs' : List RunD} (hpos : 0 < (allowedF R rs').length) (hsub : Sub (allowedF R rs') (allowedF R rs))
include hpos hsub
end
section
variable {A : List (List Int)} {band : Nat} {s : Int}
end
end Go.Proofs.Ytkkglkdnnfegkaa

namespace Go.Proofs.Ytkkglkdnnfegkaa
open Go.RowKit Go.Eng
def showF (R : List (Int × Int)) (rs : List RunD) (plan : List Seg) (hi : Bool) : List Int := (if hi = true then mostR R rs plan else leastR R rs plan).take R.length
theorem show_y {R : List (Int × Int)} {rs : List RunD} {plan : List Seg} {hi : Bool} (h : hi = true) : (mostR R rs plan).take R.length = showF R rs plan hi := by unfold showF; rw [if_pos h]
theorem show_n {R : List (Int × Int)} {rs : List RunD} {plan : List Seg} {hi : Bool} (h : hi = false) : (leastR R rs plan).take R.length = showF R rs plan hi := by unfold showF; rw [if_neg (by rw [h]; decide)]
theorem show_hi {R : List (Int × Int)} {rs : List RunD} {plan : List Seg} {hi : Bool} (hs : ∀ i, i < plan.length → SegV R.length (plan.getD i (0, 0, 0))) (h : hi = true) : stHi plan (showF R rs plan hi) = stHi plan (mostR R rs plan) := by rw [← show_y h]; exact (st_take hs _).2
theorem show_lo {R : List (Int × Int)} {rs : List RunD} {plan : List Seg} {hi : Bool} (hs : ∀ i, i < plan.length → SegV R.length (plan.getD i (0, 0, 0))) (h : hi = false) : stLo plan (showF R rs plan hi) = stLo plan (leastR R rs plan) := by rw [← show_n h]; exact (st_take hs _).1
theorem show_are {R : List (Int × Int)} {rs : List RunD} (hR : MatV R) (hV : RunsV R.length rs) (hpos : 0 < (allowedF R rs).length) (plan : List Seg) (hi : Bool) : areB R (showF R rs plan hi) = true ∧ allowB rs (showF R rs plan hi) = true := by
  cases hi with
  | true => rw [← show_y rfl]; exact mostR_are hR hV hpos plan
  | false => rw [← show_n rfl]; exact leastR_are hR hV hpos plan
theorem ints_take (l : List Int) (h : Nat) : (ints l).take (h * 1) = ints (l.take h) := by rw [Nat.mul_one, ints, ints, List.map_take]
theorem take_len {l : List Int} {h : Nat} (hl : (ints l).length = 3) (hh : h ≤ 3) : h = (l.take h).length := by
  rw [ints, List.length_map] at hl
  rw [List.length_take]; omega
theorem poss_09 {R : List (Int × Int)} {rs : List RunD} (he : enterF R rs = 0) : possF R rs = 0 ∨ possF R rs = 9 := by
  by_cases h : (allowedF R rs).length = 0
  · exact .inr (poss_9 he h)
  · exact .inl (poss_0 he (by omega))
end Go.Proofs.Ytkkglkdnnfegkaa

namespace Go.Proofs.Ytkkglkdnnfegkaa
open Go.RowKit Go.Shelf Go.Eng
theorem clone_int (xs : List Int) (v : Value) (w : World) (hv : SlAt w v 1 xs.length (ints xs)) (hlen : xs.length ≤ 1000000) :
  Calls Try.prog 61 #[v] w (Ret fun v w' => Ext NoB w w' ∧ w'.ownsRow w.heap.size 3 1 v xs.length (ints xs)) := by
 refine calls_enter Try.func61 rfl fun a0 hA0 => ?_
 replace hA0 : Fr 8 [] [(0, v)] a0 := hA0
 have hS0 : Sep NoB w w [(sl v 1 xs.length (ints xs))] := sep_ro ⟨rfl, hv, trivial⟩
 refine c_seq ?_
 refine c_region ?_
 refine st hA0 (op_assign rfl (evc _ _)) rfl rfl (by decide) fun a1 hA2 => ?_; clear hA0 a0
 refine wl_nil ?_
 refine then_n ?_
 refine c_seq ?_
 refine c_seq ?_
 refine c_region ?_
 refine st hA2 (op_move rfl (hA2.ev rfl)) rfl rfl (by decide) fun a3 hA4 => ?_; clear hA2 a1
 refine stw hA4 (op_eqlNil un_40 rfl (hA4.ev rfl) (evc _ _) (hS0.sk 0 rfl) (by decide)) rfl rfl (by decide) ?_
 rintro a5 _ _ ⟨bn7, rfl, rfl, hn8⟩ hA6; clear hA4 a3
 refine wl_nil ?_
 refine then_n ?_
 rcases Bool.eq_false_or_eq_true (bn7) with hb9 | hb9
 ·skip
  rw [hb9] at hA6
  refine c_true hA6 rfl ?_
  refine c_seq ?_
  refine c_region ?_
  refine st hA6 (op_assign rfl (evc _ _)) rfl rfl (by decide) fun a10 hA11 => ?_; clear hA6 a5
  refine wl_nil ?_
  refine then_n ?_
  refine c_ret ?_
  refine then_ret ?_
  refine fin_run hA11 (.inl rfl) (run_results1 hA11 rfl (.tmp rfl)) ?_
  exact ⟨hS0.ext, by have hz := (hn8 (by assumption)); rw [hz.1, hz.2]; exact ⟨by simp, .inl ⟨rfl, rfl⟩⟩⟩
 ·skip
  rw [hb9] at hA6
  refine c_false hA6 rfl ?_
  refine c_skip ?_
  refine then_n ?_
  refine c_seq ?_
  refine c_region ?_
  refine stw hA6 (op_buildSlice hS0 rfl pv0 un_40 ty_3 ze_3 (by decide) (cs := []) bs_3_0_) rfl rfl (by decide) ?_
  rintro a12 _ w14 ⟨b15, rfl, hS16⟩ hA13; clear hA6 hS0 a5
  refine st hA13 (op_move rfl (hA13.ev rfl)) rfl rfl (by decide) fun a17 hA18 => ?_; clear hA13 a12
  have hS19 := hS16.blk_row (i := 0) (sz := 1) (n := 0) rfl rfl (by decide); clear hS16
  refine stw hA18 (op_append hS19 rfl un_40 el_3 (hA18.ev rfl) (hA18.ev rfl) (i := 0) rfl (hS19.sk 1 rfl) (ints_one _) (by simp only [maxLen]; omega) (by omega)) rfl rfl (by decide) ?_
  intro a20 v23 w22 hS24 hA21
  have hS25 := hS24.row_say (i := 0) rfl (n' := xs.length) (xs' := (ints xs)) (by simp) (by simp); clear hS24 hA18 hS19 a17
  refine st hA21 (op_assign rfl (hA21.ev rfl)) rfl rfl (by decide) fun a26 hA27 => ?_; clear hA21 a20
  refine wl_nil ?_
  refine then_n ?_
  refine c_ret ?_
  refine fin_run hA27 (.inl rfl) (run_results1 hA27 rfl (.tmp rfl)) ?_
  exact ⟨hS25.ext, hS25.row_new (i := 0) rfl⟩
theorem shows_bad (R : List (Int × Int)) (rs : List RunD) (lv : List Value) (vr vu : Value) (w : World) (hm : SlAt w vr 2 R.length (pairs R)) (hx : RunsAt w vu lv rs) (hlen : R.length ≤ 1000000) (hrl : rs.length ≤ 1000000) (plan : List Seg) (vp : Value) (hp : SlAt w vp 3 plan.length (trips plan)) (hpl : plan.length ≤ 1000000) (hi : Bool) (he : planF R rs plan ≠ 0) :
  Calls Try.prog 32 #[(Value.agg #[vr]), vu, vp, (Value.bool hi)] w (Ret fun v w' => v = .tuple #[.slice none 0 0, .int .i64 (planF R rs plan)] ∧ Ext NoB w w') := by
 refine calls_enter Try.func32 rfl fun a0 hA0 => ?_
 replace hA0 : Fr 37 [] [(0, (Value.agg #[vr])), (1, vu), (2, vp), (3, (Value.bool hi))] a0 := hA0
 have hS0 : Sep NoB w w [(sl vr 2 R.length (pairs R)), (sl vu 3 rs.length (vtrips (runV lv rs))), (segsR false lv rs), (sl vp 3 plan.length (trips plan))] := sep_ro ⟨rfl, hm, rfl, hx.runs, rfl, ⟨hx.len, hx.segs⟩, rfl, hp, trivial⟩
 refine c_seq ?_
 refine c_region ?_
 refine stw hA0 (op_box hS0 rfl (hA0.ev rfl) (cs := [vr]) rfl) rfl rfl (by decide) ?_
 rintro a1 _ w3 ⟨b4, rfl, hS5⟩ hA2; clear hA0 hS0 a0
 refine st hA2 (op_assign rfl (evc _ _)) rfl rfl (by decide) fun a6 hA7 => ?_; clear hA2 a1
 refine st hA7 (op_assign rfl (evc _ _)) rfl rfl (by decide) fun a8 hA9 => ?_; clear hA7 a6
 refine wl_nil ?_
 refine then_n ?_
 refine c_seq ?_
 refine c_region ?_
 refine st hA9 (op_loadA rfl ty_33 (hA9.ev rfl) (hS5.bk 0 rfl) (l := [vr]) rfl rfl) rfl rfl (by decide) fun a10 hA11 => ?_; clear hA9 a8
 refine st hA11 (op_move rfl (hA11.ev rfl)) rfl rfl (by decide) fun a12 hA13 => ?_; clear hA11 a10
 refine st hA13 (op_move rfl (hA13.ev rfl)) rfl rfl (by decide) fun a14 hA15 => ?_; clear hA13 a12
 refine stw hA15 (op_call rfl en_58 (ev3 (hA15.ev rfl) (hA15.ev rfl) (hA15.ev rfl)) (plan_bad R rs lv vr vu _ (hm.step hS5.ext) (hx.step hS5.ext) (by omega) (by omega) plan vp (hp.step hS5.ext) (by omega) he)) rfl rfl (by decide) ?_
 rintro a16 _ w18 ⟨rfl, hE19⟩ hA17; have hS20 := hS5.step hE19; clear hE19 hA15 hS5 a14
 refine st hA17 (op_move rfl (hA17.ev rfl)) rfl rfl (by decide) fun a21 hA22 => ?_; clear hA17 a16
 refine st hA22 (op_extract rfl (hA22.ev rfl) rfl) rfl rfl (by decide) fun a23 hA24 => ?_; clear hA22 a21
 refine st hA24 (op_extract rfl (hA24.ev rfl) rfl) rfl rfl (by decide) fun a25 hA26 => ?_; clear hA24 a23
 refine st hA26 (op_assign rfl (hA26.ev rfl)) rfl rfl (by decide) fun a27 hA28 => ?_; clear hA26 a25
 refine st hA28 (op_assign rfl (hA28.ev rfl)) rfl rfl (by decide) fun a29 hA30 => ?_; clear hA28 a27
 refine wl_nil ?_
 refine then_n ?_
 refine c_seq ?_
 refine c_seq ?_
 have hA31 := hA30.as [(11, (Value.int .i64 (planF R rs plan))), (10, (Value.pointer none)), (4, (bptr b4 0)), (2, vp), (3, (Value.bool hi))] rfl; clear hA30
 refine c_region ?_
 refine st hA31 (op_move rfl (hA31.ev rfl)) rfl rfl (by decide) fun a32 hA33 => ?_; clear hA31 a29
 refine st hA33 (op_neq rfl (hA33.ev rfl) (evc _ _)) rfl rfl (by decide) fun a34 hA35 => ?_; clear hA33 a32
 have hd36 : ¬ ((planF R rs plan) = 0) := he
 rw [decide_eq_false hd36] at hA35
 refine wl_nil ?_
 refine then_n ?_
 refine c_true hA35 rfl ?_
 refine c_seq ?_
 have hA37 := hA35.as [(11, (Value.int .i64 (planF R rs plan)))] rfl; clear hA35
 refine c_region ?_
 refine st hA37 (op_move rfl (hA37.ev rfl)) rfl rfl (by decide) fun a38 hA39 => ?_; clear hA37 a34
 refine st hA39 (op_assign rfl (evc _ _)) rfl rfl (by decide) fun a40 hA41 => ?_; clear hA39 a38
 refine st hA41 (op_assign rfl (hA41.ev rfl)) rfl rfl (by decide) fun a42 hA43 => ?_; clear hA41 a40
 refine wl_nil ?_
 refine then_n ?_
 refine c_ret ?_
 refine then_ret ?_
 refine fin_run hA43 (.inl rfl) (run_results2 hA43 rfl (.tmp rfl) (.tmp rfl)) ?_
 exact ⟨rfl, hS20.ext⟩
theorem shows_fine (R : List (Int × Int)) (rs : List RunD) (lv : List Value) (vr vu : Value) (w : World) (hm : SlAt w vr 2 R.length (pairs R)) (hx : RunsAt w vu lv rs) (hlen : R.length ≤ 1000000) (hrl : rs.length ≤ 1000000) (plan : List Seg) (vp : Value) (hp : SlAt w vp 3 plan.length (trips plan)) (hpl : plan.length ≤ 1000000) (hi : Bool) (he : planF R rs plan = 0) :
  Calls Try.prog 32 #[(Value.agg #[vr]), vu, vp, (Value.bool hi)] w (Ret fun v w' => ∃ u, v = .tuple #[u, .int .i64 0] ∧ Sep NoB w w' [row u 3 1 (showF R rs plan hi).length (ints (showF R rs plan hi))]) := by
 refine calls_enter Try.func32 rfl fun a0 hA0 => ?_
 replace hA0 : Fr 37 [] [(0, (Value.agg #[vr])), (1, vu), (2, vp), (3, (Value.bool hi))] a0 := hA0
 have hpi := plan_is he
 have hs := hpi.2.2
 have hp8 := hpi.2.1
 have hR := (check_mat (enter_mat (poss_is hpi.1).1)).1
 have hR1 := (check_mat (enter_mat (poss_is hpi.1).1)).2.1
 have hR3 := hR.1
 have hV := enter_runs (poss_is hpi.1).1
 have hS0 : Sep NoB w w [(sl vr 2 R.length (pairs R)), (sl vu 3 rs.length (vtrips (runV lv rs))), (segsR false lv rs), (sl vp 3 plan.length (trips plan))] := sep_ro ⟨rfl, hm, rfl, hx.runs, rfl, ⟨hx.len, hx.segs⟩, rfl, hp, trivial⟩
 refine c_seq ?_
 refine c_region ?_
 refine stw hA0 (op_box hS0 rfl (hA0.ev rfl) (cs := [vr]) rfl) rfl rfl (by decide) ?_
 rintro a1 _ w3 ⟨b4, rfl, hS5⟩ hA2; clear hA0 hS0 a0
 refine st hA2 (op_assign rfl (evc _ _)) rfl rfl (by decide) fun a6 hA7 => ?_; clear hA2 a1
 refine st hA7 (op_assign rfl (evc _ _)) rfl rfl (by decide) fun a8 hA9 => ?_; clear hA7 a6
 refine wl_nil ?_
 refine then_n ?_
 refine c_seq ?_
 refine c_region ?_
 refine st hA9 (op_loadA rfl ty_33 (hA9.ev rfl) (hS5.bk 0 rfl) (l := [vr]) rfl rfl) rfl rfl (by decide) fun a10 hA11 => ?_; clear hA9 a8
 refine st hA11 (op_move rfl (hA11.ev rfl)) rfl rfl (by decide) fun a12 hA13 => ?_; clear hA11 a10
 refine st hA13 (op_move rfl (hA13.ev rfl)) rfl rfl (by decide) fun a14 hA15 => ?_; clear hA13 a12
 refine stw hA15 (op_call rfl en_58 (ev3 (hA15.ev rfl) (hA15.ev rfl) (hA15.ev rfl)) (plan_ok R rs lv vr vu _ (hm.step hS5.ext) (hx.step hS5.ext) (by omega) (by omega) plan vp (hp.step hS5.ext) (by omega) he)) rfl rfl (by decide) ?_
 rintro a16 _ w18 ⟨bj21, bm22, rfl, hT19⟩ hA17; have hS20 := hS5.callS hT19 rfl; clear hT19 hA15 hS5 a14
 refine st hA17 (op_move rfl (hA17.ev rfl)) rfl rfl (by decide) fun a23 hA24 => ?_; clear hA17 a16
 refine st hA24 (op_extract rfl (hA24.ev rfl) rfl) rfl rfl (by decide) fun a25 hA26 => ?_; clear hA24 a23
 refine st hA26 (op_extract rfl (hA26.ev rfl) rfl) rfl rfl (by decide) fun a27 hA28 => ?_; clear hA26 a25
 refine st hA28 (op_assign rfl (hA28.ev rfl)) rfl rfl (by decide) fun a29 hA30 => ?_; clear hA28 a27
 refine st hA30 (op_assign rfl (hA30.ev rfl)) rfl rfl (by decide) fun a31 hA32 => ?_; clear hA30 a29
 refine wl_nil ?_
 refine then_n ?_
 refine c_seq ?_
 refine c_seq ?_
 have hA33 := hA32.as [(11, (Value.int .i64 0)), (10, (bptr bj21 0)), (4, (bptr b4 0)), (2, vp), (3, (Value.bool hi))] rfl; clear hA32
 refine c_region ?_
 refine st hA33 (op_move rfl (hA33.ev rfl)) rfl rfl (by decide) fun a34 hA35 => ?_; clear hA33 a31
 refine st hA35 (op_neq rfl (hA35.ev rfl) (evc _ _)) rfl rfl (by decide) fun a36 hA37 => ?_; clear hA35 a34
 refine wl_nil ?_
 refine then_n ?_
 refine c_false hA37 rfl ?_
 refine c_skip ?_
 refine then_n ?_
 refine c_seq ?_
 refine c_region ?_
 refine st hA37 (op_move rfl (hA37.ev rfl)) rfl rfl (by decide) fun a38 hA39 => ?_; clear hA37 a36
 refine st hA39 (op_move rfl (hA39.ev rfl)) rfl rfl (by decide) fun a40 hA41 => ?_; clear hA39 a38
 refine stw hA41 (op_call rfl en_59 (ev2 (hA41.ev rfl) (hA41.ev rfl)) (ends_ok _ _ R rs lv vr vu vp plan _ hR hV hx.len hp8 hs (hS20.lendM (i := 1) rfl [0, 3, 4, 5, 6] ⟨rfl, by decide, hS20.bk 0 rfl, ⟨_, rfl, fun _ hz => hz⟩, rfl, by decide, hS20.sk 3 rfl, ⟨_, rfl, fun _ hz => hz⟩, rfl, by decide, hS20.sk 4 rfl, ⟨_, rfl, fun _ hz => hz⟩, rfl, by decide, hS20.ok 5 _ rfl, ⟨_, rfl, fun _ hz => hz⟩, rfl, by decide, hS20.sk 6 rfl, ⟨_, rfl, fun _ hz => hz⟩, trivial⟩))) rfl rfl (by decide) ?_
 rintro a42 _ w44 ⟨rfl, hE45, hM46⟩ hA43; have hS47 := hS20.updM (i := 1) rfl hE45 hM46; clear hE45 hM46 hA41 hS20 a40
 refine st hA43 (op_move rfl (hA43.ev rfl)) rfl rfl (by decide) fun a48 hA49 => ?_; clear hA43 a42
 refine st hA49 (op_extract rfl (hA49.ev rfl) rfl) rfl rfl (by decide) fun a50 hA51 => ?_; clear hA49 a48
 refine st hA51 (op_extract rfl (hA51.ev rfl) rfl) rfl rfl (by decide) fun a52 hA53 => ?_; clear hA51 a50
 refine stw hA53 (op_alloc hS47 rfl ze_104 (cs := [(Value.int .i64 0), (Value.int .i64 0), (Value.int .i64 0)]) rfl) rfl rfl (by decide) ?_
 rintro a54 _ w56 ⟨b57, rfl, hS58⟩ hA55; clear hA53 hS47 a52
 refine stw hA55 (op_alloc hS58 rfl ze_104 (cs := [(Value.int .i64 0), (Value.int .i64 0), (Value.int .i64 0)]) rfl) rfl rfl (by decide) ?_
 rintro a59 _ w61 ⟨b62, rfl, hS63⟩ hA60; clear hA55 hS58 a54
 refine sts hA60 (op_store hS63 rfl ty_104 (hA60.ev rfl) (hA60.ev rfl) (i := 1) rfl (vs := (ints (leastR R rs plan))) rfl (by rw [ints, List.length_map]; exact (leastR_rates hR).1) (ints_one _) (by decide)) rfl rfl ?_
 intro _ w64 hS65 hA67; have hS66 := hS65.blk_say (i := 1) rfl (cs' := (ints (leastR R rs plan))) (setFrom_all _ _ (Eq.symm (by rw [ints, List.length_map]; exact (leastR_rates hR).1))); clear hS65 hA60 hS63
 refine sts hA67 (op_store hS66 rfl ty_104 (hA67.ev rfl) (hA67.ev rfl) (i := 0) rfl (vs := (ints (mostR R rs plan))) rfl (by rw [ints, List.length_map]; exact (mostR_rates hR).1) (ints_one _) (by decide)) rfl rfl ?_
 intro _ w68 hS69 hA71; have hS70 := hS69.blk_say (i := 0) rfl (cs' := (ints (mostR R rs plan))) (setFrom_all _ _ (Eq.symm (by rw [ints, List.length_map]; exact (mostR_rates hR).1))); clear hS69 hA67 hS66
 refine wl_nil ?_
 refine then_n ?_
 refine c_seq ?_
 refine c_seq ?_
 have hA72 := hA71.as [(13, (bptr b62 0)), (12, (bptr b57 0)), (4, (bptr b4 0)), (3, (Value.bool hi))] rfl; clear hA71
 refine c_region ?_
 refine st hA72 (op_move rfl (hA72.ev rfl)) rfl rfl (by decide) fun a73 hA74 => ?_; clear hA72 a59
 refine wl_nil ?_
 refine then_n ?_
 rcases Bool.eq_false_or_eq_true (hi) with hb75 | hb75
 ·skip
  rw [hb75] at hA74
  refine c_true hA74 rfl ?_
  refine c_region ?_
  refine st hA74 (op_loadA rfl ty_104 (hA74.ev rfl) (hS70.bk 0 rfl) (l := (ints (mostR R rs plan))) (drop_take_all _ _ (by rw [ints, List.length_map]; exact (mostR_rates hR).1)) (by rw [ints, List.length_map]; exact (mostR_rates hR).1)) rfl rfl (by decide) fun a76 hA77 => ?_; clear hA74 a73
  refine sts hA77 (op_store hS70 rfl ty_104 (hA77.ev rfl) (hA77.ev rfl) (i := 1) rfl (vs := (ints (mostR R rs plan))) rfl (by rw [ints, List.length_map]; exact (mostR_rates hR).1) (ints_one _) (by first | (simp only [ints, List.length_map, List.length_set]; omega) | (have h2_ := (show (ints (leastR R rs plan)).length = 3 from (by rw [ints, List.length_map]; exact (leastR_rates hR).1)); omega))) rfl rfl ?_
  intro _ w78 hS79 hA81; have hS80 := hS79.blk_say (i := 1) rfl (cs' := (ints (mostR R rs plan))) (setFrom_all _ _ (by first | (simp only [ints, List.length_map, List.length_set]; omega) | (have h1_ := (show (ints (mostR R rs plan)).length = 3 from (by rw [ints, List.length_map]; exact (mostR_rates hR).1)); have h2_ := (show (ints (leastR R rs plan)).length = 3 from (by rw [ints, List.length_map]; exact (leastR_rates hR).1)); omega))); clear hS79 hA77 hS70
  refine wl_nil ?_
  refine then_n ?_
  refine c_seq ?_
  refine c_region ?_
  refine st hA81 (op_field rfl fd_33_0 (hA81.ev rfl)) rfl rfl (by decide) fun a82 hA83 => ?_; clear hA81 a76
  refine st hA83 (op_load1 rfl ty_28 (hA83.ev rfl) (hS80.bk 4 rfl) rfl) rfl rfl (by decide) fun a84 hA85 => ?_; clear hA83 a82
  refine st hA85 (op_lenS rfl un_28 (hA85.ev rfl) (hS80.sk 5 rfl)) rfl rfl (by decide) fun a86 hA87 => ?_; clear hA85 a84
  refine st hA87 (op_sliceArr rfl un_104 ty_3 (hA87.ev rfl) (h := R.length) (hA87.ev rfl) (by omega)) rfl rfl (by decide) fun a88 hA89 => ?_; clear hA87 a86
  refine stw hA89 (op_call rfl en_61 (ev1 (hA89.ev rfl)) (clone_int ((mostR R rs plan).take R.length) _ _ ((SlAt.of_blkCut (hS80.bk 1 rfl) (by have h2_ := (show (ints (mostR R rs plan)).length = 3 from (by rw [ints, List.length_map]; exact (mostR_rates hR).1)); omega) (by omega) (by decide)).say (take_len (show (ints (mostR R rs plan)).length = 3 from (by rw [ints, List.length_map]; exact (mostR_rates hR).1)) (by omega)) (ints_take _ _)) (by simp only [List.length_take]; omega))) rfl rfl (by decide) ?_
  rintro a90 v96 w92 ⟨hE93, hO94⟩ hA91; have hS95 := hS80.new_row hE93 hO94; clear hE93 hO94 hA89 hS80 a88
  refine st hA91 (op_assign rfl (hA91.ev rfl)) rfl rfl (by decide) fun a97 hA98 => ?_; clear hA91 a90
  refine st hA98 (op_assign rfl (evc _ _)) rfl rfl (by decide) fun a99 hA100 => ?_; clear hA98 a97
  refine wl_nil ?_
  refine then_n ?_
  refine c_ret ?_
  refine fin_run hA100 (.inl rfl) (run_results2 hA100 rfl (.tmp rfl) (.tmp rfl)) ?_
  exact ⟨_, rfl, (hS95.row_say (i := 0) rfl (n' := (showF R rs plan hi).length) (xs' := ints (showF R rs plan hi)) (by first | rw [show_y (by assumption)] | rw [show_n (by assumption)]) (by first | rw [show_y (by assumption)] | rw [show_n (by assumption)])).keep [0] (by decide) _ rfl rfl⟩
 ·skip
  rw [hb75] at hA74
  refine c_false hA74 rfl ?_
  refine c_skip ?_
  refine then_n ?_
  refine c_seq ?_
  refine c_region ?_
  refine st hA74 (op_field rfl fd_33_0 (hA74.ev rfl)) rfl rfl (by decide) fun a101 hA102 => ?_; clear hA74 a73
  refine st hA102 (op_load1 rfl ty_28 (hA102.ev rfl) (hS70.bk 4 rfl) rfl) rfl rfl (by decide) fun a103 hA104 => ?_; clear hA102 a101
  refine st hA104 (op_lenS rfl un_28 (hA104.ev rfl) (hS70.sk 5 rfl)) rfl rfl (by decide) fun a105 hA106 => ?_; clear hA104 a103
  refine st hA106 (op_sliceArr rfl un_104 ty_3 (hA106.ev rfl) (h := R.length) (hA106.ev rfl) (by omega)) rfl rfl (by decide) fun a107 hA108 => ?_; clear hA106 a105
  refine stw hA108 (op_call rfl en_61 (ev1 (hA108.ev rfl)) (clone_int ((leastR R rs plan).take R.length) _ _ ((SlAt.of_blkCut (hS70.bk 1 rfl) (by have h2_ := (show (ints (leastR R rs plan)).length = 3 from (by rw [ints, List.length_map]; exact (leastR_rates hR).1)); omega) (by omega) (by decide)).say (take_len (show (ints (leastR R rs plan)).length = 3 from (by rw [ints, List.length_map]; exact (leastR_rates hR).1)) (by omega)) (ints_take _ _)) (by simp only [List.length_take]; omega))) rfl rfl (by decide) ?_
  rintro a109 v115 w111 ⟨hE112, hO113⟩ hA110; have hS114 := hS70.new_row hE112 hO113; clear hE112 hO113 hA108 hS70 a107
  refine st hA110 (op_assign rfl (hA110.ev rfl)) rfl rfl (by decide) fun a116 hA117 => ?_; clear hA110 a109
  refine st hA117 (op_assign rfl (evc _ _)) rfl rfl (by decide) fun a118 hA119 => ?_; clear hA117 a116
  refine wl_nil ?_
  refine then_n ?_
  refine c_ret ?_
  refine fin_run hA119 (.inl rfl) (run_results2 hA119 rfl (.tmp rfl) (.tmp rfl)) ?_
  exact ⟨_, rfl, (hS114.row_say (i := 0) rfl (n' := (showF R rs plan hi).length) (xs' := ints (showF R rs plan hi)) (by first | rw [show_y (by assumption)] | rw [show_n (by assumption)]) (by first | rw [show_y (by assumption)] | rw [show_n (by assumption)])).keep [0] (by decide) _ rfl rfl⟩
end Go.Proofs.Ytkkglkdnnfegkaa

namespace Go.Proofs.Ytkkglkdnnfegkaa
open Go.RowKit Go.Shelf Go.Eng
def planB (R : List (Int × Int)) (plan : List Seg) : Bool := allSegB R.length plan && decide (plan.length ≤ 8)
def readyB (R : List (Int × Int)) (rs : List RunD) (plan : List Seg) : Bool := thinB R rs plan.length && decide (enterF R rs = 0) && planB R plan
theorem ready_is {R : List (Int × Int)} {rs : List RunD} {plan : List Seg} (h : readyB R rs plan = true) : ThinV R rs plan.length ∧ enterF R rs = 0 ∧ plan.length ≤ 8 ∧ allSegB R.length plan = true := by
 simp only [readyB, planB, Bool.and_eq_true, decide_eq_true_eq] at h
 exact ⟨thin_of h.1.1, h.1.2, h.2.2, h.2.1⟩
set_option maxHeartbeats 1000000 in
theorem IsPlan_ok (w : World) (R : List (Int × Int)) (vr : Value) (hm : SlAt w vr 2 R.length (pairs R)) (plan : List Seg) (vp : Value) (hp : SlAt w vp 3 plan.length (trips plan)) (hR6 : R.length ≤ 6) (hp12 : plan.length ≤ 12) :
  Calls Try.prog 33 #[(Value.agg #[vr]), vp] w (Ret fun v w' => v = .bool (planB R plan) ∧ Ext NoB w w') := by
 refine calls_enter Try.func33 rfl fun a0 hA0 => ?_
 replace hA0 : Fr 22 [] [(0, (Value.agg #[vr])), (1, vp)] a0 := hA0
 have hS0 : Sep NoB w w [(sl vr 2 R.length (pairs R)), (sl vp 3 plan.length (trips plan))] := sep_ro ⟨rfl, hm, rfl, hp, trivial⟩
 refine c_seq ?_
 refine c_region ?_
 refine stw hA0 (op_box hS0 rfl (hA0.ev rfl) (cs := [vr]) rfl) rfl rfl (by decide) ?_
 rintro a1 _ w3 ⟨b4, rfl, hS5⟩ hA2; clear hA0 hS0 a0
 refine st hA2 (op_assign rfl (evc _ _)) rfl rfl (by decide) fun a6 hA7 => ?_; clear hA2 a1
 refine wl_nil ?_
 refine then_n ?_
 refine c_seq ?_
 refine c_seq ?_
 refine c_region ?_
 refine st hA7 (op_assign rfl (evc _ _)) rfl rfl (by decide) fun a8 hA9 => ?_; clear hA7 a6
 refine wl_nil ?_
 refine then_n ?_
 refine c_block ?_
 have hA10 := hA9.as [(5, (Value.int .i64 0)), (2, (bptr b4 0)), (1, vp)] rfl; clear hA9
 refine c_loop (G := Nat) (fun (k : Nat) a_ w_ => Fr 22 [] [(5, (Value.int .i64 (k : Int))), (2, (bptr b4 0)), (1, vp)] a_ ∧ Sep NoB w w_ [(blk b4 24 [vr]), (sl vr 2 R.length (pairs R)), (sl vp 3 plan.length (trips plan))] ∧ (k ≤ plan.length) ∧ (∀ i, i < k → segB R.length (plan.getD i (0, 0, 0)) = true)) (fun k => plan.length - k) 0 ⟨hA10.as _ rfl, hS5, by omega, (fun _ h => absurd h (Nat.not_lt_zero _))⟩ ?_
 clear hA10 hS5 a8
 rintro k a11 w13 ⟨hA12, hS14, hkk, hsg⟩
 refine c_seq ?_
 refine c_seq ?_
 refine c_region ?_
 refine st hA12 (op_move rfl (hA12.ev rfl)) rfl rfl (by decide) fun a15 hA16 => ?_; clear hA12 a11
 refine st hA16 (op_move rfl (hA16.ev rfl)) rfl rfl (by decide) fun a17 hA18 => ?_; clear hA16 a15
 refine st hA18 (op_lenS rfl un_51 (hA18.ev rfl) (hS14.sk 2 rfl)) rfl rfl (by decide) fun a19 hA20 => ?_; clear hA18 a17
 refine st hA20 (op_lss rfl (hA20.ev rfl) (hA20.ev rfl)) rfl rfl (by decide) fun a21 hA22 => ?_; clear hA20 a19
 refine wl_nil ?_
 refine then_n ?_
 by_cases hb23 : (k : Int) < (plan.length : Int)
 ·skip
  rw [decide_eq_true hb23] at hA22
  refine c_true hA22 rfl ?_
  refine c_skip ?_
  refine then_n ?_
  refine c_seq ?_
  refine c_block ?_
  refine c_seq ?_
  have hA24 := hA22.as [(5, (Value.int .i64 (k : Int))), (2, (bptr b4 0)), (1, vp)] rfl; clear hA22
  refine c_drawV mixed hA24 hS14 5 [[], [], [], [1, 2], [3]] [(fun (vs25 : Nat → Value) (v_ : Value) (rs_ : List Res) => v_ = (Value.agg #[vr]) ∧ rs_ = []), (fun (vs25 : Nat → Value) (v_ : Value) (rs_ : List Res) => v_ = vp ∧ rs_ = []), (fun (vs25 : Nat → Value) (v_ : Value) (rs_ : List Res) => v_ = (Value.int .i64 (k : Int)) ∧ rs_ = []), (fun (vs25 : Nat → Value) (v_ : Value) (rs_ : List Res) => v_ = (eptr vp (k * 3)) ∧ rs_ = []), (fun (vs25 : Nat → Value) (v_ : Value) (rs_ : List Res) => v_ = (Value.agg #[(Value.int .i64 ((plan.getD k (0, 0, 0)).1)), (Value.int .i64 ((plan.getD k (0, 0, 0)).2.1)), (Value.int .i64 ((plan.getD k (0, 0, 0)).2.2))]) ∧ rs_ = [])] (by decide +kernel) (by decide +kernel) rfl rfl ⟨(fun _ _ _ _ _ h_ => h_), (fun _ _ _ _ _ h_ => h_), (fun _ _ _ _ _ h_ => h_), (fun _ _ _ _ _ h_ => h_), (fun _ _ _ _ _ h_ => h_), trivial⟩ ?_ ?_
  ·skip
   refine ⟨fun a w vs25 hA hS hd => ?_, ?_⟩
   ·skip
    exact opG_of rfl (vv (op_loadA rfl ty_24 (hA.ev rfl) (hS.bk 0 rfl) (l := [vr]) rfl rfl) (And.intro rfl rfl))
   refine ⟨fun a w vs25 hA hS hd => ?_, ?_⟩
   ·skip
    exact opG_of rfl (vv (op_move rfl (hA.ev rfl)) (And.intro rfl rfl))
   refine ⟨fun a w vs25 hA hS hd => ?_, ?_⟩
   ·skip
    exact opG_of rfl (vv (op_move rfl (hA.ev rfl)) (And.intro rfl rfl))
   refine ⟨fun a w vs25 hA hS hd => ?_, ?_⟩
   ·skip
    obtain ⟨e1, rs1, hy1, hp1⟩ := hd 1 (by decide)
    obtain ⟨hv1, hr1⟩ := hy1; subst hr1
    rw [hv1] at e1
    obtain ⟨e2, rs2, hy2, hp2⟩ := hd 2 (by decide)
    obtain ⟨hv2, hr2⟩ := hy2; subst hr2
    rw [hv2] at e2
    exact opG_of rfl (vv (op_indexS rfl un_51 ty_56 (tmp_ev (slot_ev e1 rfl)) (i := k) (tmp_ev (slot_ev e2 rfl)) (hS.sk 2 rfl) (by decide) (by omega)) (And.intro rfl rfl))
   refine ⟨fun a w vs25 hA hS hd => ?_, ?_⟩
   ·skip
    obtain ⟨e3, rs3, hy3, hp3⟩ := hd 3 (by decide)
    obtain ⟨hv3, hr3⟩ := hy3; subst hr3
    rw [hv3] at e3
    exact opG_of rfl (vv (op_loadAE rfl ty_56 (tmp_ev (slot_ev e3 rfl)) (hS.sk 2 rfl) (trips_all (by omega)) rfl (by decide)) (And.intro rfl rfl))
   trivial
  intro a26 w27 vs25 rsf31 hA28 hH30 hS29; clear hA24 hS14
  obtain ⟨hs_0, hy_0⟩ := hH30 0 (by decide)
  obtain ⟨hv_0, hr_0⟩ := hy_0
  obtain ⟨hs_1, hy_1⟩ := hH30 1 (by decide)
  obtain ⟨hv_1, hr_1⟩ := hy_1
  obtain ⟨hs_2, hy_2⟩ := hH30 2 (by decide)
  obtain ⟨hv_2, hr_2⟩ := hy_2
  obtain ⟨hs_3, hy_3⟩ := hH30 3 (by decide)
  obtain ⟨hv_3, hr_3⟩ := hy_3
  obtain ⟨hs_4, hy_4⟩ := hH30 4 (by decide)
  obtain ⟨hv_4, hr_4⟩ := hy_4
  have hS32 : Sep NoB w w27 [(blk b4 24 [vr]), (sl vr 2 R.length (pairs R)), (sl vp 3 plan.length (trips plan))] := by rw [show catR rsf31 0 5 = ([] : List Res) by (try simp only [catR, hr_0, hr_1, hr_2, hr_3, hr_4]); (try rfl)] at hS29; exact hS29
  rw [hv_0] at hs_0
  have hA33 : Fr 22 [] [(12, (Value.agg #[vr])), (5, (Value.int .i64 (k : Int))), (2, (bptr b4 0)), (1, vp)] a26 := hA28.add (slot_ev hs_0 rfl); clear hA28
  rw [hv_4] at hs_4
  have hA34 : Fr 22 [] [(16, (Value.agg #[(Value.int .i64 ((plan.getD k (0, 0, 0)).1)), (Value.int .i64 ((plan.getD k (0, 0, 0)).2.1)), (Value.int .i64 ((plan.getD k (0, 0, 0)).2.2))])), (12, (Value.agg #[vr])), (5, (Value.int .i64 (k : Int))), (2, (bptr b4 0)), (1, vp)] a26 := hA33.add (slot_ev hs_4 rfl); clear hA33
  clear hH30 hS29 hs_0 hs_1 hs_2 hs_3 hs_4
  clear hr_0
  clear hv_0
  clear hr_1
  clear hv_1
  clear hr_2
  clear hv_2
  clear hr_3
  clear hv_3
  clear hr_4
  clear hv_4
  refine stw hA34 (op_call rfl en_62 (ev2 (hA34.ev rfl) (hA34.ev rfl)) (IsSegment_ok _ R _ (hS32.sk 1 rfl) _ _ _ (by omega))) rfl rfl (by decide) ?_
  rintro a35 _ w37 ⟨rfl, hE38⟩ hA36; have hS39 := hS32.step hE38; clear hE38 hA34 hS32 a26
  refine st hA36 (op_not rfl (hA36.ev rfl)) rfl rfl (by decide) fun a40 hA41 => ?_; clear hA36 a35
  refine wl_nil ?_
  refine then_n ?_
  rcases Bool.eq_false_or_eq_true ((segB R.length ((plan.getD k (0, 0, 0)).1, (plan.getD k (0, 0, 0)).2.1, (plan.getD k (0, 0, 0)).2.2))) with hb42 | hb42
  ·skip
   rw [hb42] at hA41
   refine c_false hA41 rfl ?_
   refine c_skip ?_
   refine blk_n ?_
   refine then_n ?_
   refine c_region ?_
   refine st hA41 (op_move rfl (hA41.ev rfl)) rfl rfl (by decide) fun a43 hA44 => ?_; clear hA41 a40
   refine st hA44 (op_add rfl (hA44.ev rfl) (evc _ _) (by omega) (by omega)) rfl rfl (by decide) fun a45 hA46 => ?_; clear hA44 a43
   refine st hA46 (op_assign rfl (hA46.ev rfl)) rfl rfl (by decide) fun a47 hA48 => ?_; clear hA46 a45
   refine wl_nil ?_
   exact then_n ⟨k + 1, ⟨hA48.as _ rfl, hS39, by omega, (fun i hi => by rcases Nat.lt_succ_iff_lt_or_eq.1 hi with h | h; exact hsg i h; subst h; assumption)⟩, by omega⟩
  ·skip
   rw [hb42] at hA41
   refine c_true hA41 rfl ?_
   refine c_seq ?_
   have hA49 := hA41.as [] rfl; clear hA41
   refine c_region ?_
   refine st hA49 (op_assign rfl (evc _ _)) rfl rfl (by decide) fun a50 hA51 => ?_; clear hA49 a40
   refine wl_nil ?_
   refine then_n ?_
   refine c_ret ?_
   refine blk_ret ?_
   refine then_ret ?_
   refine then_ret ?_
   refine blk_ret ?_
   refine then_ret ?_
   refine fin_run hA51 (.inl rfl) (run_results1 hA51 rfl (.tmp rfl)) ?_
   exact ⟨congrArg Value.bool (by unfold planB allSegB; first | (rw [all_yes (p := fun i => segB R.length (plan.getD i (0, 0, 0))) (fun i hi => hsg i (by omega)), Bool.true_and]; (rw [Bool.eq_iff_iff]; (try simp only [Bool.true_and, Bool.false_and, Bool.and_true, Bool.and_false, Bool.false_or, Bool.true_or, Bool.or_false, Bool.or_true, true_and, and_true, false_and, and_false, false_or, or_false, true_or, or_true, Bool.and_eq_true, Bool.or_eq_true, Bool.not_eq_true', decide_eq_true_eq, decide_eq_false_iff_not, Bool.false_eq_true, Bool.true_eq_false, Bool.not_true, Bool.not_false, eq_self_iff_true, true_iff, false_iff, iff_true, iff_false, not_true, not_false_eq_true]); omega)) | (rw [all_no (k := k) (p := fun i => segB R.length (plan.getD i (0, 0, 0))) (by omega) (by assumption), Bool.false_and])), hS39.ext⟩
 ·skip
  rw [decide_eq_false hb23] at hA22
  refine c_false hA22 rfl ?_
  refine c_exit ?_
  refine then_exit ?_
  refine then_exit ?_
  refine blk_hit ?_
  refine then_n ?_
  refine c_seq ?_
  have hA52 := hA22.as [(1, vp)] rfl; clear hA22
  refine c_region ?_
  refine st hA52 (op_move rfl (hA52.ev rfl)) rfl rfl (by decide) fun a53 hA54 => ?_; clear hA52 a21
  refine st hA54 (op_lenS rfl un_51 (hA54.ev rfl) (hS14.sk 2 rfl)) rfl rfl (by decide) fun a55 hA56 => ?_; clear hA54 a53
  refine st hA56 (op_leq rfl (hA56.ev rfl) (evc _ _)) rfl rfl (by decide) fun a57 hA58 => ?_; clear hA56 a55
  refine st hA58 (op_assign rfl (hA58.ev rfl)) rfl rfl (by decide) fun a59 hA60 => ?_; clear hA58 a57
  refine wl_nil ?_
  refine then_n ?_
  refine c_ret ?_
  refine fin_run hA60 (.inl rfl) (run_results1 hA60 rfl (.tmp rfl)) ?_
  exact ⟨congrArg Value.bool (by unfold planB allSegB; first | (rw [all_yes (p := fun i => segB R.length (plan.getD i (0, 0, 0))) (fun i hi => hsg i (by omega)), Bool.true_and]; (rw [Bool.eq_iff_iff]; (try simp only [Bool.true_and, Bool.false_and, Bool.and_true, Bool.and_false, Bool.false_or, Bool.true_or, Bool.or_false, Bool.or_true, true_and, and_true, false_and, and_false, false_or, or_false, true_or, or_true, Bool.and_eq_true, Bool.or_eq_true, Bool.not_eq_true', decide_eq_true_eq, decide_eq_false_iff_not, Bool.false_eq_true, Bool.true_eq_false, Bool.not_true, Bool.not_false, eq_self_iff_true, true_iff, false_iff, iff_true, iff_false, not_true, not_false_eq_true]); omega)) | (rw [all_no (k := k) (p := fun i => segB R.length (plan.getD i (0, 0, 0))) (by omega) (by assumption), Bool.false_and])), hS14.ext⟩
set_option maxHeartbeats 1000000 in
theorem ready_ok (w : World) (R : List (Int × Int)) (vr : Value) (hm : SlAt w vr 2 R.length (pairs R)) (rs : List RunD) (lv : List Value) (vu : Value) (hx : RunsAt w vu lv rs) (plan : List Seg) (vp : Value) (hp : SlAt w vp 3 plan.length (trips plan)) :
  Calls Try.prog 27 #[(Value.agg #[vr]), vu, vp] w (Ret fun v w' => v = .bool (readyB R rs plan) ∧ Ext NoB w w') := by
 refine calls_enter Try.func27 rfl fun a0 hA0 => ?_
 replace hA0 : Fr 22 [] [(0, (Value.agg #[vr])), (1, vu), (2, vp)] a0 := hA0
 have hS0 : Sep NoB w w [(sl vr 2 R.length (pairs R)), (runsR false vu lv rs), (sl vp 3 plan.length (trips plan))] := sep_ro ⟨rfl, hm, rfl, hx, rfl, hp, trivial⟩
 refine c_seq ?_
 refine c_region ?_
 refine stw hA0 (op_box hS0 rfl (hA0.ev rfl) (cs := [vr]) rfl) rfl rfl (by decide) ?_
 rintro a1 _ w3 ⟨b4, rfl, hS5⟩ hA2; clear hA0 hS0 a0
 refine st hA2 (op_assign rfl (evc _ _)) rfl rfl (by decide) fun a6 hA7 => ?_; clear hA2 a1
 refine wl_nil ?_
 refine then_n ?_
 refine c_seq ?_
 refine c_region ?_
 refine st hA7 (op_loadA rfl ty_24 (hA7.ev rfl) (hS5.bk 0 rfl) (l := [vr]) rfl rfl) rfl rfl (by decide) fun a8 hA9 => ?_; clear hA7 a6
 refine st hA9 (op_move rfl (hA9.ev rfl)) rfl rfl (by decide) fun a10 hA11 => ?_; clear hA9 a8
 refine st hA11 (op_move rfl (hA11.ev rfl)) rfl rfl (by decide) fun a12 hA13 => ?_; clear hA11 a10
 refine stw hA13 (op_call rfl en_16 (ev3 (hA13.ev rfl) (hA13.ev rfl) (hA13.ev rfl)) (Thin_ok _ R _ (hS5.sk 1 rfl) rs _ _ (runs_at (hS5.ok 2 _ rfl)) plan _ (hS5.sk 3 rfl))) rfl rfl (by decide) ?_
 rintro a14 _ w16 ⟨rfl, hE17⟩ hA15; have hS18 := hS5.step hE17; clear hE17 hA13 hS5 a12
 refine st hA15 (op_move rfl (hA15.ev rfl)) rfl rfl (by decide) fun a19 hA20 => ?_; clear hA15 a14
 rcases Bool.eq_false_or_eq_true ((thinB R rs plan.length)) with hb21 | hb21
 ·skip
  rw [hb21] at hA20
  have hth := thin_of (R := R) (rs := rs) (pl := plan.length) (by assumption); have h6 := hth.mat; have h12 := hth.plan
  refine stg hA20 (op_loadA rfl ty_24 (hA20.ev rfl) (hS18.bk 0 rfl) (l := [vr]) rfl rfl) rfl rfl rfl rfl (by decide) fun a22 hA23 => ?_; clear hA20 a19
  refine stg hA23 (op_move rfl (hA23.ev rfl)) rfl rfl rfl rfl (by decide) fun a24 hA25 => ?_; clear hA23 a22
  refine stwg hA25 (op_call rfl en_41 (ev2 (hA25.ev rfl) (hA25.ev rfl)) (fault_ok _ R _ (hS18.sk 1 rfl) rs _ _ (runs_at (hS18.ok 2 _ rfl)))) rfl rfl rfl rfl (by decide) ?_
  rintro a26 _ w28 ⟨rfl, hE29⟩ hA27; have hS30 := hS18.step hE29; clear hE29 hA25 hS18 a24
  refine stg hA27 (op_eql rfl (hA27.ev rfl) (evc _ _)) rfl rfl rfl rfl (by decide) fun a31 hA32 => ?_; clear hA27 a26
  refine st hA32 (op_pick_t rfl (hA32.ev rfl) (hA32.ev rfl)) rfl rfl (by decide) fun a33 hA34 => ?_; clear hA32 a31
  refine st hA34 (op_move rfl (hA34.ev rfl)) rfl rfl (by decide) fun a35 hA36 => ?_; clear hA34 a33
  by_cases hb37 : (enterF R rs) = 0
  ·skip
   rw [decide_eq_true hb37] at hA36
   refine stg hA36 (op_loadA rfl ty_24 (hA36.ev rfl) (hS30.bk 0 rfl) (l := [vr]) rfl rfl) rfl rfl rfl rfl (by decide) fun a38 hA39 => ?_; clear hA36 a35
   refine stg hA39 (op_move rfl (hA39.ev rfl)) rfl rfl rfl rfl (by decide) fun a40 hA41 => ?_; clear hA39 a38
   refine stwg hA41 (op_call rfl en_33 (ev2 (hA41.ev rfl) (hA41.ev rfl)) (IsPlan_ok _ R _ (hS30.sk 1 rfl) plan _ (hS30.sk 3 rfl) (by omega) (by omega))) rfl rfl rfl rfl (by decide) ?_
   rintro a42 _ w44 ⟨rfl, hE45⟩ hA43; have hS46 := hS30.step hE45; clear hE45 hA41 hS30 a40
   refine st hA43 (op_pick_t rfl (hA43.ev rfl) (hA43.ev rfl)) rfl rfl (by decide) fun a47 hA48 => ?_; clear hA43 a42
   refine st hA48 (op_assign rfl (hA48.ev rfl)) rfl rfl (by decide) fun a49 hA50 => ?_; clear hA48 a47
   refine wl_nil ?_
   refine then_n ?_
   refine c_ret ?_
   refine fin_run hA50 (.inl rfl) (run_results1 hA50 rfl (.tmp rfl)) ?_
   exact ⟨congrArg Value.bool (by unfold readyB; simp [*]), hS46.ext⟩
  ·skip
   rw [decide_eq_false hb37] at hA36
   refine skp hA36 rfl rfl rfl rfl rfl (by decide) fun a51 hA52 => ?_; clear hA36 a35
   refine skp hA52 rfl rfl rfl rfl rfl (by decide) fun a53 hA54 => ?_; clear hA52 a51
   refine skp hA54 rfl rfl rfl rfl rfl (by decide) fun a55 hA56 => ?_; clear hA54 a53
   refine st hA56 (op_pick_f rfl (hA56.ev rfl) (evc _ _)) rfl rfl (by decide) fun a57 hA58 => ?_; clear hA56 a55
   refine st hA58 (op_assign rfl (hA58.ev rfl)) rfl rfl (by decide) fun a59 hA60 => ?_; clear hA58 a57
   refine wl_nil ?_
   refine then_n ?_
   refine c_ret ?_
   refine fin_run hA60 (.inl rfl) (run_results1 hA60 rfl (.tmp rfl)) ?_
   exact ⟨congrArg Value.bool (by unfold readyB; simp [*]), hS30.ext⟩
 ·skip
  rw [hb21] at hA20
  refine skp hA20 rfl rfl rfl rfl rfl (by decide) fun a61 hA62 => ?_; clear hA20 a19
  refine skp hA62 rfl rfl rfl rfl rfl (by decide) fun a63 hA64 => ?_; clear hA62 a61
  refine skp hA64 rfl rfl rfl rfl rfl (by decide) fun a65 hA66 => ?_; clear hA64 a63
  refine skp hA66 rfl rfl rfl rfl rfl (by decide) fun a67 hA68 => ?_; clear hA66 a65
  refine st hA68 (op_pick_f rfl (hA68.ev rfl) (evc _ _)) rfl rfl (by decide) fun a69 hA70 => ?_; clear hA68 a67
  refine st hA70 (op_move rfl (hA70.ev rfl)) rfl rfl (by decide) fun a71 hA72 => ?_; clear hA70 a69
  refine skp hA72 rfl rfl rfl rfl rfl (by decide) fun a73 hA74 => ?_; clear hA72 a71
  refine skp hA74 rfl rfl rfl rfl rfl (by decide) fun a75 hA76 => ?_; clear hA74 a73
  refine skp hA76 rfl rfl rfl rfl rfl (by decide) fun a77 hA78 => ?_; clear hA76 a75
  refine st hA78 (op_pick_f rfl (hA78.ev rfl) (evc _ _)) rfl rfl (by decide) fun a79 hA80 => ?_; clear hA78 a77
  refine st hA80 (op_assign rfl (hA80.ev rfl)) rfl rfl (by decide) fun a81 hA82 => ?_; clear hA80 a79
  refine wl_nil ?_
  refine then_n ?_
  refine c_ret ?_
  refine fin_run hA82 (.inl rfl) (run_results1 hA82 rfl (.tmp rfl)) ?_
  exact ⟨congrArg Value.bool (by unfold readyB; simp [*]), hS18.ext⟩
end Go.Proofs.Ytkkglkdnnfegkaa
